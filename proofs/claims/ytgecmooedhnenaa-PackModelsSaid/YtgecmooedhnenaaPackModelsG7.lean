/- A part of this claim. No condition. -/
import Derived.Test.YtgecmooedhnenaaPackModelsG6
set_option maxRecDepth 100000
set_option maxHeartbeats 2000000
set_option linter.unusedVariables false
set_option linter.unusedSimpArgs false
set_option linter.unnecessarySimpa false
namespace Go.Proofs.Ytgecmooedhnenaa
open Go.RowKit
def blocksE:List Blc→Int
 | []=>0
 | x::l=>if (blockR x).2≠0 then (blockR x).2 else blocksE l
theorem blocksE_y {l:List Blc}:(∀ k,k<l.length→(blockR (l.getD k default)).2=0)→blocksE l=0:=by
 induction l with
 | nil=>intro _;rfl
 | cons n l ih =>
  intro h
  have h0:(blockR n).2=0:=h 0 (by simp)
  rw [blocksE,if_neg (by simpa using h0)]
  exact ih fun k hk=>h (k+1) (by simpa using hk)
theorem blocksE_n {l:List Blc}:∀ {m:Nat},m<l.length→(blockR (l.getD m default)).2≠0→(∀ k,k<m→(blockR (l.getD k default)).2=0)→blocksE l=(blockR (l.getD m default)).2:=by
 induction l with
 | nil=>intro m hm;simp at hm
 | cons n l ih =>
  intro m hm hf h
  cases m with
  | zero=>rw [blocksE,if_pos (by exact hf)];rfl
  | succ m =>
   have h0:(blockR n).2=0:=h 0 (by omega)
   rw [blocksE,if_neg (by simpa using h0)]
   exact ih (by simpa using hm) hf fun k hk=>h (k+1) (by omega)
def accM (l:List Blc) (B:List Int):Nat→List Int
 | 0=>B
 | k+1=>accM l B k++(blockR (l.getD k default)).1
structure Mdl.Fw (m:Mdl):Prop where
 b:∀ x∈m.l,Blc.Fw x
 l:m.l.length≤8
theorem Blc.Fw.n3 {x:Blc} (h:x.Fw):∀ n∈x.n,n.w.length≤3000∧n.b.length≤3000:=fun n hn=>by have:=h.n n hn;omega
theorem accM_le {m:Mdl} (h:m.Fw) (B:List Int) {k:Nat} (hk:k≤m.l.length):(accM m.l B k).length≤B.length+50000*k:=by
 induction k with
 | zero=>exact Nat.le_refl _
 | succ k ih =>
  have a:=ih (by omega)
  have b:=blockR_few (getD_in h.b (show k<m.l.length by omega))
  rw [accM,lla];omega
def modelR (m:Mdl):List Int×Int:=if 6<m.l.length then ([],4) else if blocksE m.l≠0 then ([],blocksE m.l) else (accM m.l (putN (m.l.length:Int)) m.l.length,0)
theorem modelR_le {m:Mdl} (h:m.Fw):(modelR m).1.length≤10000000:=by
 have a:=accM_le h (putN (m.l.length:Int)) (Nat.le_refl _)
 have b:=putN_len (m.l.length:Int)
 have c:=h.l
 unfold modelR
 split
 ·exact Nat.zero_le _
 ·split
  ·exact Nat.zero_le _
  ·dsimp only;omega
noncomputable def pmod_y_I (m:Mdl) (B:List Int) (k:Nat):VS:=stt 50 [(1,.ptr 1 0 0),(4,.ptr 15 0 0),(22,.sl 5 (m.l.map blcC)),(23,i64 m.l.length),(24,i64 k)] [(1,.var (mdlC m)),(15,.var [.own 900]),(900,.slc 5 1 ((accM m.l B k).map (row1 .u8)))]
noncomputable def pmod_y_Z (m:Mdl) (B:List Int):VS:=pmod_y_I m B (m.l.length)
theorem pmod_y_s (m:Mdl) (B:List Int) (fw:m.Fw) (hB:B.length≤10) (h:∀ k,k<m.l.length→(blockR (m.l.getD k default)).2=0) (k:Nat) (hk:k<m.l.length):VT Try.prog (fnC Try.f50 [1,1,1,1,1,0,1,0,0]) (pmod_y_I m B k) .normal (pmod_y_I m B (k+1)):=by
 have q:=h k hk
 have q1:=getD_in fw.b hk
 have q2:=q1.ok
 have q3:=q1.n3
 have q4:=accM_le fw B (Nat.le_of_lt hk)
 have q5:=blockR_few q1
 have q6:=fw.l
 have oz2:=(map_at (blcC) (default) (l:=m.l) (i:=k) hk)
 have oz3 := @pblock_v (m.l.getD k default) q2 q3
 exact VT.run (W:=[.r [] [],.br true,.r [] [.row (sO oz2)],.r [] [.callr (rO oz3)],.r [] [],.br false,.r [] [],.r [] [.n ((↑k:Int)+1)]]) (G:=[.any (rg [(7,3),(25,10),(36,10)]),.drop [7],.ren 42 900,.weak 24 (i64 (↑(k+1):Int)),.blk 900 (Blk.slc 5 1 (List.map (row1 IntKind.u8) (accM m.l B (k+1)))),.sort]) (by kernel_rfl) (.c (decide_eq_true (p:=((↑k:Int)<(↑m.l.length:Int))) (by omega))<|.c (show 0≤(↑k:Int) by omega)<|.c oz2<|.c oz3<|.c (show ((blockR (m.l.getD k default)).snd != 0)=false by (simp at *;omega))<|.c (show ((List.map (row1 IntKind.u8) (accM m.l B k)).length+(List.map (row1 IntKind.u8) (blockR (m.l.getD k default)).fst).length)*1≤140737488355328 by (simp only [List.length_map];omega))<|.c (show (List.map (row1 IntKind.u8) (accM m.l B k)).length+(List.map (row1 IntKind.u8) (blockR (m.l.getD k default)).fst).length≤9223372036854775807 by (simp only [List.length_map];omega))<|.c (i6n ((↑k:Int)+1) (by omega))<|.c (Weak.int (k:=.i64) (show (((↑k:Int)+1):Int)=((↑(k+1):Int)) from (by omega)))<|.c (show BlkW (Blk.slc 5 1 (List.map (row1 IntKind.u8) (accM m.l B k)++List.map (row1 IntKind.u8) (blockR (m.l.getD k default)).fst)) (Blk.slc 5 1 (List.map (row1 IntKind.u8) (accM m.l B (k+1)))) from (BlkW.rows (e:=5) (z:=1) (rows_to (row1 IntKind.u8) (r:=List.map (row1 IntKind.u8) (accM m.l B k)++List.map (row1 IntKind.u8) (blockR (m.l.getD k default)).fst) (l:=accM m.l B k++(blockR (m.l.getD k default)).fst) (m:=accM m.l B (k+1)) (by first|(simp;done)|rfl|(simp;rfl)) (show (accM m.l B k++(blockR (m.l.getD k default)).fst)=(accM m.l B (k+1)) from (by rfl)))))<|.n)
theorem pmod_y_e (m:Mdl) (B:List Int) (fw:m.Fw) (hB:B.length≤10) (h:∀ k,k<m.l.length→(blockR (m.l.getD k default)).2=0):VT Try.prog (fnC Try.f50 [1,1,1,1,1,0,1,0,0]) (pmod_y_I m B (m.l.length)) (.exit 0) (pmod_y_Z m B):=by
 exact VT.run (W:=[.r [] [],.br false]) (G:=[.any [25],.sort]) (by kernel_rfl) (.c (decide_eq_false (p:=((↑m.l.length:Int)<(↑m.l.length:Int))) (by omega))<|.n)
theorem pmod_y (m:Mdl) (B:List Int) (fw:m.Fw) (hB:B.length≤10) (h:∀ k,k<m.l.length→(blockR (m.l.getD k default)).2=0):VT Try.prog (fnC Try.f50 [1,1,1,1,1,0,1,0]) (pmod_y_I m B 0) (.exit 0) (pmod_y_Z m B) :=
 VT.loop (fun k=>pmod_y_I m B k) (m.l.length) (fun k hk=>pmod_y_s m B fw hB h k hk) (pmod_y_e m B fw hB h) (by intro h;cases h)
noncomputable def pmod_n_I (m:Mdl) (B:List Int) (j:Nat) (k:Nat):VS:=stt 50 [(1,.ptr 1 0 0),(4,.ptr 15 0 0),(22,.sl 5 (m.l.map blcC)),(23,i64 m.l.length),(24,i64 k)] [(1,.var (mdlC m)),(15,.var [.own 900]),(900,.slc 5 1 ((accM m.l B k).map (row1 .u8)))]
noncomputable def pmod_n_Z (m:Mdl) (B:List Int) (j:Nat):VS:=stt 50 [(2,nilv),(3,i64 (blockR (m.l.getD j default)).2)] []
theorem pmod_n_s (m:Mdl) (B:List Int) (j:Nat) (fw:m.Fw) (hB:B.length≤10) (hj:j<m.l.length) (hf:(blockR (m.l.getD j default)).2≠0) (h:∀ k,k<j→(blockR (m.l.getD k default)).2=0) (k:Nat) (hk:k<j):VT Try.prog (fnC Try.f50 [1,1,1,1,1,0,1,0,0]) (pmod_n_I m B j k) .normal (pmod_n_I m B j (k+1)):=by
 have q:=h k hk
 have q0:k<m.l.length:=by omega
 have q1:=getD_in fw.b q0
 have q2:=q1.ok
 have q3:=q1.n3
 have q4:=accM_le fw B (Nat.le_of_lt q0)
 have q5:=blockR_few q1
 have q6:=fw.l
 have oz2:=(map_at (blcC) (default) (l:=m.l) (i:=k) q0)
 have oz3 := @pblock_v (m.l.getD k default) q2 q3
 exact VT.run (W:=[.r [] [],.br true,.r [] [.row (sO oz2)],.r [] [.callr (rO oz3)],.r [] [],.br false,.r [] [],.r [] [.n ((↑k:Int)+1)]]) (G:=[.any (rg [(7,3),(25,10),(36,10)]),.drop [7],.ren 42 900,.weak 24 (i64 (↑(k+1):Int)),.blk 900 (Blk.slc 5 1 (List.map (row1 IntKind.u8) (accM m.l B (k+1)))),.sort]) (by kernel_rfl) (.c (decide_eq_true (p:=((↑k:Int)<(↑m.l.length:Int))) (by omega))<|.c (show 0≤(↑k:Int) by omega)<|.c oz2<|.c oz3<|.c (show ((blockR (m.l.getD k default)).snd != 0)=false by (simp at *;omega))<|.c (show ((List.map (row1 IntKind.u8) (accM m.l B k)).length+(List.map (row1 IntKind.u8) (blockR (m.l.getD k default)).fst).length)*1≤140737488355328 by (simp only [List.length_map];omega))<|.c (show (List.map (row1 IntKind.u8) (accM m.l B k)).length+(List.map (row1 IntKind.u8) (blockR (m.l.getD k default)).fst).length≤9223372036854775807 by (simp only [List.length_map];omega))<|.c (i6n ((↑k:Int)+1) (by omega))<|.c (Weak.int (k:=.i64) (show (((↑k:Int)+1):Int)=((↑(k+1):Int)) from (by omega)))<|.c (show BlkW (Blk.slc 5 1 (List.map (row1 IntKind.u8) (accM m.l B k)++List.map (row1 IntKind.u8) (blockR (m.l.getD k default)).fst)) (Blk.slc 5 1 (List.map (row1 IntKind.u8) (accM m.l B (k+1)))) from (BlkW.rows (e:=5) (z:=1) (rows_to (row1 IntKind.u8) (r:=List.map (row1 IntKind.u8) (accM m.l B k)++List.map (row1 IntKind.u8) (blockR (m.l.getD k default)).fst) (l:=accM m.l B k++(blockR (m.l.getD k default)).fst) (m:=accM m.l B (k+1)) (by first|(simp;done)|rfl|(simp;rfl)) (show (accM m.l B k++(blockR (m.l.getD k default)).fst)=(accM m.l B (k+1)) from (by rfl)))))<|.n)
theorem pmod_n_e (m:Mdl) (B:List Int) (j:Nat) (fw:m.Fw) (hB:B.length≤10) (hj:j<m.l.length) (hf:(blockR (m.l.getD j default)).2≠0) (h:∀ k,k<j→(blockR (m.l.getD k default)).2=0):VT Try.prog (fnC Try.f50 [1,1,1,1,1,0,1,0,0]) (pmod_n_I m B j (j)) (.ret) (pmod_n_Z m B j):=by
 have q1:=getD_in fw.b hj
 have q2:=q1.ok
 have q3:=q1.n3
 have oz2:=(map_at (blcC) (default) (l:=m.l) (i:=j) hj)
 have oz3 := @pblock_v (m.l.getD j default) q2 q3
 exact VT.run (W:=[.r [] [],.br true,.r [] [.row (sO oz2)],.r [] [.callr (rO oz3)],.r [] [],.br true,.r [] []]) (G:=[.any (rg [(1,1),(4,1),(7,3),(22,14)]),.drop [1,15,900,7],.sort]) (by kernel_rfl) (.c (decide_eq_true (p:=((↑j:Int)<(↑m.l.length:Int))) (by omega))<|.c (show 0≤(↑j:Int) by omega)<|.c oz2<|.c oz3<|.c (show ((blockR (m.l.getD j default)).snd != 0)=true by (simp at *;omega))<|.n)
theorem pmod_n (m:Mdl) (B:List Int) (j:Nat) (fw:m.Fw) (hB:B.length≤10) (hj:j<m.l.length) (hf:(blockR (m.l.getD j default)).2≠0) (h:∀ k,k<j→(blockR (m.l.getD k default)).2=0):VT Try.prog (fnC Try.f50 [1,1,1,1,1,0,1,0]) (pmod_n_I m B j 0) (.ret) (pmod_n_Z m B j) :=
 VT.loop (fun k=>pmod_n_I m B j k) (j) (fun k hk=>pmod_n_s m B j fw hB hj hf h k hk) (pmod_n_e m B j fw hB hj hf h) (by intro h;cases h)
noncomputable def rmod_y_I (m:Mdl) (B:List Int) (k:Nat):VS:=stt 39 [(1,.ptr 1 0 0),(4,.own 900),(5,i64 k)] [(1,.var (mdlC m)),(900,.slc 5 1 ((accM m.l B k).map (row1 .u8)))]
noncomputable def rmod_y_Z (m:Mdl) (B:List Int):VS:=rmod_y_I m B (m.l.length)
theorem rmod_y_s (m:Mdl) (B:List Int) (fw:m.Fw) (hB:B.length≤10) (h:∀ k,k<m.l.length→(blockR (m.l.getD k default)).2=0) (k:Nat) (hk:k<m.l.length):VT Try.prog (fnC Try.f51 [1,1,1,0,1,0,0]) (rmod_y_I m B k) .normal (rmod_y_I m B (k+1)):=by
 have q:=h k hk
 have q1:=getD_in fw.b hk
 have q2:=q1.ok
 have q3:=q1.n3
 have q4:=accM_le fw B (Nat.le_of_lt hk)
 have q5:=blockR_few q1
 have q6:=fw.l
 have oz2:=(map_at (blcC) (default) (l:=m.l) (i:=k) hk)
 have oz3 := @rblock_v (m.l.getD k default) q2 q3
 exact VT.run (W:=[.r [] [],.br true,.r [] [.row (sO oz2),.callr (rO oz3)],.r [] [],.br false,.r [] [],.r [] [.n ((↑k:Int)+1)]]) (G:=[.any (rg [(6,2),(16,18),(35,3)]),.ren 37 900,.weak 5 (i64 (↑(k+1):Int)),.blk 900 (Blk.slc 5 1 (List.map (row1 IntKind.u8) (accM m.l B (k+1)))),.sort]) (by kernel_rfl) (.c (show decide ((↑k:Int)<(↑(List.map blcC m.l).length:Int))=true by (simp;omega))<|.c (show 0≤(↑k:Int) by omega)<|.c oz2<|.c oz3<|.c (show ((blockR (m.l.getD k default)).snd != 0)=false by (simp at *;omega))<|.c (show ((List.map (row1 IntKind.u8) (accM m.l B k)).length+(List.map (row1 IntKind.u8) (blockR (m.l.getD k default)).fst).length)*1≤140737488355328 by (simp only [List.length_map];omega))<|.c (show (List.map (row1 IntKind.u8) (accM m.l B k)).length+(List.map (row1 IntKind.u8) (blockR (m.l.getD k default)).fst).length≤9223372036854775807 by (simp only [List.length_map];omega))<|.c (i6n ((↑k:Int)+1) (by omega))<|.c (Weak.int (k:=.i64) (show (((↑k:Int)+1):Int)=((↑(k+1):Int)) from (by omega)))<|.c (show BlkW (Blk.slc 5 1 (List.map (row1 IntKind.u8) (accM m.l B k)++List.map (row1 IntKind.u8) (blockR (m.l.getD k default)).fst)) (Blk.slc 5 1 (List.map (row1 IntKind.u8) (accM m.l B (k+1)))) from (BlkW.rows (e:=5) (z:=1) (rows_to (row1 IntKind.u8) (r:=List.map (row1 IntKind.u8) (accM m.l B k)++List.map (row1 IntKind.u8) (blockR (m.l.getD k default)).fst) (l:=accM m.l B k++(blockR (m.l.getD k default)).fst) (m:=accM m.l B (k+1)) (by first|(simp;done)|rfl|(simp;rfl)) (show (accM m.l B k++(blockR (m.l.getD k default)).fst)=(accM m.l B (k+1)) from (by rfl)))))<|.n)
theorem rmod_y_e (m:Mdl) (B:List Int) (fw:m.Fw) (hB:B.length≤10) (h:∀ k,k<m.l.length→(blockR (m.l.getD k default)).2=0):VT Try.prog (fnC Try.f51 [1,1,1,0,1,0,0]) (rmod_y_I m B (m.l.length)) (.exit 0) (rmod_y_Z m B):=by
 exact VT.run (W:=[.r [] [],.br false]) (G:=[.any (rg [(16,5)]),.sort]) (by kernel_rfl) (.c (show decide ((↑m.l.length:Int)<(↑(List.map blcC m.l).length:Int))=false by (simp;done))<|.n)
theorem rmod_y (m:Mdl) (B:List Int) (fw:m.Fw) (hB:B.length≤10) (h:∀ k,k<m.l.length→(blockR (m.l.getD k default)).2=0):VT Try.prog (fnC Try.f51 [1,1,1,0,1,0]) (rmod_y_I m B 0) (.exit 0) (rmod_y_Z m B) :=
 VT.loop (fun k=>rmod_y_I m B k) (m.l.length) (fun k hk=>rmod_y_s m B fw hB h k hk) (rmod_y_e m B fw hB h) (by intro h;cases h)
noncomputable def rmod_n_I (m:Mdl) (B:List Int) (j:Nat) (k:Nat):VS:=stt 39 [(1,.ptr 1 0 0),(4,.own 900),(5,i64 k)] [(1,.var (mdlC m)),(900,.slc 5 1 ((accM m.l B k).map (row1 .u8)))]
noncomputable def rmod_n_Z (m:Mdl) (B:List Int) (j:Nat):VS:=stt 39 [(2,nilv),(3,i64 (blockR (m.l.getD j default)).2)] []
theorem rmod_n_s (m:Mdl) (B:List Int) (j:Nat) (fw:m.Fw) (hB:B.length≤10) (hj:j<m.l.length) (hf:(blockR (m.l.getD j default)).2≠0) (h:∀ k,k<j→(blockR (m.l.getD k default)).2=0) (k:Nat) (hk:k<j):VT Try.prog (fnC Try.f51 [1,1,1,0,1,0,0]) (rmod_n_I m B j k) .normal (rmod_n_I m B j (k+1)):=by
 have q:=h k hk
 have q0:k<m.l.length:=by omega
 have q1:=getD_in fw.b q0
 have q2:=q1.ok
 have q3:=q1.n3
 have q4:=accM_le fw B (Nat.le_of_lt q0)
 have q5:=blockR_few q1
 have q6:=fw.l
 have oz2:=(map_at (blcC) (default) (l:=m.l) (i:=k) q0)
 have oz3 := @rblock_v (m.l.getD k default) q2 q3
 exact VT.run (W:=[.r [] [],.br true,.r [] [.row (sO oz2),.callr (rO oz3)],.r [] [],.br false,.r [] [],.r [] [.n ((↑k:Int)+1)]]) (G:=[.any (rg [(6,2),(16,18),(35,3)]),.ren 37 900,.weak 5 (i64 (↑(k+1):Int)),.blk 900 (Blk.slc 5 1 (List.map (row1 IntKind.u8) (accM m.l B (k+1)))),.sort]) (by kernel_rfl) (.c (show decide ((↑k:Int)<(↑(List.map blcC m.l).length:Int))=true by (simp;omega))<|.c (show 0≤(↑k:Int) by omega)<|.c oz2<|.c oz3<|.c (show ((blockR (m.l.getD k default)).snd != 0)=false by (simp at *;omega))<|.c (show ((List.map (row1 IntKind.u8) (accM m.l B k)).length+(List.map (row1 IntKind.u8) (blockR (m.l.getD k default)).fst).length)*1≤140737488355328 by (simp only [List.length_map];omega))<|.c (show (List.map (row1 IntKind.u8) (accM m.l B k)).length+(List.map (row1 IntKind.u8) (blockR (m.l.getD k default)).fst).length≤9223372036854775807 by (simp only [List.length_map];omega))<|.c (i6n ((↑k:Int)+1) (by omega))<|.c (Weak.int (k:=.i64) (show (((↑k:Int)+1):Int)=((↑(k+1):Int)) from (by omega)))<|.c (show BlkW (Blk.slc 5 1 (List.map (row1 IntKind.u8) (accM m.l B k)++List.map (row1 IntKind.u8) (blockR (m.l.getD k default)).fst)) (Blk.slc 5 1 (List.map (row1 IntKind.u8) (accM m.l B (k+1)))) from (BlkW.rows (e:=5) (z:=1) (rows_to (row1 IntKind.u8) (r:=List.map (row1 IntKind.u8) (accM m.l B k)++List.map (row1 IntKind.u8) (blockR (m.l.getD k default)).fst) (l:=accM m.l B k++(blockR (m.l.getD k default)).fst) (m:=accM m.l B (k+1)) (by first|(simp;done)|rfl|(simp;rfl)) (show (accM m.l B k++(blockR (m.l.getD k default)).fst)=(accM m.l B (k+1)) from (by rfl)))))<|.n)
theorem rmod_n_e (m:Mdl) (B:List Int) (j:Nat) (fw:m.Fw) (hB:B.length≤10) (hj:j<m.l.length) (hf:(blockR (m.l.getD j default)).2≠0) (h:∀ k,k<j→(blockR (m.l.getD k default)).2=0):VT Try.prog (fnC Try.f51 [1,1,1,0,1,0,0]) (rmod_n_I m B j (j)) (.ret) (rmod_n_Z m B j):=by
 have q1:=getD_in fw.b hj
 have q2:=q1.ok
 have q3:=q1.n3
 have oz2:=(map_at (blcC) (default) (l:=m.l) (i:=j) hj)
 have oz3 := @rblock_v (m.l.getD j default) q2 q3
 exact VT.run (W:=[.r [] [],.br true,.r [] [.row (sO oz2),.callr (rO oz3)],.r [] [],.br true,.r [] []]) (G:=[.any (rg [(1,1),(4,4),(16,5),(23,12)]),.drop [1,900],.sort]) (by kernel_rfl) (.c (show decide ((↑j:Int)<(↑(List.map blcC m.l).length:Int))=true by (simp;omega))<|.c (show 0≤(↑j:Int) by omega)<|.c oz2<|.c oz3<|.c (show ((blockR (m.l.getD j default)).snd != 0)=true by (simp at *;omega))<|.n)
theorem rmod_n (m:Mdl) (B:List Int) (j:Nat) (fw:m.Fw) (hB:B.length≤10) (hj:j<m.l.length) (hf:(blockR (m.l.getD j default)).2≠0) (h:∀ k,k<j→(blockR (m.l.getD k default)).2=0):VT Try.prog (fnC Try.f51 [1,1,1,0,1,0]) (rmod_n_I m B j 0) (.ret) (rmod_n_Z m B j) :=
 VT.loop (fun k=>rmod_n_I m B j k) (j) (fun k hk=>rmod_n_s m B j fw hB hj hf h k hk) (rmod_n_e m B j fw hB hj hf h) (by intro h;cases h)
theorem pmodel_f (m:Mdl) (h:6<m.l.length):VC Try.prog 50 ([.agg (mdlC m)]) (.tup [.sl 1 (([]:List Int).map (row1 .u8)),i64 4]):=by
 exact (VC.run (fn:=Try.f50) (W:=[.r [] [],.r [] [],.br true,.r [] []]) (r:=AV.tup [nilv,i64 4]) Try.func50 (by kernel_rfl) (.c (show decide ((↑(List.map blcC m.l).length:Int) > 6)=true by (simp;omega))<|.n)).weak (WeakL.refl _) (Weak.tup (.cons (Weak.nil _) (.cons (.refl _) .nil)))
theorem pmodel_n (L:Int→List Int) (m:Mdl) (j:Nat) (hL:Puts L) (fw:m.Fw) (hl:m.l.length≤6) (hj:j<m.l.length) (hf:(blockR (m.l.getD j default)).2≠0) (h:∀ k,k<j→(blockR (m.l.getD k default)).2=0):VC Try.prog 50 ([.agg (mdlC m)]) (.tup [.sl 1 (([]:List Int).map (row1 .u8)),i64 (blockR (m.l.getD j default)).2]):=by
 have hB:([]++L (m.l.length:Int)).length≤10:=hL.l _
 have oz1 := @VM.pre _ _ ([AV.ptr 100000 0 0,AV.ptr 100001 0 0,i64 6]) _ ([(100000,Blk.var [nilv]),(100001,Blk.var [i64 (↑(List.map blcC m.l).length:Int)])]) _ _ _ ([GI.nilc 950 5 1 100000 0,GI.sort]) _ (@lnum_1 ([]) (L) ((↑(List.map blcC m.l).length:Int)) (6) (by (simp;done)) hL) (by kernel_rfl) (.n)
 have oz5 := @pmod_n (Mdl.mk m.l) ([]++L (↑(List.map blcC m.l).length:Int)) (j) fw (by (simp only [List.length_map] at *;omega)) hj hf h
 exact (VC.run (fn:=Try.f50) (W:=[.r [] [],.r [] [],.br false,.r [] [],.r [] [],.r [] [.callm [(15,100000),(5,100001)] [(951,20000)] (rM oz1) (oM oz1)],.r [] [],.code [.any (rg [(0,1),(2,2),(5,1),(10,12)]),.drop [5],.ren 20000 900,.weak 23 (i64 (↑m.l.length:Int)),.weak 24 (i64 (↑0:Int)),.blk 900 (Blk.slc 5 1 (List.map (row1 IntKind.u8) (accM m.l ([]++L (↑(List.map blcC m.l).length:Int)) 0))),.sort] (Exit.ret) (zO oz5)]) (r:=AV.tup [nilv,i64 (blockR (m.l.getD j default)).snd]) Try.func50 (by kernel_rfl) (.c (show decide ((↑(List.map blcC m.l).length:Int) > 6)=false by (simp;omega))<|.c oz1<|.c (Weak.int (k:=.i64) (show (((↑(List.map blcC m.l).length:Int)):Int)=((↑m.l.length:Int)) from (by (simp;done))))<|.c (Weak.int (k:=.i64) (show ((0):Int)=((↑0:Int)) from (by omega)))<|.c (show BlkW (Blk.slc 5 1 (List.map (row1 IntKind.u8) ([]++L (↑(List.map blcC m.l).length:Int)))) (Blk.slc 5 1 (List.map (row1 IntKind.u8) (accM m.l ([]++L (↑(List.map blcC m.l).length:Int)) 0))) from (BlkW.rows (e:=5) (z:=1) (rows_to (row1 IntKind.u8) (r:=List.map (row1 IntKind.u8) ([]++L (↑(List.map blcC m.l).length:Int))) (l:=[]++L (↑(List.map blcC m.l).length:Int)) (m:=accM m.l ([]++L (↑(List.map blcC m.l).length:Int)) 0) rfl (show ([]++L (↑(List.map blcC m.l).length:Int))=(accM m.l ([]++L (↑(List.map blcC m.l).length:Int)) 0) from (by rfl)))))<|.c oz5<|.n)).weak (WeakL.refl _) (Weak.tup (.cons (Weak.nil _) (.cons (.refl _) .nil)))
theorem pmodel_y (L:Int→List Int) (m:Mdl) (hL:Puts L) (fw:m.Fw) (hl:m.l.length≤6) (h:∀ k,k<m.l.length→(blockR (m.l.getD k default)).2=0):VC Try.prog 50 ([.agg (mdlC m)]) (.tup [.sl 1 ((accM m.l ([]++L (m.l.length:Int)) m.l.length).map (row1 .u8)),i64 0]):=by
 have hB:([]++L (m.l.length:Int)).length≤10:=hL.l _
 have oz1 := @VM.pre _ _ ([AV.ptr 100000 0 0,AV.ptr 100001 0 0,i64 6]) _ ([(100000,Blk.var [nilv]),(100001,Blk.var [i64 (↑(List.map blcC m.l).length:Int)])]) _ _ _ ([GI.nilc 950 5 1 100000 0,GI.sort]) _ (@lnum_1 ([]) (L) ((↑(List.map blcC m.l).length:Int)) (6) (by (simp;done)) hL) (by kernel_rfl) (.n)
 have oz5 := @pmod_y (Mdl.mk m.l) ([]++L (↑(List.map blcC m.l).length:Int)) fw (by (simp only [List.length_map] at *;omega)) h
 exact (VC.run (fn:=Try.f50) (W:=[.r [] [],.r [] [],.br false,.r [] [],.r [] [],.r [] [.callm [(15,100000),(5,100001)] [(951,20000)] (rM oz1) (oM oz1)],.r [] [],.code [.any (rg [(0,1),(2,2),(5,1),(10,12)]),.drop [5],.ren 20000 900,.weak 23 (i64 (↑m.l.length:Int)),.weak 24 (i64 (↑0:Int)),.blk 900 (Blk.slc 5 1 (List.map (row1 IntKind.u8) (accM m.l ([]++L (↑(List.map blcC m.l).length:Int)) 0))),.sort] (Exit.exit 0) (zO oz5),.r [] []]) (r:=AV.tup [AV.sl 1 (List.map (row1 IntKind.u8) (accM m.l ([]++L (↑(List.map blcC m.l).length:Int)) m.l.length)),i64 0]) Try.func50 (by kernel_rfl) (.c (show decide ((↑(List.map blcC m.l).length:Int) > 6)=false by (simp;omega))<|.c oz1<|.c (Weak.int (k:=.i64) (show (((↑(List.map blcC m.l).length:Int)):Int)=((↑m.l.length:Int)) from (by (simp;done))))<|.c (Weak.int (k:=.i64) (show ((0):Int)=((↑0:Int)) from (by omega)))<|.c (show BlkW (Blk.slc 5 1 (List.map (row1 IntKind.u8) ([]++L (↑(List.map blcC m.l).length:Int)))) (Blk.slc 5 1 (List.map (row1 IntKind.u8) (accM m.l ([]++L (↑(List.map blcC m.l).length:Int)) 0))) from (BlkW.rows (e:=5) (z:=1) (rows_to (row1 IntKind.u8) (r:=List.map (row1 IntKind.u8) ([]++L (↑(List.map blcC m.l).length:Int))) (l:=[]++L (↑(List.map blcC m.l).length:Int)) (m:=accM m.l ([]++L (↑(List.map blcC m.l).length:Int)) 0) rfl (show ([]++L (↑(List.map blcC m.l).length:Int))=(accM m.l ([]++L (↑(List.map blcC m.l).length:Int)) 0) from (by rfl)))))<|.c oz5<|.n)).weak (WeakL.refl _) (Weak.tup (.cons (Weak.rows (rows_to (row1 IntKind.u8) (r:=List.map (row1 IntKind.u8) (accM m.l ([]++L (↑(List.map blcC m.l).length:Int)) m.l.length)) (l:=accM m.l ([]++L (↑(List.map blcC m.l).length:Int)) m.l.length) (m:=accM m.l ([]++L (↑m.l.length:Int)) m.l.length) rfl (show (accM m.l ([]++L (↑(List.map blcC m.l).length:Int)) m.l.length)=(accM m.l ([]++L (↑m.l.length:Int)) m.l.length) from (by (simp;done))))) (.cons (.refl _) .nil)))
theorem rmodel_f (m:Mdl) (h:6<m.l.length):VC Try.prog 51 ([.agg (mdlC m)]) (.tup [.sl 1 (([]:List Int).map (row1 .u8)),i64 4]):=by
 exact (VC.run (fn:=Try.f51) (W:=[.r [] [],.r [] [],.br true,.r [] []]) (r:=AV.tup [nilv,i64 4]) Try.func51 (by kernel_rfl) (.c (show decide ((↑(List.map blcC m.l).length:Int) > 6)=true by (simp;omega))<|.n)).weak (WeakL.refl _) (Weak.tup (.cons (Weak.nil _) (.cons (.refl _) .nil)))
theorem rmodel_n (L:Int→List Int) (m:Mdl) (j:Nat) (hL:RPuts L) (fw:m.Fw) (hl:m.l.length≤6) (hj:j<m.l.length) (hf:(blockR (m.l.getD j default)).2≠0) (h:∀ k,k<j→(blockR (m.l.getD k default)).2=0):VC Try.prog 51 ([.agg (mdlC m)]) (.tup [.sl 1 (([]:List Int).map (row1 .u8)),i64 (blockR (m.l.getD j default)).2]):=by
 have hB:([]++L (m.l.length:Int)).length≤10:=hL.l _
 have oz1 := @VM.pre _ _ ([nilv,i64 (↑(List.map blcC m.l).length:Int)]) _ ([]) _ _ _ ([GI.nils 0 950 5 1,GI.sort]) _ (@rput_1 ([]) (L) ((↑(List.map blcC m.l).length:Int)) (by (simp;done)) hL) (by kernel_rfl) (.n)
 have oz4 := @rmod_n (Mdl.mk m.l) ([]++L (↑(List.map blcC m.l).length:Int)) (j) fw (by (simp only [List.length_map] at *;omega)) hj hf h
 exact (VC.run (fn:=Try.f51) (W:=[.r [] [],.r [] [],.br false,.r [] [.callm [] [(951,20000)] (rM oz1) (oM oz1)],.r [] [],.code [.any (rg [(0,1),(2,2),(8,8)]),.ren 20000 900,.weak 5 (i64 (↑0:Int)),.blk 900 (Blk.slc 5 1 (List.map (row1 IntKind.u8) (accM m.l ([]++L (↑(List.map blcC m.l).length:Int)) 0))),.sort] (Exit.ret) (zO oz4)]) (r:=AV.tup [nilv,i64 (blockR (m.l.getD j default)).snd]) Try.func51 (by kernel_rfl) (.c (show decide ((↑(List.map blcC m.l).length:Int) > 6)=false by (simp;omega))<|.c oz1<|.c (Weak.int (k:=.i64) (show ((0):Int)=((↑0:Int)) from (by omega)))<|.c (show BlkW (Blk.slc 5 1 (List.map (row1 IntKind.u8) ([]++L (↑(List.map blcC m.l).length:Int)))) (Blk.slc 5 1 (List.map (row1 IntKind.u8) (accM m.l ([]++L (↑(List.map blcC m.l).length:Int)) 0))) from (BlkW.rows (e:=5) (z:=1) (rows_to (row1 IntKind.u8) (r:=List.map (row1 IntKind.u8) ([]++L (↑(List.map blcC m.l).length:Int))) (l:=[]++L (↑(List.map blcC m.l).length:Int)) (m:=accM m.l ([]++L (↑(List.map blcC m.l).length:Int)) 0) rfl (show ([]++L (↑(List.map blcC m.l).length:Int))=(accM m.l ([]++L (↑(List.map blcC m.l).length:Int)) 0) from (by rfl)))))<|.c oz4<|.n)).weak (WeakL.refl _) (Weak.tup (.cons (Weak.nil _) (.cons (.refl _) .nil)))
theorem rmodel_y (L:Int→List Int) (m:Mdl) (hL:RPuts L) (fw:m.Fw) (hl:m.l.length≤6) (h:∀ k,k<m.l.length→(blockR (m.l.getD k default)).2=0):VC Try.prog 51 ([.agg (mdlC m)]) (.tup [.sl 1 ((accM m.l ([]++L (m.l.length:Int)) m.l.length).map (row1 .u8)),i64 0]):=by
 have hB:([]++L (m.l.length:Int)).length≤10:=hL.l _
 have oz1 := @VM.pre _ _ ([nilv,i64 (↑(List.map blcC m.l).length:Int)]) _ ([]) _ _ _ ([GI.nils 0 950 5 1,GI.sort]) _ (@rput_1 ([]) (L) ((↑(List.map blcC m.l).length:Int)) (by (simp;done)) hL) (by kernel_rfl) (.n)
 have oz4 := @rmod_y (Mdl.mk m.l) ([]++L (↑(List.map blcC m.l).length:Int)) fw (by (simp only [List.length_map] at *;omega)) h
 exact (VC.run (fn:=Try.f51) (W:=[.r [] [],.r [] [],.br false,.r [] [.callm [] [(951,20000)] (rM oz1) (oM oz1)],.r [] [],.code [.any (rg [(0,1),(2,2),(8,8)]),.ren 20000 900,.weak 5 (i64 (↑0:Int)),.blk 900 (Blk.slc 5 1 (List.map (row1 IntKind.u8) (accM m.l ([]++L (↑(List.map blcC m.l).length:Int)) 0))),.sort] (Exit.exit 0) (zO oz4),.r [] []]) (r:=AV.tup [AV.sl 1 (List.map (row1 IntKind.u8) (accM m.l ([]++L (↑(List.map blcC m.l).length:Int)) m.l.length)),i64 0]) Try.func51 (by kernel_rfl) (.c (show decide ((↑(List.map blcC m.l).length:Int) > 6)=false by (simp;omega))<|.c oz1<|.c (Weak.int (k:=.i64) (show ((0):Int)=((↑0:Int)) from (by omega)))<|.c (show BlkW (Blk.slc 5 1 (List.map (row1 IntKind.u8) ([]++L (↑(List.map blcC m.l).length:Int)))) (Blk.slc 5 1 (List.map (row1 IntKind.u8) (accM m.l ([]++L (↑(List.map blcC m.l).length:Int)) 0))) from (BlkW.rows (e:=5) (z:=1) (rows_to (row1 IntKind.u8) (r:=List.map (row1 IntKind.u8) ([]++L (↑(List.map blcC m.l).length:Int))) (l:=[]++L (↑(List.map blcC m.l).length:Int)) (m:=accM m.l ([]++L (↑(List.map blcC m.l).length:Int)) 0) rfl (show ([]++L (↑(List.map blcC m.l).length:Int))=(accM m.l ([]++L (↑(List.map blcC m.l).length:Int)) 0) from (by rfl)))))<|.c oz4<|.n)).weak (WeakL.refl _) (Weak.tup (.cons (Weak.rows (rows_to (row1 IntKind.u8) (r:=List.map (row1 IntKind.u8) (accM m.l ([]++L (↑(List.map blcC m.l).length:Int)) m.l.length)) (l:=accM m.l ([]++L (↑(List.map blcC m.l).length:Int)) m.l.length) (m:=accM m.l ([]++L (↑m.l.length:Int)) m.l.length) rfl (show (accM m.l ([]++L (↑(List.map blcC m.l).length:Int)) m.l.length)=(accM m.l ([]++L (↑m.l.length:Int)) m.l.length) from (by (simp;done))))) (.cons (.refl _) .nil)))
theorem pmodel_v (m:Mdl) (fw:m.Fw):VC Try.prog 50 [.agg (mdlC m)] (.tup [.sl 1 ((modelR m).1.map (row1 .u8)),i64 (modelR m).2]):=by
 by_cases h1:6<m.l.length
 ·rw [show modelR m=([],4) from by unfold modelR;rw [if_pos h1]];exact pmodel_f m h1
 rcases first_of (n:=m.l.length) (p:=fun k=>(blockR (m.l.getD k default)).2=0) with h | ⟨j,hj,hf,h⟩
 ·have hE:=blocksE_y h
  rw [show modelR m=(accM m.l (putN (m.l.length:Int)) m.l.length,0) from by unfold modelR;rw [if_neg h1,if_neg (by simpa using hE)]]
  exact pmodel_y putN m puts fw (by omega) h
 ·have hE:=blocksE_n hj hf h
  rw [show modelR m=([],(blockR (m.l.getD j default)).2) from by unfold modelR;rw [if_neg h1,hE,if_pos hf]]
  exact pmodel_n putN m j puts fw (by omega) hj hf h
theorem rmodel_v (m:Mdl) (fw:m.Fw):VC Try.prog 51 [.agg (mdlC m)] (.tup [.sl 1 ((modelR m).1.map (row1 .u8)),i64 (modelR m).2]):=by
 by_cases h1:6<m.l.length
 ·rw [show modelR m=([],4) from by unfold modelR;rw [if_pos h1]];exact rmodel_f m h1
 rcases first_of (n:=m.l.length) (p:=fun k=>(blockR (m.l.getD k default)).2=0) with h | ⟨j,hj,hf,h⟩
 ·have hE:=blocksE_y h
  rw [show modelR m=(accM m.l (putN (m.l.length:Int)) m.l.length,0) from by unfold modelR;rw [if_neg h1,if_neg (by simpa using hE)]]
  exact rmodel_y putN m rputs fw (by omega) h
 ·have hE:=blocksE_n hj hf h
  rw [show modelR m=([],(blockR (m.l.getD j default)).2) from by unfold modelR;rw [if_neg h1,hE,if_pos hf]]
  exact rmodel_n putN m j rputs fw (by omega) hj hf h
theorem rone_v (xs:List Int) (r:Rrf) (h:Rrf.In xs r):VM Try.prog 111 [.ptr 100000 0 0] [(100000,.var (rrC xs r))] (i8 (oneV (toS xs r))) [(100000,.var (rrC xs (smlR xs r 1)))]:=by
 rcases one_len (toS xs r) with h1 | h1
 ·rw [oneV_0 h1];exact rone_y xs r h h1
 ·exact rone_n xs r h (by omega) (by omega)
abbrev hCx (xs:List Int) (r:Rrf) (m v:Int) (q:Rrf):Prop:=VM Try.prog 109 [.ptr 100000 0 0,i64 m] [(100000,.var (rrC xs r))] (i64 v) [(100000,.var (rrC xs q))]
abbrev hOx (xs:List Int) (r:Rrf) (v:Int) (q:Rrf):Prop:=VM Try.prog 111 [.ptr 100000 0 0] [(100000,.var (rrC xs r))] (i8 v) [(100000,.var (rrC xs q))]
theorem rw_1b (xs:List Int) (r r1 r2 r3 r4 r5 r6 r7 r8 r9 r10 r11 r12 r13 r14 r15 r16:Rrf) (v_kd v_na v_nk v_ns v_np v_no v_za v_cw v_cb v_qm v_qs v_qz v_lo v_hi:Int) (v_w v_b:List Int) (g1:hCx xs r 9 v_kd r1) (g2:hCx xs r1 1024 v_na r2) (g3:hCx xs r2 1024 v_nk r3) (g4:hCx xs r3 1024 v_ns r4) (g5:hCx xs r4 1024 v_np r5) (g6:hCx xs r5 1024 v_no r6) (g7:hOx xs r6 v_za r7) (g8:hCx xs r7 16384 v_cw r8) (g9:VM Try.prog 112 [.ptr 100000 0 0,i64 v_cw] [(100000,.var (rrC xs r8))] (.sl 1 (v_w.map (row1 .i8))) [(100000,.var (rrC xs r9))]) (g10:hCx xs r9 16384 v_cb r10) (g11:VM Try.prog 113 [.ptr 100000 0 0,i64 v_cb] [(100000,.var (rrC xs r10))] (.sl 1 (v_b.map (row1 .i32))) [(100000,.var (rrC xs r11))]) (g12:hCx xs r11 2147483647 v_qm r12) (g13:hCx xs r12 62 v_qs r13) (g14:hOx xs r13 v_qz r14) (g15:hOx xs r14 v_lo r15) (g16:hOx xs r15 v_hi r16) (hk:v_kd=1) (h9:In64 v_kd) (h_qm:0≤v_qm∧v_qm≤2147483647) (hbad:r16.2≠0):VM Try.prog 41 ([.ptr 100000 0 0]) ([(100000,.var (rrC xs r))]) (.tup [.agg [i64 0,i64 0,i64 0,i64 0,i64 0,i64 0,i64 0,i8 0,i8 0,.sl 1 [],.sl 1 [],i32 0,i64 0,i8 0,i32 0,i64 0,i8 0,i8 0,i8 0],i64 r16.2]) ([(100000,.var (rrC xs r16))]):=by
 have oz0 := @g1
 have oz1 := @g2
 have oz2 := @tells_1 (v_kd) hk
 have oz3:=z2_
 have oz4:=z3_
 have oz5:=z4_
 have oz6:=z0_
 have oz7:=z5_
 have oz8:=z6_
 have oz9:=z7_
 have oz10:=z1_
 have oz11 := @g3
 have oz12 := @g4
 have oz16:=(show true = !false by (simp;done))
 have oz21 := @g5
 have oz24:=z8_
 have oz26 := @g6
 have oz29:=z9_
 have oz31 := @g7
 have oz38:=z10_
 have oz40 := @g8
 have oz41 := @g9
 have oz42 := @g10
 have oz43 := @g11
 have oz46:=z11_
 have oz48 := @g12
 have oz50 := @g13
 have oz51 := @g14
 have oz56 := @g15
 have oz57 := @g16
 exact VM.run (fn:=Try.f41) (W:=[.r [] [],.r [] [cm oz0,cm oz1],.r [] [.callr (rO oz2)],.r [] [.row (sO oz5)],.br false,.r [] [.row (sO oz9)],.br true,.r [] [cm oz11],.r [] [cm oz12],.r [] [.row (sO oz9),.br false,.br false,.br false,.br true],.br true,.r [] [cm oz21],.r [] [.row (sO oz24)],.br true,.r [] [cm oz26],.r [] [.row (sO oz29)],.br true,.r [] [cm oz31],.r [] [.row (sO oz5)],.br false,.r [] [.row (sO oz38)],.br true,.r [] [cm oz40,cm oz41],.r [] [cm oz42,cm oz43],.r [] [.row (sO oz46)],.br true,.r [] [cm oz48,.n v_qm,cm oz50,cm oz51],.r [] [.row (sO oz5)],.br false,.r [] [cm oz56],.r [] [cm oz57],.r [] [],.br true,.r [] []]) (G:=[.drop [2,4,5],.weak 0 (AV.tup [AV.agg [i64 0,i64 0,i64 0,i64 0,i64 0,i64 0,i64 0,i8 0,i8 0,AV.sl 1 [],AV.sl 1 [],i32 0,i64 0,i8 0,i32 0,i64 0,i8 0,i8 0,i8 0],i64 r16.snd]),.sort]) Try.func41 (by kernel_rfl) (.c oz0<|.c oz1<|.c oz2<|.c oz3<|.c oz4<|.c oz5<|.c oz6<|.c oz7<|.c oz8<|.c oz9<|.c oz10<|.c oz11<|.c oz12<|.c oz7<|.c oz8<|.c oz9<|.c oz16<|.c oz16<|.c oz16<|.c oz10<|.c oz10<|.c oz21<|.c z12_<|.c z13_<|.c oz24<|.c oz10<|.c oz26<|.c z14_<|.c z15_<|.c oz29<|.c oz10<|.c oz31<|.c oz3<|.c oz4<|.c oz5<|.c oz6<|.c z16_<|.c z17_<|.c oz38<|.c oz10<|.c oz40<|.c oz41<|.c oz42<|.c oz43<|.c z18_<|.c z19_<|.c oz46<|.c oz10<|.c oz48<|.c (IntWalk.i32_in v_qm (by omega))<|.c oz50<|.c oz51<|.c oz3<|.c oz4<|.c oz5<|.c oz6<|.c oz56<|.c oz57<|.c (show (r16.snd != 0)=true by (simp;omega))<|.c (show Weak (AV.tup [AV.agg [i64 0,i64 0,i64 0,i64 0,i64 0,i64 0,i64 0,i8 0,i8 0,nilv,nilv,i32 0,i64 0,i8 0,i32 0,i64 0,i8 0,i8 0,i8 0],i64 r16.snd]) (AV.tup [AV.agg [i64 0,i64 0,i64 0,i64 0,i64 0,i64 0,i64 0,i8 0,i8 0,AV.sl 1 [],AV.sl 1 [],i32 0,i64 0,i8 0,i32 0,i64 0,i8 0,i8 0,i8 0],i64 r16.snd]) from (Weak.tup (.cons (Weak.agg (.cons (.refl _) (.cons (.refl _) (.cons (.refl _) (.cons (.refl _) (.cons (.refl _) (.cons (.refl _) (.cons (.refl _) (.cons (.refl _) (.cons (.refl _) (.cons (Weak.nil _) (.cons (Weak.nil _) (.cons (.refl _) (.cons (.refl _) (.cons (.refl _) (.cons (.refl _) (.cons (.refl _) (.cons (.refl _) (.cons (.refl _) (.cons (.refl _) .nil)))))))))))))))))))) (.cons (.refl _) .nil))))<|.n)
theorem rw_1c (xs:List Int) (r r1 r2 r3 r4 r5 r6 r7 r8 r9 r10 r11 r12 r13 r14 r15 r16:Rrf) (v_kd v_na v_nk v_ns v_np v_no v_za v_cw v_cb v_qm v_qs v_qz v_lo v_hi:Int) (v_w v_b:List Int) (g1:hCx xs r 9 v_kd r1) (g2:hCx xs r1 1024 v_na r2) (g3:hCx xs r2 1024 v_nk r3) (g4:hCx xs r3 1024 v_ns r4) (g5:hCx xs r4 1024 v_np r5) (g6:hCx xs r5 1024 v_no r6) (g7:hOx xs r6 v_za r7) (g8:hCx xs r7 16384 v_cw r8) (g9:VM Try.prog 112 [.ptr 100000 0 0,i64 v_cw] [(100000,.var (rrC xs r8))] (.sl 1 (v_w.map (row1 .i8))) [(100000,.var (rrC xs r9))]) (g10:hCx xs r9 16384 v_cb r10) (g11:VM Try.prog 113 [.ptr 100000 0 0,i64 v_cb] [(100000,.var (rrC xs r10))] (.sl 1 (v_b.map (row1 .i32))) [(100000,.var (rrC xs r11))]) (g12:hCx xs r11 2147483647 v_qm r12) (g13:hCx xs r12 62 v_qs r13) (g14:hOx xs r13 v_qz r14) (g15:hOx xs r14 v_lo r15) (g16:hOx xs r15 v_hi r16) (hk:v_kd=1) (h9:In64 v_kd) (h_qm:0≤v_qm∧v_qm≤2147483647) (hbad:r16.2=0) (hw:v_w.length≤100000) (hb:v_b.length≤100000) (hc:checkE (⟨v_kd,v_na,0,v_nk,v_ns,v_np,v_no,v_za,0,v_w,v_b,v_qm,v_qs,v_qz,0,0,0,v_lo,v_hi⟩:Nod)≠0):VM Try.prog 41 ([.ptr 100000 0 0]) ([(100000,.var (rrC xs r))]) (.tup [.agg [i64 0,i64 0,i64 0,i64 0,i64 0,i64 0,i64 0,i8 0,i8 0,.sl 1 [],.sl 1 [],i32 0,i64 0,i8 0,i32 0,i64 0,i8 0,i8 0,i8 0],i64 (checkE (⟨v_kd,v_na,0,v_nk,v_ns,v_np,v_no,v_za,0,v_w,v_b,v_qm,v_qs,v_qz,0,0,0,v_lo,v_hi⟩:Nod))]) ([(100000,.var (rrC xs r16))]):=by
 have oz0 := @g1
 have oz1 := @g2
 have oz2 := @tells_1 (v_kd) hk
 have oz3:=z2_
 have oz4:=z3_
 have oz5:=z4_
 have oz6:=z0_
 have oz7:=z5_
 have oz8:=z6_
 have oz9:=z7_
 have oz10:=z1_
 have oz11 := @g3
 have oz12 := @g4
 have oz16:=(show true = !false by (simp;done))
 have oz21 := @g5
 have oz24:=z8_
 have oz26 := @g6
 have oz29:=z9_
 have oz31 := @g7
 have oz38:=z10_
 have oz40 := @g8
 have oz41 := @g9
 have oz42 := @g10
 have oz43 := @g11
 have oz46:=z11_
 have oz48 := @g12
 have oz50 := @g13
 have oz51 := @g14
 have oz56 := @g15
 have oz57 := @g16
 have oz59 := @refCheck_v (Nod.mk v_kd v_na 0 v_nk v_ns v_np v_no v_za 0 v_w v_b v_qm v_qs v_qz 0 0 0 v_lo v_hi) hw hb h9
 exact VM.run (fn:=Try.f41) (W:=[.r [] [],.r [] [cm oz0,cm oz1],.r [] [.callr (rO oz2)],.r [] [.row (sO oz5)],.br false,.r [] [.row (sO oz9)],.br true,.r [] [cm oz11],.r [] [cm oz12],.r [] [.row (sO oz9),.br false,.br false,.br false,.br true],.br true,.r [] [cm oz21],.r [] [.row (sO oz24)],.br true,.r [] [cm oz26],.r [] [.row (sO oz29)],.br true,.r [] [cm oz31],.r [] [.row (sO oz5)],.br false,.r [] [.row (sO oz38)],.br true,.r [] [cm oz40,cm oz41],.r [] [cm oz42,cm oz43],.r [] [.row (sO oz46)],.br true,.r [] [cm oz48,.n v_qm,cm oz50,cm oz51],.r [] [.row (sO oz5)],.br false,.r [] [cm oz56],.r [] [cm oz57],.r [] [],.br false,.r [] [.callr (rO oz59)],.r [] [],.br true,.r [] []]) (G:=[.drop [2,4,5],.weak 0 (AV.tup [AV.agg [i64 0,i64 0,i64 0,i64 0,i64 0,i64 0,i64 0,i8 0,i8 0,AV.sl 1 [],AV.sl 1 [],i32 0,i64 0,i8 0,i32 0,i64 0,i8 0,i8 0,i8 0],i64 (checkE (Nod.mk v_kd v_na 0 v_nk v_ns v_np v_no v_za 0 v_w v_b v_qm v_qs v_qz 0 0 0 v_lo v_hi))]),.sort]) Try.func41 (by kernel_rfl) (.c oz0<|.c oz1<|.c oz2<|.c oz3<|.c oz4<|.c oz5<|.c oz6<|.c oz7<|.c oz8<|.c oz9<|.c oz10<|.c oz11<|.c oz12<|.c oz7<|.c oz8<|.c oz9<|.c oz16<|.c oz16<|.c oz16<|.c oz10<|.c oz10<|.c oz21<|.c z12_<|.c z13_<|.c oz24<|.c oz10<|.c oz26<|.c z14_<|.c z15_<|.c oz29<|.c oz10<|.c oz31<|.c oz3<|.c oz4<|.c oz5<|.c oz6<|.c z16_<|.c z17_<|.c oz38<|.c oz10<|.c oz40<|.c oz41<|.c oz42<|.c oz43<|.c z18_<|.c z19_<|.c oz46<|.c oz10<|.c oz48<|.c (IntWalk.i32_in v_qm (by omega))<|.c oz50<|.c oz51<|.c oz3<|.c oz4<|.c oz5<|.c oz6<|.c oz56<|.c oz57<|.c (show (r16.snd != 0)=false by (simp;omega))<|.c oz59<|.c (show (checkE (Nod.mk v_kd v_na 0 v_nk v_ns v_np v_no v_za 0 v_w v_b v_qm v_qs v_qz 0 0 0 v_lo v_hi) != 0)=true by (simp;omega))<|.c (show Weak (AV.tup [AV.agg [i64 0,i64 0,i64 0,i64 0,i64 0,i64 0,i64 0,i8 0,i8 0,nilv,nilv,i32 0,i64 0,i8 0,i32 0,i64 0,i8 0,i8 0,i8 0],i64 (checkE (Nod.mk v_kd v_na 0 v_nk v_ns v_np v_no v_za 0 v_w v_b v_qm v_qs v_qz 0 0 0 v_lo v_hi))]) (AV.tup [AV.agg [i64 0,i64 0,i64 0,i64 0,i64 0,i64 0,i64 0,i8 0,i8 0,AV.sl 1 [],AV.sl 1 [],i32 0,i64 0,i8 0,i32 0,i64 0,i8 0,i8 0,i8 0],i64 (checkE (Nod.mk v_kd v_na 0 v_nk v_ns v_np v_no v_za 0 v_w v_b v_qm v_qs v_qz 0 0 0 v_lo v_hi))]) from (Weak.tup (.cons (Weak.agg (.cons (.refl _) (.cons (.refl _) (.cons (.refl _) (.cons (.refl _) (.cons (.refl _) (.cons (.refl _) (.cons (.refl _) (.cons (.refl _) (.cons (.refl _) (.cons (Weak.nil _) (.cons (Weak.nil _) (.cons (.refl _) (.cons (.refl _) (.cons (.refl _) (.cons (.refl _) (.cons (.refl _) (.cons (.refl _) (.cons (.refl _) (.cons (.refl _) .nil)))))))))))))))))))) (.cons (.refl _) .nil))))<|.n)
theorem rw_1y (xs:List Int) (r r1 r2 r3 r4 r5 r6 r7 r8 r9 r10 r11 r12 r13 r14 r15 r16:Rrf) (v_kd v_na v_nk v_ns v_np v_no v_za v_cw v_cb v_qm v_qs v_qz v_lo v_hi:Int) (v_w v_b:List Int) (g1:hCx xs r 9 v_kd r1) (g2:hCx xs r1 1024 v_na r2) (g3:hCx xs r2 1024 v_nk r3) (g4:hCx xs r3 1024 v_ns r4) (g5:hCx xs r4 1024 v_np r5) (g6:hCx xs r5 1024 v_no r6) (g7:hOx xs r6 v_za r7) (g8:hCx xs r7 16384 v_cw r8) (g9:VM Try.prog 112 [.ptr 100000 0 0,i64 v_cw] [(100000,.var (rrC xs r8))] (.sl 1 (v_w.map (row1 .i8))) [(100000,.var (rrC xs r9))]) (g10:hCx xs r9 16384 v_cb r10) (g11:VM Try.prog 113 [.ptr 100000 0 0,i64 v_cb] [(100000,.var (rrC xs r10))] (.sl 1 (v_b.map (row1 .i32))) [(100000,.var (rrC xs r11))]) (g12:hCx xs r11 2147483647 v_qm r12) (g13:hCx xs r12 62 v_qs r13) (g14:hOx xs r13 v_qz r14) (g15:hOx xs r14 v_lo r15) (g16:hOx xs r15 v_hi r16) (hk:v_kd=1) (h9:In64 v_kd) (h_qm:0≤v_qm∧v_qm≤2147483647) (hbad:r16.2=0) (hw:v_w.length≤100000) (hb:v_b.length≤100000) (hc:checkE (⟨v_kd,v_na,0,v_nk,v_ns,v_np,v_no,v_za,0,v_w,v_b,v_qm,v_qs,v_qz,0,0,0,v_lo,v_hi⟩:Nod)=0):VM Try.prog 41 ([.ptr 100000 0 0]) ([(100000,.var (rrC xs r))]) (.tup [nod (⟨v_kd,v_na,0,v_nk,v_ns,v_np,v_no,v_za,0,v_w,v_b,v_qm,v_qs,v_qz,0,0,0,v_lo,v_hi⟩:Nod),i64 0]) ([(100000,.var (rrC xs r16))]):=by
 have oz0 := @g1
 have oz1 := @g2
 have oz2 := @tells_1 (v_kd) hk
 have oz3:=z2_
 have oz4:=z3_
 have oz5:=z4_
 have oz6:=z0_
 have oz7:=z5_
 have oz8:=z6_
 have oz9:=z7_
 have oz10:=z1_
 have oz11 := @g3
 have oz12 := @g4
 have oz16:=(show true = !false by (simp;done))
 have oz21 := @g5
 have oz24:=z8_
 have oz26 := @g6
 have oz29:=z9_
 have oz31 := @g7
 have oz38:=z10_
 have oz40 := @g8
 have oz41 := @g9
 have oz42 := @g10
 have oz43 := @g11
 have oz46:=z11_
 have oz48 := @g12
 have oz50 := @g13
 have oz51 := @g14
 have oz56 := @g15
 have oz57 := @g16
 have oz59 := @refCheck_v (Nod.mk v_kd v_na 0 v_nk v_ns v_np v_no v_za 0 v_w v_b v_qm v_qs v_qz 0 0 0 v_lo v_hi) hw hb h9
 exact VM.run (fn:=Try.f41) (W:=[.r [] [],.r [] [cm oz0,cm oz1],.r [] [.callr (rO oz2)],.r [] [.row (sO oz5)],.br false,.r [] [.row (sO oz9)],.br true,.r [] [cm oz11],.r [] [cm oz12],.r [] [.row (sO oz9),.br false,.br false,.br false,.br true],.br true,.r [] [cm oz21],.r [] [.row (sO oz24)],.br true,.r [] [cm oz26],.r [] [.row (sO oz29)],.br true,.r [] [cm oz31],.r [] [.row (sO oz5)],.br false,.r [] [.row (sO oz38)],.br true,.r [] [cm oz40,cm oz41],.r [] [cm oz42,cm oz43],.r [] [.row (sO oz46)],.br true,.r [] [cm oz48,.n v_qm,cm oz50,cm oz51],.r [] [.row (sO oz5)],.br false,.r [] [cm oz56],.r [] [cm oz57],.r [] [],.br false,.r [] [.callr (rO oz59)],.r [] [],.br false,.r [] []]) (G:=[.drop [2,4,5],.sort]) Try.func41 (by kernel_rfl) (.c oz0<|.c oz1<|.c oz2<|.c oz3<|.c oz4<|.c oz5<|.c oz6<|.c oz7<|.c oz8<|.c oz9<|.c oz10<|.c oz11<|.c oz12<|.c oz7<|.c oz8<|.c oz9<|.c oz16<|.c oz16<|.c oz16<|.c oz10<|.c oz10<|.c oz21<|.c z12_<|.c z13_<|.c oz24<|.c oz10<|.c oz26<|.c z14_<|.c z15_<|.c oz29<|.c oz10<|.c oz31<|.c oz3<|.c oz4<|.c oz5<|.c oz6<|.c z16_<|.c z17_<|.c oz38<|.c oz10<|.c oz40<|.c oz41<|.c oz42<|.c oz43<|.c z18_<|.c z19_<|.c oz46<|.c oz10<|.c oz48<|.c (IntWalk.i32_in v_qm (by omega))<|.c oz50<|.c oz51<|.c oz3<|.c oz4<|.c oz5<|.c oz6<|.c oz56<|.c oz57<|.c (show (r16.snd != 0)=false by (simp;omega))<|.c oz59<|.c (show (checkE (Nod.mk v_kd v_na 0 v_nk v_ns v_np v_no v_za 0 v_w v_b v_qm v_qs v_qz 0 0 0 v_lo v_hi) != 0)=false by (simp;omega))<|.n)
theorem rw_2b (xs:List Int) (r r1 r2 r3 r4 r5 r6 r7 r8 r9 r10 r11 r12 r13 r14 r15:Rrf) (v_kd v_na v_nk v_ns v_np v_za v_cw v_cb v_qm v_qs v_qz v_lo v_hi:Int) (v_w v_b:List Int) (g1:hCx xs r 9 v_kd r1) (g2:hCx xs r1 1024 v_na r2) (g3:hCx xs r2 1024 v_nk r3) (g4:hCx xs r3 1024 v_ns r4) (g5:hCx xs r4 1024 v_np r5) (g6:hOx xs r5 v_za r6) (g7:hCx xs r6 16384 v_cw r7) (g8:VM Try.prog 112 [.ptr 100000 0 0,i64 v_cw] [(100000,.var (rrC xs r7))] (.sl 1 (v_w.map (row1 .i8))) [(100000,.var (rrC xs r8))]) (g9:hCx xs r8 16384 v_cb r9) (g10:VM Try.prog 113 [.ptr 100000 0 0,i64 v_cb] [(100000,.var (rrC xs r9))] (.sl 1 (v_b.map (row1 .i32))) [(100000,.var (rrC xs r10))]) (g11:hCx xs r10 2147483647 v_qm r11) (g12:hCx xs r11 62 v_qs r12) (g13:hOx xs r12 v_qz r13) (g14:hOx xs r13 v_lo r14) (g15:hOx xs r14 v_hi r15) (hk:v_kd=2) (h9:In64 v_kd) (h_qm:0≤v_qm∧v_qm≤2147483647) (hbad:r15.2≠0):VM Try.prog 41 ([.ptr 100000 0 0]) ([(100000,.var (rrC xs r))]) (.tup [.agg [i64 0,i64 0,i64 0,i64 0,i64 0,i64 0,i64 0,i8 0,i8 0,.sl 1 [],.sl 1 [],i32 0,i64 0,i8 0,i32 0,i64 0,i8 0,i8 0,i8 0],i64 r15.2]) ([(100000,.var (rrC xs r15))]):=by
 have oz0 := @g1
 have oz1 := @g2
 have oz2 := @tells_2 (v_kd) hk
 have oz3:=z2_
 have oz4:=z3_
 have oz5:=z20_
 have oz6:=z0_
 have oz7:=z5_
 have oz8:=z6_
 have oz9:=z21_
 have oz10:=z1_
 have oz11 := @g3
 have oz12 := @g4
 have oz16:=(show true = !false by (simp;done))
 have oz21 := @g5
 have oz24:=z22_
 have oz28:=z23_
 have oz30 := @g6
 have oz37:=z24_
 have oz39 := @g7
 have oz40 := @g8
 have oz41 := @g9
 have oz42 := @g10
 have oz45:=z25_
 have oz47 := @g11
 have oz49 := @g12
 have oz50 := @g13
 have oz55 := @g14
 have oz56 := @g15
 exact VM.run (fn:=Try.f41) (W:=[.r [] [],.r [] [cm oz0,cm oz1],.r [] [.callr (rO oz2)],.r [] [.row (sO oz5)],.br false,.r [] [.row (sO oz9)],.br true,.r [] [cm oz11],.r [] [cm oz12],.r [] [.row (sO oz9),.br false,.br false,.br false,.br true],.br true,.r [] [cm oz21],.r [] [.row (sO oz24)],.br false,.r [] [.row (sO oz28)],.br true,.r [] [cm oz30],.r [] [.row (sO oz5)],.br false,.r [] [.row (sO oz37)],.br true,.r [] [cm oz39,cm oz40],.r [] [cm oz41,cm oz42],.r [] [.row (sO oz45)],.br true,.r [] [cm oz47,.n v_qm,cm oz49,cm oz50],.r [] [.row (sO oz5)],.br false,.r [] [cm oz55],.r [] [cm oz56],.r [] [],.br true,.r [] []]) (G:=[.drop [2,4,5],.weak 0 (AV.tup [AV.agg [i64 0,i64 0,i64 0,i64 0,i64 0,i64 0,i64 0,i8 0,i8 0,AV.sl 1 [],AV.sl 1 [],i32 0,i64 0,i8 0,i32 0,i64 0,i8 0,i8 0,i8 0],i64 r15.snd]),.sort]) Try.func41 (by kernel_rfl) (.c oz0<|.c oz1<|.c oz2<|.c oz3<|.c oz4<|.c oz5<|.c oz6<|.c oz7<|.c oz8<|.c oz9<|.c oz10<|.c oz11<|.c oz12<|.c oz7<|.c oz8<|.c oz9<|.c oz16<|.c oz16<|.c oz16<|.c oz10<|.c oz10<|.c oz21<|.c z12_<|.c z13_<|.c oz24<|.c oz6<|.c z14_<|.c z15_<|.c oz28<|.c oz10<|.c oz30<|.c oz3<|.c oz4<|.c oz5<|.c oz6<|.c z16_<|.c z17_<|.c oz37<|.c oz10<|.c oz39<|.c oz40<|.c oz41<|.c oz42<|.c z18_<|.c z19_<|.c oz45<|.c oz10<|.c oz47<|.c (IntWalk.i32_in v_qm (by omega))<|.c oz49<|.c oz50<|.c oz3<|.c oz4<|.c oz5<|.c oz6<|.c oz55<|.c oz56<|.c (show (r15.snd != 0)=true by (simp;omega))<|.c (show Weak (AV.tup [AV.agg [i64 0,i64 0,i64 0,i64 0,i64 0,i64 0,i64 0,i8 0,i8 0,nilv,nilv,i32 0,i64 0,i8 0,i32 0,i64 0,i8 0,i8 0,i8 0],i64 r15.snd]) (AV.tup [AV.agg [i64 0,i64 0,i64 0,i64 0,i64 0,i64 0,i64 0,i8 0,i8 0,AV.sl 1 [],AV.sl 1 [],i32 0,i64 0,i8 0,i32 0,i64 0,i8 0,i8 0,i8 0],i64 r15.snd]) from (Weak.tup (.cons (Weak.agg (.cons (.refl _) (.cons (.refl _) (.cons (.refl _) (.cons (.refl _) (.cons (.refl _) (.cons (.refl _) (.cons (.refl _) (.cons (.refl _) (.cons (.refl _) (.cons (Weak.nil _) (.cons (Weak.nil _) (.cons (.refl _) (.cons (.refl _) (.cons (.refl _) (.cons (.refl _) (.cons (.refl _) (.cons (.refl _) (.cons (.refl _) (.cons (.refl _) .nil)))))))))))))))))))) (.cons (.refl _) .nil))))<|.n)
theorem rw_2c (xs:List Int) (r r1 r2 r3 r4 r5 r6 r7 r8 r9 r10 r11 r12 r13 r14 r15:Rrf) (v_kd v_na v_nk v_ns v_np v_za v_cw v_cb v_qm v_qs v_qz v_lo v_hi:Int) (v_w v_b:List Int) (g1:hCx xs r 9 v_kd r1) (g2:hCx xs r1 1024 v_na r2) (g3:hCx xs r2 1024 v_nk r3) (g4:hCx xs r3 1024 v_ns r4) (g5:hCx xs r4 1024 v_np r5) (g6:hOx xs r5 v_za r6) (g7:hCx xs r6 16384 v_cw r7) (g8:VM Try.prog 112 [.ptr 100000 0 0,i64 v_cw] [(100000,.var (rrC xs r7))] (.sl 1 (v_w.map (row1 .i8))) [(100000,.var (rrC xs r8))]) (g9:hCx xs r8 16384 v_cb r9) (g10:VM Try.prog 113 [.ptr 100000 0 0,i64 v_cb] [(100000,.var (rrC xs r9))] (.sl 1 (v_b.map (row1 .i32))) [(100000,.var (rrC xs r10))]) (g11:hCx xs r10 2147483647 v_qm r11) (g12:hCx xs r11 62 v_qs r12) (g13:hOx xs r12 v_qz r13) (g14:hOx xs r13 v_lo r14) (g15:hOx xs r14 v_hi r15) (hk:v_kd=2) (h9:In64 v_kd) (h_qm:0≤v_qm∧v_qm≤2147483647) (hbad:r15.2=0) (hw:v_w.length≤100000) (hb:v_b.length≤100000) (hc:checkE (⟨v_kd,v_na,0,v_nk,v_ns,v_np,0,v_za,0,v_w,v_b,v_qm,v_qs,v_qz,0,0,0,v_lo,v_hi⟩:Nod)≠0):VM Try.prog 41 ([.ptr 100000 0 0]) ([(100000,.var (rrC xs r))]) (.tup [.agg [i64 0,i64 0,i64 0,i64 0,i64 0,i64 0,i64 0,i8 0,i8 0,.sl 1 [],.sl 1 [],i32 0,i64 0,i8 0,i32 0,i64 0,i8 0,i8 0,i8 0],i64 (checkE (⟨v_kd,v_na,0,v_nk,v_ns,v_np,0,v_za,0,v_w,v_b,v_qm,v_qs,v_qz,0,0,0,v_lo,v_hi⟩:Nod))]) ([(100000,.var (rrC xs r15))]):=by
 have oz0 := @g1
 have oz1 := @g2
 have oz2 := @tells_2 (v_kd) hk
 have oz3:=z2_
 have oz4:=z3_
 have oz5:=z20_
 have oz6:=z0_
 have oz7:=z5_
 have oz8:=z6_
 have oz9:=z21_
 have oz10:=z1_
 have oz11 := @g3
 have oz12 := @g4
 have oz16:=(show true = !false by (simp;done))
 have oz21 := @g5
 have oz24:=z22_
 have oz28:=z23_
 have oz30 := @g6
 have oz37:=z24_
 have oz39 := @g7
 have oz40 := @g8
 have oz41 := @g9
 have oz42 := @g10
 have oz45:=z25_
 have oz47 := @g11
 have oz49 := @g12
 have oz50 := @g13
 have oz55 := @g14
 have oz56 := @g15
 have oz58 := @refCheck_v (Nod.mk v_kd v_na 0 v_nk v_ns v_np 0 v_za 0 v_w v_b v_qm v_qs v_qz 0 0 0 v_lo v_hi) hw hb h9
 exact VM.run (fn:=Try.f41) (W:=[.r [] [],.r [] [cm oz0,cm oz1],.r [] [.callr (rO oz2)],.r [] [.row (sO oz5)],.br false,.r [] [.row (sO oz9)],.br true,.r [] [cm oz11],.r [] [cm oz12],.r [] [.row (sO oz9),.br false,.br false,.br false,.br true],.br true,.r [] [cm oz21],.r [] [.row (sO oz24)],.br false,.r [] [.row (sO oz28)],.br true,.r [] [cm oz30],.r [] [.row (sO oz5)],.br false,.r [] [.row (sO oz37)],.br true,.r [] [cm oz39,cm oz40],.r [] [cm oz41,cm oz42],.r [] [.row (sO oz45)],.br true,.r [] [cm oz47,.n v_qm,cm oz49,cm oz50],.r [] [.row (sO oz5)],.br false,.r [] [cm oz55],.r [] [cm oz56],.r [] [],.br false,.r [] [.callr (rO oz58)],.r [] [],.br true,.r [] []]) (G:=[.drop [2,4,5],.weak 0 (AV.tup [AV.agg [i64 0,i64 0,i64 0,i64 0,i64 0,i64 0,i64 0,i8 0,i8 0,AV.sl 1 [],AV.sl 1 [],i32 0,i64 0,i8 0,i32 0,i64 0,i8 0,i8 0,i8 0],i64 (checkE (Nod.mk v_kd v_na 0 v_nk v_ns v_np 0 v_za 0 v_w v_b v_qm v_qs v_qz 0 0 0 v_lo v_hi))]),.sort]) Try.func41 (by kernel_rfl) (.c oz0<|.c oz1<|.c oz2<|.c oz3<|.c oz4<|.c oz5<|.c oz6<|.c oz7<|.c oz8<|.c oz9<|.c oz10<|.c oz11<|.c oz12<|.c oz7<|.c oz8<|.c oz9<|.c oz16<|.c oz16<|.c oz16<|.c oz10<|.c oz10<|.c oz21<|.c z12_<|.c z13_<|.c oz24<|.c oz6<|.c z14_<|.c z15_<|.c oz28<|.c oz10<|.c oz30<|.c oz3<|.c oz4<|.c oz5<|.c oz6<|.c z16_<|.c z17_<|.c oz37<|.c oz10<|.c oz39<|.c oz40<|.c oz41<|.c oz42<|.c z18_<|.c z19_<|.c oz45<|.c oz10<|.c oz47<|.c (IntWalk.i32_in v_qm (by omega))<|.c oz49<|.c oz50<|.c oz3<|.c oz4<|.c oz5<|.c oz6<|.c oz55<|.c oz56<|.c (show (r15.snd != 0)=false by (simp;omega))<|.c oz58<|.c (show (checkE (Nod.mk v_kd v_na 0 v_nk v_ns v_np 0 v_za 0 v_w v_b v_qm v_qs v_qz 0 0 0 v_lo v_hi) != 0)=true by (simp;omega))<|.c (show Weak (AV.tup [AV.agg [i64 0,i64 0,i64 0,i64 0,i64 0,i64 0,i64 0,i8 0,i8 0,nilv,nilv,i32 0,i64 0,i8 0,i32 0,i64 0,i8 0,i8 0,i8 0],i64 (checkE (Nod.mk v_kd v_na 0 v_nk v_ns v_np 0 v_za 0 v_w v_b v_qm v_qs v_qz 0 0 0 v_lo v_hi))]) (AV.tup [AV.agg [i64 0,i64 0,i64 0,i64 0,i64 0,i64 0,i64 0,i8 0,i8 0,AV.sl 1 [],AV.sl 1 [],i32 0,i64 0,i8 0,i32 0,i64 0,i8 0,i8 0,i8 0],i64 (checkE (Nod.mk v_kd v_na 0 v_nk v_ns v_np 0 v_za 0 v_w v_b v_qm v_qs v_qz 0 0 0 v_lo v_hi))]) from (Weak.tup (.cons (Weak.agg (.cons (.refl _) (.cons (.refl _) (.cons (.refl _) (.cons (.refl _) (.cons (.refl _) (.cons (.refl _) (.cons (.refl _) (.cons (.refl _) (.cons (.refl _) (.cons (Weak.nil _) (.cons (Weak.nil _) (.cons (.refl _) (.cons (.refl _) (.cons (.refl _) (.cons (.refl _) (.cons (.refl _) (.cons (.refl _) (.cons (.refl _) (.cons (.refl _) .nil)))))))))))))))))))) (.cons (.refl _) .nil))))<|.n)
theorem rw_2y (xs:List Int) (r r1 r2 r3 r4 r5 r6 r7 r8 r9 r10 r11 r12 r13 r14 r15:Rrf) (v_kd v_na v_nk v_ns v_np v_za v_cw v_cb v_qm v_qs v_qz v_lo v_hi:Int) (v_w v_b:List Int) (g1:hCx xs r 9 v_kd r1) (g2:hCx xs r1 1024 v_na r2) (g3:hCx xs r2 1024 v_nk r3) (g4:hCx xs r3 1024 v_ns r4) (g5:hCx xs r4 1024 v_np r5) (g6:hOx xs r5 v_za r6) (g7:hCx xs r6 16384 v_cw r7) (g8:VM Try.prog 112 [.ptr 100000 0 0,i64 v_cw] [(100000,.var (rrC xs r7))] (.sl 1 (v_w.map (row1 .i8))) [(100000,.var (rrC xs r8))]) (g9:hCx xs r8 16384 v_cb r9) (g10:VM Try.prog 113 [.ptr 100000 0 0,i64 v_cb] [(100000,.var (rrC xs r9))] (.sl 1 (v_b.map (row1 .i32))) [(100000,.var (rrC xs r10))]) (g11:hCx xs r10 2147483647 v_qm r11) (g12:hCx xs r11 62 v_qs r12) (g13:hOx xs r12 v_qz r13) (g14:hOx xs r13 v_lo r14) (g15:hOx xs r14 v_hi r15) (hk:v_kd=2) (h9:In64 v_kd) (h_qm:0≤v_qm∧v_qm≤2147483647) (hbad:r15.2=0) (hw:v_w.length≤100000) (hb:v_b.length≤100000) (hc:checkE (⟨v_kd,v_na,0,v_nk,v_ns,v_np,0,v_za,0,v_w,v_b,v_qm,v_qs,v_qz,0,0,0,v_lo,v_hi⟩:Nod)=0):VM Try.prog 41 ([.ptr 100000 0 0]) ([(100000,.var (rrC xs r))]) (.tup [nod (⟨v_kd,v_na,0,v_nk,v_ns,v_np,0,v_za,0,v_w,v_b,v_qm,v_qs,v_qz,0,0,0,v_lo,v_hi⟩:Nod),i64 0]) ([(100000,.var (rrC xs r15))]):=by
 have oz0 := @g1
 have oz1 := @g2
 have oz2 := @tells_2 (v_kd) hk
 have oz3:=z2_
 have oz4:=z3_
 have oz5:=z20_
 have oz6:=z0_
 have oz7:=z5_
 have oz8:=z6_
 have oz9:=z21_
 have oz10:=z1_
 have oz11 := @g3
 have oz12 := @g4
 have oz16:=(show true = !false by (simp;done))
 have oz21 := @g5
 have oz24:=z22_
 have oz28:=z23_
 have oz30 := @g6
 have oz37:=z24_
 have oz39 := @g7
 have oz40 := @g8
 have oz41 := @g9
 have oz42 := @g10
 have oz45:=z25_
 have oz47 := @g11
 have oz49 := @g12
 have oz50 := @g13
 have oz55 := @g14
 have oz56 := @g15
 have oz58 := @refCheck_v (Nod.mk v_kd v_na 0 v_nk v_ns v_np 0 v_za 0 v_w v_b v_qm v_qs v_qz 0 0 0 v_lo v_hi) hw hb h9
 exact VM.run (fn:=Try.f41) (W:=[.r [] [],.r [] [cm oz0,cm oz1],.r [] [.callr (rO oz2)],.r [] [.row (sO oz5)],.br false,.r [] [.row (sO oz9)],.br true,.r [] [cm oz11],.r [] [cm oz12],.r [] [.row (sO oz9),.br false,.br false,.br false,.br true],.br true,.r [] [cm oz21],.r [] [.row (sO oz24)],.br false,.r [] [.row (sO oz28)],.br true,.r [] [cm oz30],.r [] [.row (sO oz5)],.br false,.r [] [.row (sO oz37)],.br true,.r [] [cm oz39,cm oz40],.r [] [cm oz41,cm oz42],.r [] [.row (sO oz45)],.br true,.r [] [cm oz47,.n v_qm,cm oz49,cm oz50],.r [] [.row (sO oz5)],.br false,.r [] [cm oz55],.r [] [cm oz56],.r [] [],.br false,.r [] [.callr (rO oz58)],.r [] [],.br false,.r [] []]) (G:=[.drop [2,4,5],.sort]) Try.func41 (by kernel_rfl) (.c oz0<|.c oz1<|.c oz2<|.c oz3<|.c oz4<|.c oz5<|.c oz6<|.c oz7<|.c oz8<|.c oz9<|.c oz10<|.c oz11<|.c oz12<|.c oz7<|.c oz8<|.c oz9<|.c oz16<|.c oz16<|.c oz16<|.c oz10<|.c oz10<|.c oz21<|.c z12_<|.c z13_<|.c oz24<|.c oz6<|.c z14_<|.c z15_<|.c oz28<|.c oz10<|.c oz30<|.c oz3<|.c oz4<|.c oz5<|.c oz6<|.c z16_<|.c z17_<|.c oz37<|.c oz10<|.c oz39<|.c oz40<|.c oz41<|.c oz42<|.c z18_<|.c z19_<|.c oz45<|.c oz10<|.c oz47<|.c (IntWalk.i32_in v_qm (by omega))<|.c oz49<|.c oz50<|.c oz3<|.c oz4<|.c oz5<|.c oz6<|.c oz55<|.c oz56<|.c (show (r15.snd != 0)=false by (simp;omega))<|.c oz58<|.c (show (checkE (Nod.mk v_kd v_na 0 v_nk v_ns v_np 0 v_za 0 v_w v_b v_qm v_qs v_qz 0 0 0 v_lo v_hi) != 0)=false by (simp;omega))<|.n)
theorem rw_3b (xs:List Int) (r r1 r2 r3 r4 r5 r6 r7 r8 r9 r10 r11 r12 r13:Rrf) (v_kd v_na v_no v_za v_cw v_cb v_qm v_qs v_qz v_lo v_hi:Int) (v_w v_b:List Int) (g1:hCx xs r 9 v_kd r1) (g2:hCx xs r1 1024 v_na r2) (g3:hCx xs r2 1024 v_no r3) (g4:hOx xs r3 v_za r4) (g5:hCx xs r4 16384 v_cw r5) (g6:VM Try.prog 112 [.ptr 100000 0 0,i64 v_cw] [(100000,.var (rrC xs r5))] (.sl 1 (v_w.map (row1 .i8))) [(100000,.var (rrC xs r6))]) (g7:hCx xs r6 16384 v_cb r7) (g8:VM Try.prog 113 [.ptr 100000 0 0,i64 v_cb] [(100000,.var (rrC xs r7))] (.sl 1 (v_b.map (row1 .i32))) [(100000,.var (rrC xs r8))]) (g9:hCx xs r8 2147483647 v_qm r9) (g10:hCx xs r9 62 v_qs r10) (g11:hOx xs r10 v_qz r11) (g12:hOx xs r11 v_lo r12) (g13:hOx xs r12 v_hi r13) (hk:v_kd=3) (h9:In64 v_kd) (h_qm:0≤v_qm∧v_qm≤2147483647) (hbad:r13.2≠0):VM Try.prog 41 ([.ptr 100000 0 0]) ([(100000,.var (rrC xs r))]) (.tup [.agg [i64 0,i64 0,i64 0,i64 0,i64 0,i64 0,i64 0,i8 0,i8 0,.sl 1 [],.sl 1 [],i32 0,i64 0,i8 0,i32 0,i64 0,i8 0,i8 0,i8 0],i64 r13.2]) ([(100000,.var (rrC xs r13))]):=by
 have oz0 := @g1
 have oz1 := @g2
 have oz2 := @tells_3 (v_kd) hk
 have oz3:=z2_
 have oz4:=z3_
 have oz5:=z26_
 have oz6:=z0_
 have oz7:=z5_
 have oz8:=z6_
 have oz9:=z27_
 have oz21:=z28_
 have oz22:=z1_
 have oz23 := @g3
 have oz26:=z29_
 have oz28 := @g4
 have oz35:=z30_
 have oz37 := @g5
 have oz38 := @g6
 have oz39 := @g7
 have oz40 := @g8
 have oz43:=z31_
 have oz45 := @g9
 have oz47 := @g10
 have oz48 := @g11
 have oz53 := @g12
 have oz54 := @g13
 exact VM.run (fn:=Try.f41) (W:=[.r [] [],.r [] [cm oz0,cm oz1],.r [] [.callr (rO oz2)],.r [] [.row (sO oz5)],.br false,.r [] [.row (sO oz5)],.br false,.r [] [.row (sO oz5),.br true,.br true,.br true,.br false],.br false,.r [] [.row (sO oz21)],.br true,.r [] [cm oz23],.r [] [.row (sO oz26)],.br true,.r [] [cm oz28],.r [] [.row (sO oz5)],.br false,.r [] [.row (sO oz35)],.br true,.r [] [cm oz37,cm oz38],.r [] [cm oz39,cm oz40],.r [] [.row (sO oz43)],.br true,.r [] [cm oz45,.n v_qm,cm oz47,cm oz48],.r [] [.row (sO oz5)],.br false,.r [] [cm oz53],.r [] [cm oz54],.r [] [],.br true,.r [] []]) (G:=[.drop [2,4,5],.weak 0 (AV.tup [AV.agg [i64 0,i64 0,i64 0,i64 0,i64 0,i64 0,i64 0,i8 0,i8 0,AV.sl 1 [],AV.sl 1 [],i32 0,i64 0,i8 0,i32 0,i64 0,i8 0,i8 0,i8 0],i64 r13.snd]),.sort]) Try.func41 (by kernel_rfl) (.c oz0<|.c oz1<|.c oz2<|.c oz3<|.c oz4<|.c oz5<|.c oz6<|.c oz7<|.c oz8<|.c oz9<|.c oz6<|.c oz7<|.c oz8<|.c oz9<|.c oz6<|.c oz6<|.c oz6<|.c oz6<|.c (show (v_kd==8)=false by (refine decide_eq_false ?_;omega))<|.c z12_<|.c z13_<|.c oz21<|.c oz22<|.c oz23<|.c z14_<|.c z15_<|.c oz26<|.c oz22<|.c oz28<|.c oz3<|.c oz4<|.c oz5<|.c oz6<|.c z16_<|.c z17_<|.c oz35<|.c oz22<|.c oz37<|.c oz38<|.c oz39<|.c oz40<|.c z18_<|.c z19_<|.c oz43<|.c oz22<|.c oz45<|.c (IntWalk.i32_in v_qm (by omega))<|.c oz47<|.c oz48<|.c oz3<|.c oz4<|.c oz5<|.c oz6<|.c oz53<|.c oz54<|.c (show (r13.snd != 0)=true by (simp;omega))<|.c (show Weak (AV.tup [AV.agg [i64 0,i64 0,i64 0,i64 0,i64 0,i64 0,i64 0,i8 0,i8 0,nilv,nilv,i32 0,i64 0,i8 0,i32 0,i64 0,i8 0,i8 0,i8 0],i64 r13.snd]) (AV.tup [AV.agg [i64 0,i64 0,i64 0,i64 0,i64 0,i64 0,i64 0,i8 0,i8 0,AV.sl 1 [],AV.sl 1 [],i32 0,i64 0,i8 0,i32 0,i64 0,i8 0,i8 0,i8 0],i64 r13.snd]) from (Weak.tup (.cons (Weak.agg (.cons (.refl _) (.cons (.refl _) (.cons (.refl _) (.cons (.refl _) (.cons (.refl _) (.cons (.refl _) (.cons (.refl _) (.cons (.refl _) (.cons (.refl _) (.cons (Weak.nil _) (.cons (Weak.nil _) (.cons (.refl _) (.cons (.refl _) (.cons (.refl _) (.cons (.refl _) (.cons (.refl _) (.cons (.refl _) (.cons (.refl _) (.cons (.refl _) .nil)))))))))))))))))))) (.cons (.refl _) .nil))))<|.n)
theorem rw_3c (xs:List Int) (r r1 r2 r3 r4 r5 r6 r7 r8 r9 r10 r11 r12 r13:Rrf) (v_kd v_na v_no v_za v_cw v_cb v_qm v_qs v_qz v_lo v_hi:Int) (v_w v_b:List Int) (g1:hCx xs r 9 v_kd r1) (g2:hCx xs r1 1024 v_na r2) (g3:hCx xs r2 1024 v_no r3) (g4:hOx xs r3 v_za r4) (g5:hCx xs r4 16384 v_cw r5) (g6:VM Try.prog 112 [.ptr 100000 0 0,i64 v_cw] [(100000,.var (rrC xs r5))] (.sl 1 (v_w.map (row1 .i8))) [(100000,.var (rrC xs r6))]) (g7:hCx xs r6 16384 v_cb r7) (g8:VM Try.prog 113 [.ptr 100000 0 0,i64 v_cb] [(100000,.var (rrC xs r7))] (.sl 1 (v_b.map (row1 .i32))) [(100000,.var (rrC xs r8))]) (g9:hCx xs r8 2147483647 v_qm r9) (g10:hCx xs r9 62 v_qs r10) (g11:hOx xs r10 v_qz r11) (g12:hOx xs r11 v_lo r12) (g13:hOx xs r12 v_hi r13) (hk:v_kd=3) (h9:In64 v_kd) (h_qm:0≤v_qm∧v_qm≤2147483647) (hbad:r13.2=0) (hw:v_w.length≤100000) (hb:v_b.length≤100000) (hc:checkE (⟨v_kd,v_na,0,0,0,0,v_no,v_za,0,v_w,v_b,v_qm,v_qs,v_qz,0,0,0,v_lo,v_hi⟩:Nod)≠0):VM Try.prog 41 ([.ptr 100000 0 0]) ([(100000,.var (rrC xs r))]) (.tup [.agg [i64 0,i64 0,i64 0,i64 0,i64 0,i64 0,i64 0,i8 0,i8 0,.sl 1 [],.sl 1 [],i32 0,i64 0,i8 0,i32 0,i64 0,i8 0,i8 0,i8 0],i64 (checkE (⟨v_kd,v_na,0,0,0,0,v_no,v_za,0,v_w,v_b,v_qm,v_qs,v_qz,0,0,0,v_lo,v_hi⟩:Nod))]) ([(100000,.var (rrC xs r13))]):=by
 have oz0 := @g1
 have oz1 := @g2
 have oz2 := @tells_3 (v_kd) hk
 have oz3:=z2_
 have oz4:=z3_
 have oz5:=z26_
 have oz6:=z0_
 have oz7:=z5_
 have oz8:=z6_
 have oz9:=z27_
 have oz21:=z28_
 have oz22:=z1_
 have oz23 := @g3
 have oz26:=z29_
 have oz28 := @g4
 have oz35:=z30_
 have oz37 := @g5
 have oz38 := @g6
 have oz39 := @g7
 have oz40 := @g8
 have oz43:=z31_
 have oz45 := @g9
 have oz47 := @g10
 have oz48 := @g11
 have oz53 := @g12
 have oz54 := @g13
 have oz56 := @refCheck_v (Nod.mk v_kd v_na 0 0 0 0 v_no v_za 0 v_w v_b v_qm v_qs v_qz 0 0 0 v_lo v_hi) hw hb h9
 exact VM.run (fn:=Try.f41) (W:=[.r [] [],.r [] [cm oz0,cm oz1],.r [] [.callr (rO oz2)],.r [] [.row (sO oz5)],.br false,.r [] [.row (sO oz5)],.br false,.r [] [.row (sO oz5),.br true,.br true,.br true,.br false],.br false,.r [] [.row (sO oz21)],.br true,.r [] [cm oz23],.r [] [.row (sO oz26)],.br true,.r [] [cm oz28],.r [] [.row (sO oz5)],.br false,.r [] [.row (sO oz35)],.br true,.r [] [cm oz37,cm oz38],.r [] [cm oz39,cm oz40],.r [] [.row (sO oz43)],.br true,.r [] [cm oz45,.n v_qm,cm oz47,cm oz48],.r [] [.row (sO oz5)],.br false,.r [] [cm oz53],.r [] [cm oz54],.r [] [],.br false,.r [] [.callr (rO oz56)],.r [] [],.br true,.r [] []]) (G:=[.drop [2,4,5],.weak 0 (AV.tup [AV.agg [i64 0,i64 0,i64 0,i64 0,i64 0,i64 0,i64 0,i8 0,i8 0,AV.sl 1 [],AV.sl 1 [],i32 0,i64 0,i8 0,i32 0,i64 0,i8 0,i8 0,i8 0],i64 (checkE (Nod.mk v_kd v_na 0 0 0 0 v_no v_za 0 v_w v_b v_qm v_qs v_qz 0 0 0 v_lo v_hi))]),.sort]) Try.func41 (by kernel_rfl) (.c oz0<|.c oz1<|.c oz2<|.c oz3<|.c oz4<|.c oz5<|.c oz6<|.c oz7<|.c oz8<|.c oz9<|.c oz6<|.c oz7<|.c oz8<|.c oz9<|.c oz6<|.c oz6<|.c oz6<|.c oz6<|.c (show (v_kd==8)=false by (refine decide_eq_false ?_;omega))<|.c z12_<|.c z13_<|.c oz21<|.c oz22<|.c oz23<|.c z14_<|.c z15_<|.c oz26<|.c oz22<|.c oz28<|.c oz3<|.c oz4<|.c oz5<|.c oz6<|.c z16_<|.c z17_<|.c oz35<|.c oz22<|.c oz37<|.c oz38<|.c oz39<|.c oz40<|.c z18_<|.c z19_<|.c oz43<|.c oz22<|.c oz45<|.c (IntWalk.i32_in v_qm (by omega))<|.c oz47<|.c oz48<|.c oz3<|.c oz4<|.c oz5<|.c oz6<|.c oz53<|.c oz54<|.c (show (r13.snd != 0)=false by (simp;omega))<|.c oz56<|.c (show (checkE (Nod.mk v_kd v_na 0 0 0 0 v_no v_za 0 v_w v_b v_qm v_qs v_qz 0 0 0 v_lo v_hi) != 0)=true by (simp;omega))<|.c (show Weak (AV.tup [AV.agg [i64 0,i64 0,i64 0,i64 0,i64 0,i64 0,i64 0,i8 0,i8 0,nilv,nilv,i32 0,i64 0,i8 0,i32 0,i64 0,i8 0,i8 0,i8 0],i64 (checkE (Nod.mk v_kd v_na 0 0 0 0 v_no v_za 0 v_w v_b v_qm v_qs v_qz 0 0 0 v_lo v_hi))]) (AV.tup [AV.agg [i64 0,i64 0,i64 0,i64 0,i64 0,i64 0,i64 0,i8 0,i8 0,AV.sl 1 [],AV.sl 1 [],i32 0,i64 0,i8 0,i32 0,i64 0,i8 0,i8 0,i8 0],i64 (checkE (Nod.mk v_kd v_na 0 0 0 0 v_no v_za 0 v_w v_b v_qm v_qs v_qz 0 0 0 v_lo v_hi))]) from (Weak.tup (.cons (Weak.agg (.cons (.refl _) (.cons (.refl _) (.cons (.refl _) (.cons (.refl _) (.cons (.refl _) (.cons (.refl _) (.cons (.refl _) (.cons (.refl _) (.cons (.refl _) (.cons (Weak.nil _) (.cons (Weak.nil _) (.cons (.refl _) (.cons (.refl _) (.cons (.refl _) (.cons (.refl _) (.cons (.refl _) (.cons (.refl _) (.cons (.refl _) (.cons (.refl _) .nil)))))))))))))))))))) (.cons (.refl _) .nil))))<|.n)
theorem rw_3y (xs:List Int) (r r1 r2 r3 r4 r5 r6 r7 r8 r9 r10 r11 r12 r13:Rrf) (v_kd v_na v_no v_za v_cw v_cb v_qm v_qs v_qz v_lo v_hi:Int) (v_w v_b:List Int) (g1:hCx xs r 9 v_kd r1) (g2:hCx xs r1 1024 v_na r2) (g3:hCx xs r2 1024 v_no r3) (g4:hOx xs r3 v_za r4) (g5:hCx xs r4 16384 v_cw r5) (g6:VM Try.prog 112 [.ptr 100000 0 0,i64 v_cw] [(100000,.var (rrC xs r5))] (.sl 1 (v_w.map (row1 .i8))) [(100000,.var (rrC xs r6))]) (g7:hCx xs r6 16384 v_cb r7) (g8:VM Try.prog 113 [.ptr 100000 0 0,i64 v_cb] [(100000,.var (rrC xs r7))] (.sl 1 (v_b.map (row1 .i32))) [(100000,.var (rrC xs r8))]) (g9:hCx xs r8 2147483647 v_qm r9) (g10:hCx xs r9 62 v_qs r10) (g11:hOx xs r10 v_qz r11) (g12:hOx xs r11 v_lo r12) (g13:hOx xs r12 v_hi r13) (hk:v_kd=3) (h9:In64 v_kd) (h_qm:0≤v_qm∧v_qm≤2147483647) (hbad:r13.2=0) (hw:v_w.length≤100000) (hb:v_b.length≤100000) (hc:checkE (⟨v_kd,v_na,0,0,0,0,v_no,v_za,0,v_w,v_b,v_qm,v_qs,v_qz,0,0,0,v_lo,v_hi⟩:Nod)=0):VM Try.prog 41 ([.ptr 100000 0 0]) ([(100000,.var (rrC xs r))]) (.tup [nod (⟨v_kd,v_na,0,0,0,0,v_no,v_za,0,v_w,v_b,v_qm,v_qs,v_qz,0,0,0,v_lo,v_hi⟩:Nod),i64 0]) ([(100000,.var (rrC xs r13))]):=by
 have oz0 := @g1
 have oz1 := @g2
 have oz2 := @tells_3 (v_kd) hk
 have oz3:=z2_
 have oz4:=z3_
 have oz5:=z26_
 have oz6:=z0_
 have oz7:=z5_
 have oz8:=z6_
 have oz9:=z27_
 have oz21:=z28_
 have oz22:=z1_
 have oz23 := @g3
 have oz26:=z29_
 have oz28 := @g4
 have oz35:=z30_
 have oz37 := @g5
 have oz38 := @g6
 have oz39 := @g7
 have oz40 := @g8
 have oz43:=z31_
 have oz45 := @g9
 have oz47 := @g10
 have oz48 := @g11
 have oz53 := @g12
 have oz54 := @g13
 have oz56 := @refCheck_v (Nod.mk v_kd v_na 0 0 0 0 v_no v_za 0 v_w v_b v_qm v_qs v_qz 0 0 0 v_lo v_hi) hw hb h9
 exact VM.run (fn:=Try.f41) (W:=[.r [] [],.r [] [cm oz0,cm oz1],.r [] [.callr (rO oz2)],.r [] [.row (sO oz5)],.br false,.r [] [.row (sO oz5)],.br false,.r [] [.row (sO oz5),.br true,.br true,.br true,.br false],.br false,.r [] [.row (sO oz21)],.br true,.r [] [cm oz23],.r [] [.row (sO oz26)],.br true,.r [] [cm oz28],.r [] [.row (sO oz5)],.br false,.r [] [.row (sO oz35)],.br true,.r [] [cm oz37,cm oz38],.r [] [cm oz39,cm oz40],.r [] [.row (sO oz43)],.br true,.r [] [cm oz45,.n v_qm,cm oz47,cm oz48],.r [] [.row (sO oz5)],.br false,.r [] [cm oz53],.r [] [cm oz54],.r [] [],.br false,.r [] [.callr (rO oz56)],.r [] [],.br false,.r [] []]) (G:=[.drop [2,4,5],.sort]) Try.func41 (by kernel_rfl) (.c oz0<|.c oz1<|.c oz2<|.c oz3<|.c oz4<|.c oz5<|.c oz6<|.c oz7<|.c oz8<|.c oz9<|.c oz6<|.c oz7<|.c oz8<|.c oz9<|.c oz6<|.c oz6<|.c oz6<|.c oz6<|.c (show (v_kd==8)=false by (refine decide_eq_false ?_;omega))<|.c z12_<|.c z13_<|.c oz21<|.c oz22<|.c oz23<|.c z14_<|.c z15_<|.c oz26<|.c oz22<|.c oz28<|.c oz3<|.c oz4<|.c oz5<|.c oz6<|.c z16_<|.c z17_<|.c oz35<|.c oz22<|.c oz37<|.c oz38<|.c oz39<|.c oz40<|.c z18_<|.c z19_<|.c oz43<|.c oz22<|.c oz45<|.c (IntWalk.i32_in v_qm (by omega))<|.c oz47<|.c oz48<|.c oz3<|.c oz4<|.c oz5<|.c oz6<|.c oz53<|.c oz54<|.c (show (r13.snd != 0)=false by (simp;omega))<|.c oz56<|.c (show (checkE (Nod.mk v_kd v_na 0 0 0 0 v_no v_za 0 v_w v_b v_qm v_qs v_qz 0 0 0 v_lo v_hi) != 0)=false by (simp;omega))<|.n)
theorem rw_4b (xs:List Int) (r r1 r2 r3 r4 r5:Rrf) (v_kd v_na v_nk v_ns v_np:Int) (g1:hCx xs r 9 v_kd r1) (g2:hCx xs r1 1024 v_na r2) (g3:hCx xs r2 1024 v_nk r3) (g4:hCx xs r3 1024 v_ns r4) (g5:hCx xs r4 1024 v_np r5) (hk:v_kd=4∨v_kd=5) (h9:In64 v_kd)  (hbad:r5.2≠0):VM Try.prog 41 ([.ptr 100000 0 0]) ([(100000,.var (rrC xs r))]) (.tup [.agg [i64 0,i64 0,i64 0,i64 0,i64 0,i64 0,i64 0,i8 0,i8 0,.sl 1 [],.sl 1 [],i32 0,i64 0,i8 0,i32 0,i64 0,i8 0,i8 0,i8 0],i64 r5.2]) ([(100000,.var (rrC xs r5))]):=by
 have oz0 := @g1
 have oz1 := @g2
 have oz2 := @tells_4 (v_kd) hk
 have oz3:=z2_
 have oz4:=z3_
 have oz5:=z32_
 have oz6:=z0_
 have oz7:=z5_
 have oz8:=z6_
 have oz9:=z33_
 have oz10:=z1_
 have oz11 := @g3
 have oz12 := @g4
 have oz16:=(show true = !false by (simp;done))
 have oz21 := @g5
 have oz24:=z34_
 have oz28:=z35_
 have oz36:=z36_
 have oz40:=z37_
 exact VM.run (fn:=Try.f41) (W:=[.r [] [],.r [] [cm oz0,cm oz1],.r [] [.callr (rO oz2)],.r [] [.row (sO oz5)],.br false,.r [] [.row (sO oz9)],.br true,.r [] [cm oz11],.r [] [cm oz12],.r [] [.row (sO oz9),.br false,.br false,.br false,.br true],.br true,.r [] [cm oz21],.r [] [.row (sO oz24)],.br false,.r [] [.row (sO oz24)],.br false,.r [] [.row (sO oz24)],.br false,.r [] [.row (sO oz24)],.br false,.r [] [.row (sO oz24)],.br false,.r [] [],.br true,.r [] []]) (G:=[.drop [2,4,5],.weak 0 (AV.tup [AV.agg [i64 0,i64 0,i64 0,i64 0,i64 0,i64 0,i64 0,i8 0,i8 0,AV.sl 1 [],AV.sl 1 [],i32 0,i64 0,i8 0,i32 0,i64 0,i8 0,i8 0,i8 0],i64 r5.snd]),.sort]) Try.func41 (by kernel_rfl) (.c oz0<|.c oz1<|.c oz2<|.c oz3<|.c oz4<|.c oz5<|.c oz6<|.c oz7<|.c oz8<|.c oz9<|.c oz10<|.c oz11<|.c oz12<|.c oz7<|.c oz8<|.c oz9<|.c oz16<|.c oz16<|.c oz16<|.c oz10<|.c oz10<|.c oz21<|.c z12_<|.c z13_<|.c oz24<|.c oz6<|.c z14_<|.c z15_<|.c oz28<|.c oz6<|.c oz3<|.c oz4<|.c oz5<|.c oz6<|.c z16_<|.c z17_<|.c oz36<|.c oz6<|.c z18_<|.c z19_<|.c oz40<|.c oz6<|.c (show (r5.snd != 0)=true by (simp;omega))<|.c (show Weak (AV.tup [AV.agg [i64 0,i64 0,i64 0,i64 0,i64 0,i64 0,i64 0,i8 0,i8 0,nilv,nilv,i32 0,i64 0,i8 0,i32 0,i64 0,i8 0,i8 0,i8 0],i64 r5.snd]) (AV.tup [AV.agg [i64 0,i64 0,i64 0,i64 0,i64 0,i64 0,i64 0,i8 0,i8 0,AV.sl 1 [],AV.sl 1 [],i32 0,i64 0,i8 0,i32 0,i64 0,i8 0,i8 0,i8 0],i64 r5.snd]) from (Weak.tup (.cons (Weak.agg (.cons (.refl _) (.cons (.refl _) (.cons (.refl _) (.cons (.refl _) (.cons (.refl _) (.cons (.refl _) (.cons (.refl _) (.cons (.refl _) (.cons (.refl _) (.cons (Weak.nil _) (.cons (Weak.nil _) (.cons (.refl _) (.cons (.refl _) (.cons (.refl _) (.cons (.refl _) (.cons (.refl _) (.cons (.refl _) (.cons (.refl _) (.cons (.refl _) .nil)))))))))))))))))))) (.cons (.refl _) .nil))))<|.n)
theorem rw_4c (xs:List Int) (r r1 r2 r3 r4 r5:Rrf) (v_kd v_na v_nk v_ns v_np:Int) (g1:hCx xs r 9 v_kd r1) (g2:hCx xs r1 1024 v_na r2) (g3:hCx xs r2 1024 v_nk r3) (g4:hCx xs r3 1024 v_ns r4) (g5:hCx xs r4 1024 v_np r5) (hk:v_kd=4∨v_kd=5) (h9:In64 v_kd)  (hbad:r5.2=0)  (hc:checkE (⟨v_kd,v_na,0,v_nk,v_ns,v_np,0,0,0,[],[],0,0,0,0,0,0,0,0⟩:Nod)≠0):VM Try.prog 41 ([.ptr 100000 0 0]) ([(100000,.var (rrC xs r))]) (.tup [.agg [i64 0,i64 0,i64 0,i64 0,i64 0,i64 0,i64 0,i8 0,i8 0,.sl 1 [],.sl 1 [],i32 0,i64 0,i8 0,i32 0,i64 0,i8 0,i8 0,i8 0],i64 (checkE (⟨v_kd,v_na,0,v_nk,v_ns,v_np,0,0,0,[],[],0,0,0,0,0,0,0,0⟩:Nod))]) ([(100000,.var (rrC xs r5))]):=by
 have oz0 := @g1
 have oz1 := @g2
 have oz2 := @tells_4 (v_kd) hk
 have oz3:=z2_
 have oz4:=z3_
 have oz5:=z32_
 have oz6:=z0_
 have oz7:=z5_
 have oz8:=z6_
 have oz9:=z33_
 have oz10:=z1_
 have oz11 := @g3
 have oz12 := @g4
 have oz16:=(show true = !false by (simp;done))
 have oz21 := @g5
 have oz24:=z34_
 have oz28:=z35_
 have oz36:=z36_
 have oz40:=z37_
 have oz44 := @refCheck_v (Nod.mk v_kd v_na 0 v_nk v_ns v_np 0 0 0 [] [] 0 0 0 0 0 0 0 0) (by (simp;done)) (by (simp;done)) h9
 exact VM.run (fn:=Try.f41) (W:=[.r [] [],.r [] [cm oz0,cm oz1],.r [] [.callr (rO oz2)],.r [] [.row (sO oz5)],.br false,.r [] [.row (sO oz9)],.br true,.r [] [cm oz11],.r [] [cm oz12],.r [] [.row (sO oz9),.br false,.br false,.br false,.br true],.br true,.r [] [cm oz21],.r [] [.row (sO oz24)],.br false,.r [] [.row (sO oz24)],.br false,.r [] [.row (sO oz24)],.br false,.r [] [.row (sO oz24)],.br false,.r [] [.row (sO oz24)],.br false,.r [] [],.br false,.r [] [.call (aO oz44) (rO oz44)],.r [] [],.br true,.r [] []]) (G:=[.drop [2,4,5],.weak 0 (AV.tup [AV.agg [i64 0,i64 0,i64 0,i64 0,i64 0,i64 0,i64 0,i8 0,i8 0,AV.sl 1 [],AV.sl 1 [],i32 0,i64 0,i8 0,i32 0,i64 0,i8 0,i8 0,i8 0],i64 (checkE (Nod.mk v_kd v_na 0 v_nk v_ns v_np 0 0 0 [] [] 0 0 0 0 0 0 0 0))]),.sort]) Try.func41 (by kernel_rfl) (.c oz0<|.c oz1<|.c oz2<|.c oz3<|.c oz4<|.c oz5<|.c oz6<|.c oz7<|.c oz8<|.c oz9<|.c oz10<|.c oz11<|.c oz12<|.c oz7<|.c oz8<|.c oz9<|.c oz16<|.c oz16<|.c oz16<|.c oz10<|.c oz10<|.c oz21<|.c z12_<|.c z13_<|.c oz24<|.c oz6<|.c z14_<|.c z15_<|.c oz28<|.c oz6<|.c oz3<|.c oz4<|.c oz5<|.c oz6<|.c z16_<|.c z17_<|.c oz36<|.c oz6<|.c z18_<|.c z19_<|.c oz40<|.c oz6<|.c (show (r5.snd != 0)=false by (simp;omega))<|.c (show WeakL [AV.agg [i64 v_kd,i64 v_na,i64 0,i64 v_nk,i64 v_ns,i64 v_np,i64 0,i8 0,i8 0,nilv,nilv,i32 0,i64 0,i8 0,i32 0,i64 0,i8 0,i8 0,i8 0]] [AV.agg [i64 (Nod.mk v_kd v_na 0 v_nk v_ns v_np 0 0 0 [] [] 0 0 0 0 0 0 0 0).kd,i64 (Nod.mk v_kd v_na 0 v_nk v_ns v_np 0 0 0 [] [] 0 0 0 0 0 0 0 0).na,i64 (Nod.mk v_kd v_na 0 v_nk v_ns v_np 0 0 0 [] [] 0 0 0 0 0 0 0 0).nb,i64 (Nod.mk v_kd v_na 0 v_nk v_ns v_np 0 0 0 [] [] 0 0 0 0 0 0 0 0).nk,i64 (Nod.mk v_kd v_na 0 v_nk v_ns v_np 0 0 0 [] [] 0 0 0 0 0 0 0 0).ns,i64 (Nod.mk v_kd v_na 0 v_nk v_ns v_np 0 0 0 [] [] 0 0 0 0 0 0 0 0).np,i64 (Nod.mk v_kd v_na 0 v_nk v_ns v_np 0 0 0 [] [] 0 0 0 0 0 0 0 0).no,i8 (Nod.mk v_kd v_na 0 v_nk v_ns v_np 0 0 0 [] [] 0 0 0 0 0 0 0 0).za,i8 (Nod.mk v_kd v_na 0 v_nk v_ns v_np 0 0 0 [] [] 0 0 0 0 0 0 0 0).zb,AV.sl 1 [],AV.sl 1 [],i32 (Nod.mk v_kd v_na 0 v_nk v_ns v_np 0 0 0 [] [] 0 0 0 0 0 0 0 0).qm,i64 (Nod.mk v_kd v_na 0 v_nk v_ns v_np 0 0 0 [] [] 0 0 0 0 0 0 0 0).qs,i8 (Nod.mk v_kd v_na 0 v_nk v_ns v_np 0 0 0 [] [] 0 0 0 0 0 0 0 0).qz,i32 (Nod.mk v_kd v_na 0 v_nk v_ns v_np 0 0 0 [] [] 0 0 0 0 0 0 0 0).rm,i64 (Nod.mk v_kd v_na 0 v_nk v_ns v_np 0 0 0 [] [] 0 0 0 0 0 0 0 0).rs,i8 (Nod.mk v_kd v_na 0 v_nk v_ns v_np 0 0 0 [] [] 0 0 0 0 0 0 0 0).rz,i8 (Nod.mk v_kd v_na 0 v_nk v_ns v_np 0 0 0 [] [] 0 0 0 0 0 0 0 0).lo,i8 (Nod.mk v_kd v_na 0 v_nk v_ns v_np 0 0 0 [] [] 0 0 0 0 0 0 0 0).hi]] from (.cons (Weak.agg (.cons (.refl _) (.cons (.refl _) (.cons (.refl _) (.cons (.refl _) (.cons (.refl _) (.cons (.refl _) (.cons (.refl _) (.cons (.refl _) (.cons (.refl _) (.cons (Weak.nil _) (.cons (Weak.nil _) (.cons (.refl _) (.cons (.refl _) (.cons (.refl _) (.cons (.refl _) (.cons (.refl _) (.cons (.refl _) (.cons (.refl _) (.cons (.refl _) .nil)))))))))))))))))))) .nil))<|.c oz44<|.c (show (checkE (Nod.mk v_kd v_na 0 v_nk v_ns v_np 0 0 0 [] [] 0 0 0 0 0 0 0 0) != 0)=true by (simp;omega))<|.c (show Weak (AV.tup [AV.agg [i64 0,i64 0,i64 0,i64 0,i64 0,i64 0,i64 0,i8 0,i8 0,nilv,nilv,i32 0,i64 0,i8 0,i32 0,i64 0,i8 0,i8 0,i8 0],i64 (checkE (Nod.mk v_kd v_na 0 v_nk v_ns v_np 0 0 0 [] [] 0 0 0 0 0 0 0 0))]) (AV.tup [AV.agg [i64 0,i64 0,i64 0,i64 0,i64 0,i64 0,i64 0,i8 0,i8 0,AV.sl 1 [],AV.sl 1 [],i32 0,i64 0,i8 0,i32 0,i64 0,i8 0,i8 0,i8 0],i64 (checkE (Nod.mk v_kd v_na 0 v_nk v_ns v_np 0 0 0 [] [] 0 0 0 0 0 0 0 0))]) from (Weak.tup (.cons (Weak.agg (.cons (.refl _) (.cons (.refl _) (.cons (.refl _) (.cons (.refl _) (.cons (.refl _) (.cons (.refl _) (.cons (.refl _) (.cons (.refl _) (.cons (.refl _) (.cons (Weak.nil _) (.cons (Weak.nil _) (.cons (.refl _) (.cons (.refl _) (.cons (.refl _) (.cons (.refl _) (.cons (.refl _) (.cons (.refl _) (.cons (.refl _) (.cons (.refl _) .nil)))))))))))))))))))) (.cons (.refl _) .nil))))<|.n)
theorem rw_4y (xs:List Int) (r r1 r2 r3 r4 r5:Rrf) (v_kd v_na v_nk v_ns v_np:Int) (g1:hCx xs r 9 v_kd r1) (g2:hCx xs r1 1024 v_na r2) (g3:hCx xs r2 1024 v_nk r3) (g4:hCx xs r3 1024 v_ns r4) (g5:hCx xs r4 1024 v_np r5) (hk:v_kd=4∨v_kd=5) (h9:In64 v_kd)  (hbad:r5.2=0)  (hc:checkE (⟨v_kd,v_na,0,v_nk,v_ns,v_np,0,0,0,[],[],0,0,0,0,0,0,0,0⟩:Nod)=0):VM Try.prog 41 ([.ptr 100000 0 0]) ([(100000,.var (rrC xs r))]) (.tup [nod (⟨v_kd,v_na,0,v_nk,v_ns,v_np,0,0,0,[],[],0,0,0,0,0,0,0,0⟩:Nod),i64 0]) ([(100000,.var (rrC xs r5))]):=by
 have oz0 := @g1
 have oz1 := @g2
 have oz2 := @tells_4 (v_kd) hk
 have oz3:=z2_
 have oz4:=z3_
 have oz5:=z32_
 have oz6:=z0_
 have oz7:=z5_
 have oz8:=z6_
 have oz9:=z33_
 have oz10:=z1_
 have oz11 := @g3
 have oz12 := @g4
 have oz16:=(show true = !false by (simp;done))
 have oz21 := @g5
 have oz24:=z34_
 have oz28:=z35_
 have oz36:=z36_
 have oz40:=z37_
 have oz44 := @refCheck_v (Nod.mk v_kd v_na 0 v_nk v_ns v_np 0 0 0 [] [] 0 0 0 0 0 0 0 0) (by (simp;done)) (by (simp;done)) h9
 exact VM.run (fn:=Try.f41) (W:=[.r [] [],.r [] [cm oz0,cm oz1],.r [] [.callr (rO oz2)],.r [] [.row (sO oz5)],.br false,.r [] [.row (sO oz9)],.br true,.r [] [cm oz11],.r [] [cm oz12],.r [] [.row (sO oz9),.br false,.br false,.br false,.br true],.br true,.r [] [cm oz21],.r [] [.row (sO oz24)],.br false,.r [] [.row (sO oz24)],.br false,.r [] [.row (sO oz24)],.br false,.r [] [.row (sO oz24)],.br false,.r [] [.row (sO oz24)],.br false,.r [] [],.br false,.r [] [.call (aO oz44) (rO oz44)],.r [] [],.br false,.r [] []]) (G:=[.drop [2,4,5],.weak 0 (AV.tup [AV.agg [i64 v_kd,i64 v_na,i64 0,i64 v_nk,i64 v_ns,i64 v_np,i64 0,i8 0,i8 0,AV.sl 1 [],AV.sl 1 [],i32 0,i64 0,i8 0,i32 0,i64 0,i8 0,i8 0,i8 0],i64 0]),.sort]) Try.func41 (by kernel_rfl) (.c oz0<|.c oz1<|.c oz2<|.c oz3<|.c oz4<|.c oz5<|.c oz6<|.c oz7<|.c oz8<|.c oz9<|.c oz10<|.c oz11<|.c oz12<|.c oz7<|.c oz8<|.c oz9<|.c oz16<|.c oz16<|.c oz16<|.c oz10<|.c oz10<|.c oz21<|.c z12_<|.c z13_<|.c oz24<|.c oz6<|.c z14_<|.c z15_<|.c oz28<|.c oz6<|.c oz3<|.c oz4<|.c oz5<|.c oz6<|.c z16_<|.c z17_<|.c oz36<|.c oz6<|.c z18_<|.c z19_<|.c oz40<|.c oz6<|.c (show (r5.snd != 0)=false by (simp;omega))<|.c (show WeakL [AV.agg [i64 v_kd,i64 v_na,i64 0,i64 v_nk,i64 v_ns,i64 v_np,i64 0,i8 0,i8 0,nilv,nilv,i32 0,i64 0,i8 0,i32 0,i64 0,i8 0,i8 0,i8 0]] [AV.agg [i64 (Nod.mk v_kd v_na 0 v_nk v_ns v_np 0 0 0 [] [] 0 0 0 0 0 0 0 0).kd,i64 (Nod.mk v_kd v_na 0 v_nk v_ns v_np 0 0 0 [] [] 0 0 0 0 0 0 0 0).na,i64 (Nod.mk v_kd v_na 0 v_nk v_ns v_np 0 0 0 [] [] 0 0 0 0 0 0 0 0).nb,i64 (Nod.mk v_kd v_na 0 v_nk v_ns v_np 0 0 0 [] [] 0 0 0 0 0 0 0 0).nk,i64 (Nod.mk v_kd v_na 0 v_nk v_ns v_np 0 0 0 [] [] 0 0 0 0 0 0 0 0).ns,i64 (Nod.mk v_kd v_na 0 v_nk v_ns v_np 0 0 0 [] [] 0 0 0 0 0 0 0 0).np,i64 (Nod.mk v_kd v_na 0 v_nk v_ns v_np 0 0 0 [] [] 0 0 0 0 0 0 0 0).no,i8 (Nod.mk v_kd v_na 0 v_nk v_ns v_np 0 0 0 [] [] 0 0 0 0 0 0 0 0).za,i8 (Nod.mk v_kd v_na 0 v_nk v_ns v_np 0 0 0 [] [] 0 0 0 0 0 0 0 0).zb,AV.sl 1 [],AV.sl 1 [],i32 (Nod.mk v_kd v_na 0 v_nk v_ns v_np 0 0 0 [] [] 0 0 0 0 0 0 0 0).qm,i64 (Nod.mk v_kd v_na 0 v_nk v_ns v_np 0 0 0 [] [] 0 0 0 0 0 0 0 0).qs,i8 (Nod.mk v_kd v_na 0 v_nk v_ns v_np 0 0 0 [] [] 0 0 0 0 0 0 0 0).qz,i32 (Nod.mk v_kd v_na 0 v_nk v_ns v_np 0 0 0 [] [] 0 0 0 0 0 0 0 0).rm,i64 (Nod.mk v_kd v_na 0 v_nk v_ns v_np 0 0 0 [] [] 0 0 0 0 0 0 0 0).rs,i8 (Nod.mk v_kd v_na 0 v_nk v_ns v_np 0 0 0 [] [] 0 0 0 0 0 0 0 0).rz,i8 (Nod.mk v_kd v_na 0 v_nk v_ns v_np 0 0 0 [] [] 0 0 0 0 0 0 0 0).lo,i8 (Nod.mk v_kd v_na 0 v_nk v_ns v_np 0 0 0 [] [] 0 0 0 0 0 0 0 0).hi]] from (.cons (Weak.agg (.cons (.refl _) (.cons (.refl _) (.cons (.refl _) (.cons (.refl _) (.cons (.refl _) (.cons (.refl _) (.cons (.refl _) (.cons (.refl _) (.cons (.refl _) (.cons (Weak.nil _) (.cons (Weak.nil _) (.cons (.refl _) (.cons (.refl _) (.cons (.refl _) (.cons (.refl _) (.cons (.refl _) (.cons (.refl _) (.cons (.refl _) (.cons (.refl _) .nil)))))))))))))))))))) .nil))<|.c oz44<|.c (show (checkE (Nod.mk v_kd v_na 0 v_nk v_ns v_np 0 0 0 [] [] 0 0 0 0 0 0 0 0) != 0)=false by (simp;omega))<|.c (show Weak (AV.tup [AV.agg [i64 v_kd,i64 v_na,i64 0,i64 v_nk,i64 v_ns,i64 v_np,i64 0,i8 0,i8 0,nilv,nilv,i32 0,i64 0,i8 0,i32 0,i64 0,i8 0,i8 0,i8 0],i64 0]) (AV.tup [AV.agg [i64 v_kd,i64 v_na,i64 0,i64 v_nk,i64 v_ns,i64 v_np,i64 0,i8 0,i8 0,AV.sl 1 [],AV.sl 1 [],i32 0,i64 0,i8 0,i32 0,i64 0,i8 0,i8 0,i8 0],i64 0]) from (Weak.tup (.cons (Weak.agg (.cons (.refl _) (.cons (.refl _) (.cons (.refl _) (.cons (.refl _) (.cons (.refl _) (.cons (.refl _) (.cons (.refl _) (.cons (.refl _) (.cons (.refl _) (.cons (Weak.nil _) (.cons (Weak.nil _) (.cons (.refl _) (.cons (.refl _) (.cons (.refl _) (.cons (.refl _) (.cons (.refl _) (.cons (.refl _) (.cons (.refl _) (.cons (.refl _) .nil)))))))))))))))))))) (.cons (.refl _) .nil))))<|.n)
theorem rw_6b (xs:List Int) (r r1 r2 r3 r4 r5 r6 r7 r8 r9 r10 r11 r12:Rrf) (v_kd v_na v_nb v_za v_zb v_qm v_qs v_qz v_rm v_rs v_lo v_hi:Int) (g1:hCx xs r 9 v_kd r1) (g2:hCx xs r1 1024 v_na r2) (g3:hCx xs r2 1024 v_nb r3) (g4:hOx xs r3 v_za r4) (g5:hOx xs r4 v_zb r5) (g6:hCx xs r5 2147483647 v_qm r6) (g7:hCx xs r6 62 v_qs r7) (g8:hOx xs r7 v_qz r8) (g9:hCx xs r8 2147483647 v_rm r9) (g10:hCx xs r9 62 v_rs r10) (g11:hOx xs r10 v_lo r11) (g12:hOx xs r11 v_hi r12) (hk:v_kd=6) (h9:In64 v_kd) (h_qm:0≤v_qm∧v_qm≤2147483647) (h_rm:0≤v_rm∧v_rm≤2147483647) (hbad:r12.2≠0):VM Try.prog 41 ([.ptr 100000 0 0]) ([(100000,.var (rrC xs r))]) (.tup [.agg [i64 0,i64 0,i64 0,i64 0,i64 0,i64 0,i64 0,i8 0,i8 0,.sl 1 [],.sl 1 [],i32 0,i64 0,i8 0,i32 0,i64 0,i8 0,i8 0,i8 0],i64 r12.2]) ([(100000,.var (rrC xs r12))]):=by
 have oz0 := @g1
 have oz1 := @g2
 have oz2 := @tells_6 (v_kd) hk
 have oz3:=z2_
 have oz4:=z3_
 have oz5:=z38_
 have oz6:=z1_
 have oz7 := @g3
 have oz8:=z5_
 have oz9:=z6_
 have oz10:=z39_
 have oz11:=z0_
 have oz22:=z40_
 have oz26:=z41_
 have oz28 := @g4
 have oz33 := @g5
 have oz36:=z42_
 have oz40:=z43_
 have oz42 := @g6
 have oz44 := @g7
 have oz45 := @g8
 have oz50 := @g9
 have oz52 := @g10
 have oz53 := @g11
 have oz54 := @g12
 exact VM.run (fn:=Try.f41) (W:=[.r [] [],.r [] [cm oz0,cm oz1],.r [] [.callr (rO oz2)],.r [] [.row (sO oz5)],.br true,.r [] [cm oz7],.r [] [.row (sO oz10)],.br false,.r [] [.row (sO oz10),.br true,.br true,.br true,.br false],.br false,.r [] [.row (sO oz10)],.br false,.r [] [.row (sO oz26)],.br true,.r [] [cm oz28],.r [] [.row (sO oz5)],.br true,.r [] [cm oz33],.r [] [.row (sO oz36)],.br false,.r [] [.row (sO oz40)],.br true,.r [] [cm oz42,.n v_qm,cm oz44,cm oz45],.r [] [.row (sO oz5)],.br true,.r [] [cm oz50,.n v_rm,cm oz52],.r [] [cm oz53],.r [] [cm oz54],.r [] [],.br true,.r [] []]) (G:=[.drop [2,4,5],.weak 0 (AV.tup [AV.agg [i64 0,i64 0,i64 0,i64 0,i64 0,i64 0,i64 0,i8 0,i8 0,AV.sl 1 [],AV.sl 1 [],i32 0,i64 0,i8 0,i32 0,i64 0,i8 0,i8 0,i8 0],i64 r12.snd]),.sort]) Try.func41 (by kernel_rfl) (.c oz0<|.c oz1<|.c oz2<|.c oz3<|.c oz4<|.c oz5<|.c oz6<|.c oz7<|.c oz8<|.c oz9<|.c oz10<|.c oz11<|.c oz8<|.c oz9<|.c oz10<|.c oz11<|.c oz11<|.c oz11<|.c oz11<|.c (show (v_kd==8)=false by (refine decide_eq_false ?_;omega))<|.c z12_<|.c z13_<|.c oz22<|.c oz11<|.c z14_<|.c z15_<|.c oz26<|.c oz6<|.c oz28<|.c oz3<|.c oz4<|.c oz5<|.c oz6<|.c oz33<|.c z16_<|.c z17_<|.c oz36<|.c oz11<|.c z18_<|.c z19_<|.c oz40<|.c oz6<|.c oz42<|.c (IntWalk.i32_in v_qm (by omega))<|.c oz44<|.c oz45<|.c oz3<|.c oz4<|.c oz5<|.c oz6<|.c oz50<|.c (IntWalk.i32_in v_rm (by omega))<|.c oz52<|.c oz53<|.c oz54<|.c (show (r12.snd != 0)=true by (simp;omega))<|.c (show Weak (AV.tup [AV.agg [i64 0,i64 0,i64 0,i64 0,i64 0,i64 0,i64 0,i8 0,i8 0,nilv,nilv,i32 0,i64 0,i8 0,i32 0,i64 0,i8 0,i8 0,i8 0],i64 r12.snd]) (AV.tup [AV.agg [i64 0,i64 0,i64 0,i64 0,i64 0,i64 0,i64 0,i8 0,i8 0,AV.sl 1 [],AV.sl 1 [],i32 0,i64 0,i8 0,i32 0,i64 0,i8 0,i8 0,i8 0],i64 r12.snd]) from (Weak.tup (.cons (Weak.agg (.cons (.refl _) (.cons (.refl _) (.cons (.refl _) (.cons (.refl _) (.cons (.refl _) (.cons (.refl _) (.cons (.refl _) (.cons (.refl _) (.cons (.refl _) (.cons (Weak.nil _) (.cons (Weak.nil _) (.cons (.refl _) (.cons (.refl _) (.cons (.refl _) (.cons (.refl _) (.cons (.refl _) (.cons (.refl _) (.cons (.refl _) (.cons (.refl _) .nil)))))))))))))))))))) (.cons (.refl _) .nil))))<|.n)
theorem rw_6c (xs:List Int) (r r1 r2 r3 r4 r5 r6 r7 r8 r9 r10 r11 r12:Rrf) (v_kd v_na v_nb v_za v_zb v_qm v_qs v_qz v_rm v_rs v_lo v_hi:Int) (g1:hCx xs r 9 v_kd r1) (g2:hCx xs r1 1024 v_na r2) (g3:hCx xs r2 1024 v_nb r3) (g4:hOx xs r3 v_za r4) (g5:hOx xs r4 v_zb r5) (g6:hCx xs r5 2147483647 v_qm r6) (g7:hCx xs r6 62 v_qs r7) (g8:hOx xs r7 v_qz r8) (g9:hCx xs r8 2147483647 v_rm r9) (g10:hCx xs r9 62 v_rs r10) (g11:hOx xs r10 v_lo r11) (g12:hOx xs r11 v_hi r12) (hk:v_kd=6) (h9:In64 v_kd) (h_qm:0≤v_qm∧v_qm≤2147483647) (h_rm:0≤v_rm∧v_rm≤2147483647) (hbad:r12.2=0)  (hc:checkE (⟨v_kd,v_na,v_nb,0,0,0,0,v_za,v_zb,[],[],v_qm,v_qs,v_qz,v_rm,v_rs,0,v_lo,v_hi⟩:Nod)≠0):VM Try.prog 41 ([.ptr 100000 0 0]) ([(100000,.var (rrC xs r))]) (.tup [.agg [i64 0,i64 0,i64 0,i64 0,i64 0,i64 0,i64 0,i8 0,i8 0,.sl 1 [],.sl 1 [],i32 0,i64 0,i8 0,i32 0,i64 0,i8 0,i8 0,i8 0],i64 (checkE (⟨v_kd,v_na,v_nb,0,0,0,0,v_za,v_zb,[],[],v_qm,v_qs,v_qz,v_rm,v_rs,0,v_lo,v_hi⟩:Nod))]) ([(100000,.var (rrC xs r12))]):=by
 have oz0 := @g1
 have oz1 := @g2
 have oz2 := @tells_6 (v_kd) hk
 have oz3:=z2_
 have oz4:=z3_
 have oz5:=z38_
 have oz6:=z1_
 have oz7 := @g3
 have oz8:=z5_
 have oz9:=z6_
 have oz10:=z39_
 have oz11:=z0_
 have oz22:=z40_
 have oz26:=z41_
 have oz28 := @g4
 have oz33 := @g5
 have oz36:=z42_
 have oz40:=z43_
 have oz42 := @g6
 have oz44 := @g7
 have oz45 := @g8
 have oz50 := @g9
 have oz52 := @g10
 have oz53 := @g11
 have oz54 := @g12
 have oz57 := @refCheck_v (Nod.mk v_kd v_na v_nb 0 0 0 0 v_za v_zb [] [] v_qm v_qs v_qz v_rm v_rs 0 v_lo v_hi) (by (simp;done)) (by (simp;done)) h9
 exact VM.run (fn:=Try.f41) (W:=[.r [] [],.r [] [cm oz0,cm oz1],.r [] [.callr (rO oz2)],.r [] [.row (sO oz5)],.br true,.r [] [cm oz7],.r [] [.row (sO oz10)],.br false,.r [] [.row (sO oz10),.br true,.br true,.br true,.br false],.br false,.r [] [.row (sO oz10)],.br false,.r [] [.row (sO oz26)],.br true,.r [] [cm oz28],.r [] [.row (sO oz5)],.br true,.r [] [cm oz33],.r [] [.row (sO oz36)],.br false,.r [] [.row (sO oz40)],.br true,.r [] [cm oz42,.n v_qm,cm oz44,cm oz45],.r [] [.row (sO oz5)],.br true,.r [] [cm oz50,.n v_rm,cm oz52],.r [] [cm oz53],.r [] [cm oz54],.r [] [],.br false,.r [] [.call (aO oz57) (rO oz57)],.r [] [],.br true,.r [] []]) (G:=[.drop [2,4,5],.weak 0 (AV.tup [AV.agg [i64 0,i64 0,i64 0,i64 0,i64 0,i64 0,i64 0,i8 0,i8 0,AV.sl 1 [],AV.sl 1 [],i32 0,i64 0,i8 0,i32 0,i64 0,i8 0,i8 0,i8 0],i64 (checkE (Nod.mk v_kd v_na v_nb 0 0 0 0 v_za v_zb [] [] v_qm v_qs v_qz v_rm v_rs 0 v_lo v_hi))]),.sort]) Try.func41 (by kernel_rfl) (.c oz0<|.c oz1<|.c oz2<|.c oz3<|.c oz4<|.c oz5<|.c oz6<|.c oz7<|.c oz8<|.c oz9<|.c oz10<|.c oz11<|.c oz8<|.c oz9<|.c oz10<|.c oz11<|.c oz11<|.c oz11<|.c oz11<|.c (show (v_kd==8)=false by (refine decide_eq_false ?_;omega))<|.c z12_<|.c z13_<|.c oz22<|.c oz11<|.c z14_<|.c z15_<|.c oz26<|.c oz6<|.c oz28<|.c oz3<|.c oz4<|.c oz5<|.c oz6<|.c oz33<|.c z16_<|.c z17_<|.c oz36<|.c oz11<|.c z18_<|.c z19_<|.c oz40<|.c oz6<|.c oz42<|.c (IntWalk.i32_in v_qm (by omega))<|.c oz44<|.c oz45<|.c oz3<|.c oz4<|.c oz5<|.c oz6<|.c oz50<|.c (IntWalk.i32_in v_rm (by omega))<|.c oz52<|.c oz53<|.c oz54<|.c (show (r12.snd != 0)=false by (simp;omega))<|.c (show WeakL [AV.agg [i64 v_kd,i64 v_na,i64 v_nb,i64 0,i64 0,i64 0,i64 0,i8 v_za,i8 v_zb,nilv,nilv,i32 v_qm,i64 v_qs,i8 v_qz,i32 v_rm,i64 v_rs,i8 0,i8 v_lo,i8 v_hi]] [AV.agg [i64 (Nod.mk v_kd v_na v_nb 0 0 0 0 v_za v_zb [] [] v_qm v_qs v_qz v_rm v_rs 0 v_lo v_hi).kd,i64 (Nod.mk v_kd v_na v_nb 0 0 0 0 v_za v_zb [] [] v_qm v_qs v_qz v_rm v_rs 0 v_lo v_hi).na,i64 (Nod.mk v_kd v_na v_nb 0 0 0 0 v_za v_zb [] [] v_qm v_qs v_qz v_rm v_rs 0 v_lo v_hi).nb,i64 (Nod.mk v_kd v_na v_nb 0 0 0 0 v_za v_zb [] [] v_qm v_qs v_qz v_rm v_rs 0 v_lo v_hi).nk,i64 (Nod.mk v_kd v_na v_nb 0 0 0 0 v_za v_zb [] [] v_qm v_qs v_qz v_rm v_rs 0 v_lo v_hi).ns,i64 (Nod.mk v_kd v_na v_nb 0 0 0 0 v_za v_zb [] [] v_qm v_qs v_qz v_rm v_rs 0 v_lo v_hi).np,i64 (Nod.mk v_kd v_na v_nb 0 0 0 0 v_za v_zb [] [] v_qm v_qs v_qz v_rm v_rs 0 v_lo v_hi).no,i8 (Nod.mk v_kd v_na v_nb 0 0 0 0 v_za v_zb [] [] v_qm v_qs v_qz v_rm v_rs 0 v_lo v_hi).za,i8 (Nod.mk v_kd v_na v_nb 0 0 0 0 v_za v_zb [] [] v_qm v_qs v_qz v_rm v_rs 0 v_lo v_hi).zb,AV.sl 1 [],AV.sl 1 [],i32 (Nod.mk v_kd v_na v_nb 0 0 0 0 v_za v_zb [] [] v_qm v_qs v_qz v_rm v_rs 0 v_lo v_hi).qm,i64 (Nod.mk v_kd v_na v_nb 0 0 0 0 v_za v_zb [] [] v_qm v_qs v_qz v_rm v_rs 0 v_lo v_hi).qs,i8 (Nod.mk v_kd v_na v_nb 0 0 0 0 v_za v_zb [] [] v_qm v_qs v_qz v_rm v_rs 0 v_lo v_hi).qz,i32 (Nod.mk v_kd v_na v_nb 0 0 0 0 v_za v_zb [] [] v_qm v_qs v_qz v_rm v_rs 0 v_lo v_hi).rm,i64 (Nod.mk v_kd v_na v_nb 0 0 0 0 v_za v_zb [] [] v_qm v_qs v_qz v_rm v_rs 0 v_lo v_hi).rs,i8 (Nod.mk v_kd v_na v_nb 0 0 0 0 v_za v_zb [] [] v_qm v_qs v_qz v_rm v_rs 0 v_lo v_hi).rz,i8 (Nod.mk v_kd v_na v_nb 0 0 0 0 v_za v_zb [] [] v_qm v_qs v_qz v_rm v_rs 0 v_lo v_hi).lo,i8 (Nod.mk v_kd v_na v_nb 0 0 0 0 v_za v_zb [] [] v_qm v_qs v_qz v_rm v_rs 0 v_lo v_hi).hi]] from (.cons (Weak.agg (.cons (.refl _) (.cons (.refl _) (.cons (.refl _) (.cons (.refl _) (.cons (.refl _) (.cons (.refl _) (.cons (.refl _) (.cons (.refl _) (.cons (.refl _) (.cons (Weak.nil _) (.cons (Weak.nil _) (.cons (.refl _) (.cons (.refl _) (.cons (.refl _) (.cons (.refl _) (.cons (.refl _) (.cons (.refl _) (.cons (.refl _) (.cons (.refl _) .nil)))))))))))))))))))) .nil))<|.c oz57<|.c (show (checkE (Nod.mk v_kd v_na v_nb 0 0 0 0 v_za v_zb [] [] v_qm v_qs v_qz v_rm v_rs 0 v_lo v_hi) != 0)=true by (simp;omega))<|.c (show Weak (AV.tup [AV.agg [i64 0,i64 0,i64 0,i64 0,i64 0,i64 0,i64 0,i8 0,i8 0,nilv,nilv,i32 0,i64 0,i8 0,i32 0,i64 0,i8 0,i8 0,i8 0],i64 (checkE (Nod.mk v_kd v_na v_nb 0 0 0 0 v_za v_zb [] [] v_qm v_qs v_qz v_rm v_rs 0 v_lo v_hi))]) (AV.tup [AV.agg [i64 0,i64 0,i64 0,i64 0,i64 0,i64 0,i64 0,i8 0,i8 0,AV.sl 1 [],AV.sl 1 [],i32 0,i64 0,i8 0,i32 0,i64 0,i8 0,i8 0,i8 0],i64 (checkE (Nod.mk v_kd v_na v_nb 0 0 0 0 v_za v_zb [] [] v_qm v_qs v_qz v_rm v_rs 0 v_lo v_hi))]) from (Weak.tup (.cons (Weak.agg (.cons (.refl _) (.cons (.refl _) (.cons (.refl _) (.cons (.refl _) (.cons (.refl _) (.cons (.refl _) (.cons (.refl _) (.cons (.refl _) (.cons (.refl _) (.cons (Weak.nil _) (.cons (Weak.nil _) (.cons (.refl _) (.cons (.refl _) (.cons (.refl _) (.cons (.refl _) (.cons (.refl _) (.cons (.refl _) (.cons (.refl _) (.cons (.refl _) .nil)))))))))))))))))))) (.cons (.refl _) .nil))))<|.n)
theorem rw_6y (xs:List Int) (r r1 r2 r3 r4 r5 r6 r7 r8 r9 r10 r11 r12:Rrf) (v_kd v_na v_nb v_za v_zb v_qm v_qs v_qz v_rm v_rs v_lo v_hi:Int) (g1:hCx xs r 9 v_kd r1) (g2:hCx xs r1 1024 v_na r2) (g3:hCx xs r2 1024 v_nb r3) (g4:hOx xs r3 v_za r4) (g5:hOx xs r4 v_zb r5) (g6:hCx xs r5 2147483647 v_qm r6) (g7:hCx xs r6 62 v_qs r7) (g8:hOx xs r7 v_qz r8) (g9:hCx xs r8 2147483647 v_rm r9) (g10:hCx xs r9 62 v_rs r10) (g11:hOx xs r10 v_lo r11) (g12:hOx xs r11 v_hi r12) (hk:v_kd=6) (h9:In64 v_kd) (h_qm:0≤v_qm∧v_qm≤2147483647) (h_rm:0≤v_rm∧v_rm≤2147483647) (hbad:r12.2=0)  (hc:checkE (⟨v_kd,v_na,v_nb,0,0,0,0,v_za,v_zb,[],[],v_qm,v_qs,v_qz,v_rm,v_rs,0,v_lo,v_hi⟩:Nod)=0):VM Try.prog 41 ([.ptr 100000 0 0]) ([(100000,.var (rrC xs r))]) (.tup [nod (⟨v_kd,v_na,v_nb,0,0,0,0,v_za,v_zb,[],[],v_qm,v_qs,v_qz,v_rm,v_rs,0,v_lo,v_hi⟩:Nod),i64 0]) ([(100000,.var (rrC xs r12))]):=by
 have oz0 := @g1
 have oz1 := @g2
 have oz2 := @tells_6 (v_kd) hk
 have oz3:=z2_
 have oz4:=z3_
 have oz5:=z38_
 have oz6:=z1_
 have oz7 := @g3
 have oz8:=z5_
 have oz9:=z6_
 have oz10:=z39_
 have oz11:=z0_
 have oz22:=z40_
 have oz26:=z41_
 have oz28 := @g4
 have oz33 := @g5
 have oz36:=z42_
 have oz40:=z43_
 have oz42 := @g6
 have oz44 := @g7
 have oz45 := @g8
 have oz50 := @g9
 have oz52 := @g10
 have oz53 := @g11
 have oz54 := @g12
 have oz57 := @refCheck_v (Nod.mk v_kd v_na v_nb 0 0 0 0 v_za v_zb [] [] v_qm v_qs v_qz v_rm v_rs 0 v_lo v_hi) (by (simp;done)) (by (simp;done)) h9
 exact VM.run (fn:=Try.f41) (W:=[.r [] [],.r [] [cm oz0,cm oz1],.r [] [.callr (rO oz2)],.r [] [.row (sO oz5)],.br true,.r [] [cm oz7],.r [] [.row (sO oz10)],.br false,.r [] [.row (sO oz10),.br true,.br true,.br true,.br false],.br false,.r [] [.row (sO oz10)],.br false,.r [] [.row (sO oz26)],.br true,.r [] [cm oz28],.r [] [.row (sO oz5)],.br true,.r [] [cm oz33],.r [] [.row (sO oz36)],.br false,.r [] [.row (sO oz40)],.br true,.r [] [cm oz42,.n v_qm,cm oz44,cm oz45],.r [] [.row (sO oz5)],.br true,.r [] [cm oz50,.n v_rm,cm oz52],.r [] [cm oz53],.r [] [cm oz54],.r [] [],.br false,.r [] [.call (aO oz57) (rO oz57)],.r [] [],.br false,.r [] []]) (G:=[.drop [2,4,5],.weak 0 (AV.tup [AV.agg [i64 v_kd,i64 v_na,i64 v_nb,i64 0,i64 0,i64 0,i64 0,i8 v_za,i8 v_zb,AV.sl 1 [],AV.sl 1 [],i32 v_qm,i64 v_qs,i8 v_qz,i32 v_rm,i64 v_rs,i8 0,i8 v_lo,i8 v_hi],i64 0]),.sort]) Try.func41 (by kernel_rfl) (.c oz0<|.c oz1<|.c oz2<|.c oz3<|.c oz4<|.c oz5<|.c oz6<|.c oz7<|.c oz8<|.c oz9<|.c oz10<|.c oz11<|.c oz8<|.c oz9<|.c oz10<|.c oz11<|.c oz11<|.c oz11<|.c oz11<|.c (show (v_kd==8)=false by (refine decide_eq_false ?_;omega))<|.c z12_<|.c z13_<|.c oz22<|.c oz11<|.c z14_<|.c z15_<|.c oz26<|.c oz6<|.c oz28<|.c oz3<|.c oz4<|.c oz5<|.c oz6<|.c oz33<|.c z16_<|.c z17_<|.c oz36<|.c oz11<|.c z18_<|.c z19_<|.c oz40<|.c oz6<|.c oz42<|.c (IntWalk.i32_in v_qm (by omega))<|.c oz44<|.c oz45<|.c oz3<|.c oz4<|.c oz5<|.c oz6<|.c oz50<|.c (IntWalk.i32_in v_rm (by omega))<|.c oz52<|.c oz53<|.c oz54<|.c (show (r12.snd != 0)=false by (simp;omega))<|.c (show WeakL [AV.agg [i64 v_kd,i64 v_na,i64 v_nb,i64 0,i64 0,i64 0,i64 0,i8 v_za,i8 v_zb,nilv,nilv,i32 v_qm,i64 v_qs,i8 v_qz,i32 v_rm,i64 v_rs,i8 0,i8 v_lo,i8 v_hi]] [AV.agg [i64 (Nod.mk v_kd v_na v_nb 0 0 0 0 v_za v_zb [] [] v_qm v_qs v_qz v_rm v_rs 0 v_lo v_hi).kd,i64 (Nod.mk v_kd v_na v_nb 0 0 0 0 v_za v_zb [] [] v_qm v_qs v_qz v_rm v_rs 0 v_lo v_hi).na,i64 (Nod.mk v_kd v_na v_nb 0 0 0 0 v_za v_zb [] [] v_qm v_qs v_qz v_rm v_rs 0 v_lo v_hi).nb,i64 (Nod.mk v_kd v_na v_nb 0 0 0 0 v_za v_zb [] [] v_qm v_qs v_qz v_rm v_rs 0 v_lo v_hi).nk,i64 (Nod.mk v_kd v_na v_nb 0 0 0 0 v_za v_zb [] [] v_qm v_qs v_qz v_rm v_rs 0 v_lo v_hi).ns,i64 (Nod.mk v_kd v_na v_nb 0 0 0 0 v_za v_zb [] [] v_qm v_qs v_qz v_rm v_rs 0 v_lo v_hi).np,i64 (Nod.mk v_kd v_na v_nb 0 0 0 0 v_za v_zb [] [] v_qm v_qs v_qz v_rm v_rs 0 v_lo v_hi).no,i8 (Nod.mk v_kd v_na v_nb 0 0 0 0 v_za v_zb [] [] v_qm v_qs v_qz v_rm v_rs 0 v_lo v_hi).za,i8 (Nod.mk v_kd v_na v_nb 0 0 0 0 v_za v_zb [] [] v_qm v_qs v_qz v_rm v_rs 0 v_lo v_hi).zb,AV.sl 1 [],AV.sl 1 [],i32 (Nod.mk v_kd v_na v_nb 0 0 0 0 v_za v_zb [] [] v_qm v_qs v_qz v_rm v_rs 0 v_lo v_hi).qm,i64 (Nod.mk v_kd v_na v_nb 0 0 0 0 v_za v_zb [] [] v_qm v_qs v_qz v_rm v_rs 0 v_lo v_hi).qs,i8 (Nod.mk v_kd v_na v_nb 0 0 0 0 v_za v_zb [] [] v_qm v_qs v_qz v_rm v_rs 0 v_lo v_hi).qz,i32 (Nod.mk v_kd v_na v_nb 0 0 0 0 v_za v_zb [] [] v_qm v_qs v_qz v_rm v_rs 0 v_lo v_hi).rm,i64 (Nod.mk v_kd v_na v_nb 0 0 0 0 v_za v_zb [] [] v_qm v_qs v_qz v_rm v_rs 0 v_lo v_hi).rs,i8 (Nod.mk v_kd v_na v_nb 0 0 0 0 v_za v_zb [] [] v_qm v_qs v_qz v_rm v_rs 0 v_lo v_hi).rz,i8 (Nod.mk v_kd v_na v_nb 0 0 0 0 v_za v_zb [] [] v_qm v_qs v_qz v_rm v_rs 0 v_lo v_hi).lo,i8 (Nod.mk v_kd v_na v_nb 0 0 0 0 v_za v_zb [] [] v_qm v_qs v_qz v_rm v_rs 0 v_lo v_hi).hi]] from (.cons (Weak.agg (.cons (.refl _) (.cons (.refl _) (.cons (.refl _) (.cons (.refl _) (.cons (.refl _) (.cons (.refl _) (.cons (.refl _) (.cons (.refl _) (.cons (.refl _) (.cons (Weak.nil _) (.cons (Weak.nil _) (.cons (.refl _) (.cons (.refl _) (.cons (.refl _) (.cons (.refl _) (.cons (.refl _) (.cons (.refl _) (.cons (.refl _) (.cons (.refl _) .nil)))))))))))))))))))) .nil))<|.c oz57<|.c (show (checkE (Nod.mk v_kd v_na v_nb 0 0 0 0 v_za v_zb [] [] v_qm v_qs v_qz v_rm v_rs 0 v_lo v_hi) != 0)=false by (simp;omega))<|.c (show Weak (AV.tup [AV.agg [i64 v_kd,i64 v_na,i64 v_nb,i64 0,i64 0,i64 0,i64 0,i8 v_za,i8 v_zb,nilv,nilv,i32 v_qm,i64 v_qs,i8 v_qz,i32 v_rm,i64 v_rs,i8 0,i8 v_lo,i8 v_hi],i64 0]) (AV.tup [AV.agg [i64 v_kd,i64 v_na,i64 v_nb,i64 0,i64 0,i64 0,i64 0,i8 v_za,i8 v_zb,AV.sl 1 [],AV.sl 1 [],i32 v_qm,i64 v_qs,i8 v_qz,i32 v_rm,i64 v_rs,i8 0,i8 v_lo,i8 v_hi],i64 0]) from (Weak.tup (.cons (Weak.agg (.cons (.refl _) (.cons (.refl _) (.cons (.refl _) (.cons (.refl _) (.cons (.refl _) (.cons (.refl _) (.cons (.refl _) (.cons (.refl _) (.cons (.refl _) (.cons (Weak.nil _) (.cons (Weak.nil _) (.cons (.refl _) (.cons (.refl _) (.cons (.refl _) (.cons (.refl _) (.cons (.refl _) (.cons (.refl _) (.cons (.refl _) (.cons (.refl _) .nil)))))))))))))))))))) (.cons (.refl _) .nil))))<|.n)
theorem rw_7b (xs:List Int) (r r1 r2 r3 r4 r5 r6 r7 r8:Rrf) (v_kd v_na v_za v_qm v_qs v_qz v_lo v_hi:Int) (g1:hCx xs r 9 v_kd r1) (g2:hCx xs r1 1024 v_na r2) (g3:hOx xs r2 v_za r3) (g4:hCx xs r3 2147483647 v_qm r4) (g5:hCx xs r4 62 v_qs r5) (g6:hOx xs r5 v_qz r6) (g7:hOx xs r6 v_lo r7) (g8:hOx xs r7 v_hi r8) (hk:v_kd=7) (h9:In64 v_kd) (h_qm:0≤v_qm∧v_qm≤2147483647) (hbad:r8.2≠0):VM Try.prog 41 ([.ptr 100000 0 0]) ([(100000,.var (rrC xs r))]) (.tup [.agg [i64 0,i64 0,i64 0,i64 0,i64 0,i64 0,i64 0,i8 0,i8 0,.sl 1 [],.sl 1 [],i32 0,i64 0,i8 0,i32 0,i64 0,i8 0,i8 0,i8 0],i64 r8.2]) ([(100000,.var (rrC xs r8))]):=by
 have oz0 := @g1
 have oz1 := @g2
 have oz2 := @tells_7 (v_kd) hk
 have oz3:=z2_
 have oz4:=z3_
 have oz5:=z44_
 have oz6:=z0_
 have oz7:=z5_
 have oz8:=z6_
 have oz9:=z45_
 have oz21:=z46_
 have oz25:=z47_
 have oz26:=z1_
 have oz27 := @g3
 have oz34:=z48_
 have oz38:=z49_
 have oz40 := @g4
 have oz42 := @g5
 have oz43 := @g6
 have oz48 := @g7
 have oz49 := @g8
 exact VM.run (fn:=Try.f41) (W:=[.r [] [],.r [] [cm oz0,cm oz1],.r [] [.callr (rO oz2)],.r [] [.row (sO oz5)],.br false,.r [] [.row (sO oz5)],.br false,.r [] [.row (sO oz5),.br true,.br true,.br true,.br false],.br false,.r [] [.row (sO oz5)],.br false,.r [] [.row (sO oz25)],.br true,.r [] [cm oz27],.r [] [.row (sO oz5)],.br false,.r [] [.row (sO oz5)],.br false,.r [] [.row (sO oz38)],.br true,.r [] [cm oz40,.n v_qm,cm oz42,cm oz43],.r [] [.row (sO oz5)],.br false,.r [] [cm oz48],.r [] [cm oz49],.r [] [],.br true,.r [] []]) (G:=[.drop [2,4,5],.weak 0 (AV.tup [AV.agg [i64 0,i64 0,i64 0,i64 0,i64 0,i64 0,i64 0,i8 0,i8 0,AV.sl 1 [],AV.sl 1 [],i32 0,i64 0,i8 0,i32 0,i64 0,i8 0,i8 0,i8 0],i64 r8.snd]),.sort]) Try.func41 (by kernel_rfl) (.c oz0<|.c oz1<|.c oz2<|.c oz3<|.c oz4<|.c oz5<|.c oz6<|.c oz7<|.c oz8<|.c oz9<|.c oz6<|.c oz7<|.c oz8<|.c oz9<|.c oz6<|.c oz6<|.c oz6<|.c oz6<|.c (show (v_kd==8)=false by (refine decide_eq_false ?_;omega))<|.c z12_<|.c z13_<|.c oz21<|.c oz6<|.c z14_<|.c z15_<|.c oz25<|.c oz26<|.c oz27<|.c oz3<|.c oz4<|.c oz5<|.c oz6<|.c z16_<|.c z17_<|.c oz34<|.c oz6<|.c z18_<|.c z19_<|.c oz38<|.c oz26<|.c oz40<|.c (IntWalk.i32_in v_qm (by omega))<|.c oz42<|.c oz43<|.c oz3<|.c oz4<|.c oz5<|.c oz6<|.c oz48<|.c oz49<|.c (show (r8.snd != 0)=true by (simp;omega))<|.c (show Weak (AV.tup [AV.agg [i64 0,i64 0,i64 0,i64 0,i64 0,i64 0,i64 0,i8 0,i8 0,nilv,nilv,i32 0,i64 0,i8 0,i32 0,i64 0,i8 0,i8 0,i8 0],i64 r8.snd]) (AV.tup [AV.agg [i64 0,i64 0,i64 0,i64 0,i64 0,i64 0,i64 0,i8 0,i8 0,AV.sl 1 [],AV.sl 1 [],i32 0,i64 0,i8 0,i32 0,i64 0,i8 0,i8 0,i8 0],i64 r8.snd]) from (Weak.tup (.cons (Weak.agg (.cons (.refl _) (.cons (.refl _) (.cons (.refl _) (.cons (.refl _) (.cons (.refl _) (.cons (.refl _) (.cons (.refl _) (.cons (.refl _) (.cons (.refl _) (.cons (Weak.nil _) (.cons (Weak.nil _) (.cons (.refl _) (.cons (.refl _) (.cons (.refl _) (.cons (.refl _) (.cons (.refl _) (.cons (.refl _) (.cons (.refl _) (.cons (.refl _) .nil)))))))))))))))))))) (.cons (.refl _) .nil))))<|.n)
theorem rw_7c (xs:List Int) (r r1 r2 r3 r4 r5 r6 r7 r8:Rrf) (v_kd v_na v_za v_qm v_qs v_qz v_lo v_hi:Int) (g1:hCx xs r 9 v_kd r1) (g2:hCx xs r1 1024 v_na r2) (g3:hOx xs r2 v_za r3) (g4:hCx xs r3 2147483647 v_qm r4) (g5:hCx xs r4 62 v_qs r5) (g6:hOx xs r5 v_qz r6) (g7:hOx xs r6 v_lo r7) (g8:hOx xs r7 v_hi r8) (hk:v_kd=7) (h9:In64 v_kd) (h_qm:0≤v_qm∧v_qm≤2147483647) (hbad:r8.2=0)  (hc:checkE (⟨v_kd,v_na,0,0,0,0,0,v_za,0,[],[],v_qm,v_qs,v_qz,0,0,0,v_lo,v_hi⟩:Nod)≠0):VM Try.prog 41 ([.ptr 100000 0 0]) ([(100000,.var (rrC xs r))]) (.tup [.agg [i64 0,i64 0,i64 0,i64 0,i64 0,i64 0,i64 0,i8 0,i8 0,.sl 1 [],.sl 1 [],i32 0,i64 0,i8 0,i32 0,i64 0,i8 0,i8 0,i8 0],i64 (checkE (⟨v_kd,v_na,0,0,0,0,0,v_za,0,[],[],v_qm,v_qs,v_qz,0,0,0,v_lo,v_hi⟩:Nod))]) ([(100000,.var (rrC xs r8))]):=by
 have oz0 := @g1
 have oz1 := @g2
 have oz2 := @tells_7 (v_kd) hk
 have oz3:=z2_
 have oz4:=z3_
 have oz5:=z44_
 have oz6:=z0_
 have oz7:=z5_
 have oz8:=z6_
 have oz9:=z45_
 have oz21:=z46_
 have oz25:=z47_
 have oz26:=z1_
 have oz27 := @g3
 have oz34:=z48_
 have oz38:=z49_
 have oz40 := @g4
 have oz42 := @g5
 have oz43 := @g6
 have oz48 := @g7
 have oz49 := @g8
 have oz52 := @refCheck_v (Nod.mk v_kd v_na 0 0 0 0 0 v_za 0 [] [] v_qm v_qs v_qz 0 0 0 v_lo v_hi) (by (simp;done)) (by (simp;done)) h9
 exact VM.run (fn:=Try.f41) (W:=[.r [] [],.r [] [cm oz0,cm oz1],.r [] [.callr (rO oz2)],.r [] [.row (sO oz5)],.br false,.r [] [.row (sO oz5)],.br false,.r [] [.row (sO oz5),.br true,.br true,.br true,.br false],.br false,.r [] [.row (sO oz5)],.br false,.r [] [.row (sO oz25)],.br true,.r [] [cm oz27],.r [] [.row (sO oz5)],.br false,.r [] [.row (sO oz5)],.br false,.r [] [.row (sO oz38)],.br true,.r [] [cm oz40,.n v_qm,cm oz42,cm oz43],.r [] [.row (sO oz5)],.br false,.r [] [cm oz48],.r [] [cm oz49],.r [] [],.br false,.r [] [.call (aO oz52) (rO oz52)],.r [] [],.br true,.r [] []]) (G:=[.drop [2,4,5],.weak 0 (AV.tup [AV.agg [i64 0,i64 0,i64 0,i64 0,i64 0,i64 0,i64 0,i8 0,i8 0,AV.sl 1 [],AV.sl 1 [],i32 0,i64 0,i8 0,i32 0,i64 0,i8 0,i8 0,i8 0],i64 (checkE (Nod.mk v_kd v_na 0 0 0 0 0 v_za 0 [] [] v_qm v_qs v_qz 0 0 0 v_lo v_hi))]),.sort]) Try.func41 (by kernel_rfl) (.c oz0<|.c oz1<|.c oz2<|.c oz3<|.c oz4<|.c oz5<|.c oz6<|.c oz7<|.c oz8<|.c oz9<|.c oz6<|.c oz7<|.c oz8<|.c oz9<|.c oz6<|.c oz6<|.c oz6<|.c oz6<|.c (show (v_kd==8)=false by (refine decide_eq_false ?_;omega))<|.c z12_<|.c z13_<|.c oz21<|.c oz6<|.c z14_<|.c z15_<|.c oz25<|.c oz26<|.c oz27<|.c oz3<|.c oz4<|.c oz5<|.c oz6<|.c z16_<|.c z17_<|.c oz34<|.c oz6<|.c z18_<|.c z19_<|.c oz38<|.c oz26<|.c oz40<|.c (IntWalk.i32_in v_qm (by omega))<|.c oz42<|.c oz43<|.c oz3<|.c oz4<|.c oz5<|.c oz6<|.c oz48<|.c oz49<|.c (show (r8.snd != 0)=false by (simp;omega))<|.c (show WeakL [AV.agg [i64 v_kd,i64 v_na,i64 0,i64 0,i64 0,i64 0,i64 0,i8 v_za,i8 0,nilv,nilv,i32 v_qm,i64 v_qs,i8 v_qz,i32 0,i64 0,i8 0,i8 v_lo,i8 v_hi]] [AV.agg [i64 (Nod.mk v_kd v_na 0 0 0 0 0 v_za 0 [] [] v_qm v_qs v_qz 0 0 0 v_lo v_hi).kd,i64 (Nod.mk v_kd v_na 0 0 0 0 0 v_za 0 [] [] v_qm v_qs v_qz 0 0 0 v_lo v_hi).na,i64 (Nod.mk v_kd v_na 0 0 0 0 0 v_za 0 [] [] v_qm v_qs v_qz 0 0 0 v_lo v_hi).nb,i64 (Nod.mk v_kd v_na 0 0 0 0 0 v_za 0 [] [] v_qm v_qs v_qz 0 0 0 v_lo v_hi).nk,i64 (Nod.mk v_kd v_na 0 0 0 0 0 v_za 0 [] [] v_qm v_qs v_qz 0 0 0 v_lo v_hi).ns,i64 (Nod.mk v_kd v_na 0 0 0 0 0 v_za 0 [] [] v_qm v_qs v_qz 0 0 0 v_lo v_hi).np,i64 (Nod.mk v_kd v_na 0 0 0 0 0 v_za 0 [] [] v_qm v_qs v_qz 0 0 0 v_lo v_hi).no,i8 (Nod.mk v_kd v_na 0 0 0 0 0 v_za 0 [] [] v_qm v_qs v_qz 0 0 0 v_lo v_hi).za,i8 (Nod.mk v_kd v_na 0 0 0 0 0 v_za 0 [] [] v_qm v_qs v_qz 0 0 0 v_lo v_hi).zb,AV.sl 1 [],AV.sl 1 [],i32 (Nod.mk v_kd v_na 0 0 0 0 0 v_za 0 [] [] v_qm v_qs v_qz 0 0 0 v_lo v_hi).qm,i64 (Nod.mk v_kd v_na 0 0 0 0 0 v_za 0 [] [] v_qm v_qs v_qz 0 0 0 v_lo v_hi).qs,i8 (Nod.mk v_kd v_na 0 0 0 0 0 v_za 0 [] [] v_qm v_qs v_qz 0 0 0 v_lo v_hi).qz,i32 (Nod.mk v_kd v_na 0 0 0 0 0 v_za 0 [] [] v_qm v_qs v_qz 0 0 0 v_lo v_hi).rm,i64 (Nod.mk v_kd v_na 0 0 0 0 0 v_za 0 [] [] v_qm v_qs v_qz 0 0 0 v_lo v_hi).rs,i8 (Nod.mk v_kd v_na 0 0 0 0 0 v_za 0 [] [] v_qm v_qs v_qz 0 0 0 v_lo v_hi).rz,i8 (Nod.mk v_kd v_na 0 0 0 0 0 v_za 0 [] [] v_qm v_qs v_qz 0 0 0 v_lo v_hi).lo,i8 (Nod.mk v_kd v_na 0 0 0 0 0 v_za 0 [] [] v_qm v_qs v_qz 0 0 0 v_lo v_hi).hi]] from (.cons (Weak.agg (.cons (.refl _) (.cons (.refl _) (.cons (.refl _) (.cons (.refl _) (.cons (.refl _) (.cons (.refl _) (.cons (.refl _) (.cons (.refl _) (.cons (.refl _) (.cons (Weak.nil _) (.cons (Weak.nil _) (.cons (.refl _) (.cons (.refl _) (.cons (.refl _) (.cons (.refl _) (.cons (.refl _) (.cons (.refl _) (.cons (.refl _) (.cons (.refl _) .nil)))))))))))))))))))) .nil))<|.c oz52<|.c (show (checkE (Nod.mk v_kd v_na 0 0 0 0 0 v_za 0 [] [] v_qm v_qs v_qz 0 0 0 v_lo v_hi) != 0)=true by (simp;omega))<|.c (show Weak (AV.tup [AV.agg [i64 0,i64 0,i64 0,i64 0,i64 0,i64 0,i64 0,i8 0,i8 0,nilv,nilv,i32 0,i64 0,i8 0,i32 0,i64 0,i8 0,i8 0,i8 0],i64 (checkE (Nod.mk v_kd v_na 0 0 0 0 0 v_za 0 [] [] v_qm v_qs v_qz 0 0 0 v_lo v_hi))]) (AV.tup [AV.agg [i64 0,i64 0,i64 0,i64 0,i64 0,i64 0,i64 0,i8 0,i8 0,AV.sl 1 [],AV.sl 1 [],i32 0,i64 0,i8 0,i32 0,i64 0,i8 0,i8 0,i8 0],i64 (checkE (Nod.mk v_kd v_na 0 0 0 0 0 v_za 0 [] [] v_qm v_qs v_qz 0 0 0 v_lo v_hi))]) from (Weak.tup (.cons (Weak.agg (.cons (.refl _) (.cons (.refl _) (.cons (.refl _) (.cons (.refl _) (.cons (.refl _) (.cons (.refl _) (.cons (.refl _) (.cons (.refl _) (.cons (.refl _) (.cons (Weak.nil _) (.cons (Weak.nil _) (.cons (.refl _) (.cons (.refl _) (.cons (.refl _) (.cons (.refl _) (.cons (.refl _) (.cons (.refl _) (.cons (.refl _) (.cons (.refl _) .nil)))))))))))))))))))) (.cons (.refl _) .nil))))<|.n)
theorem rw_7y (xs:List Int) (r r1 r2 r3 r4 r5 r6 r7 r8:Rrf) (v_kd v_na v_za v_qm v_qs v_qz v_lo v_hi:Int) (g1:hCx xs r 9 v_kd r1) (g2:hCx xs r1 1024 v_na r2) (g3:hOx xs r2 v_za r3) (g4:hCx xs r3 2147483647 v_qm r4) (g5:hCx xs r4 62 v_qs r5) (g6:hOx xs r5 v_qz r6) (g7:hOx xs r6 v_lo r7) (g8:hOx xs r7 v_hi r8) (hk:v_kd=7) (h9:In64 v_kd) (h_qm:0≤v_qm∧v_qm≤2147483647) (hbad:r8.2=0)  (hc:checkE (⟨v_kd,v_na,0,0,0,0,0,v_za,0,[],[],v_qm,v_qs,v_qz,0,0,0,v_lo,v_hi⟩:Nod)=0):VM Try.prog 41 ([.ptr 100000 0 0]) ([(100000,.var (rrC xs r))]) (.tup [nod (⟨v_kd,v_na,0,0,0,0,0,v_za,0,[],[],v_qm,v_qs,v_qz,0,0,0,v_lo,v_hi⟩:Nod),i64 0]) ([(100000,.var (rrC xs r8))]):=by
 have oz0 := @g1
 have oz1 := @g2
 have oz2 := @tells_7 (v_kd) hk
 have oz3:=z2_
 have oz4:=z3_
 have oz5:=z44_
 have oz6:=z0_
 have oz7:=z5_
 have oz8:=z6_
 have oz9:=z45_
 have oz21:=z46_
 have oz25:=z47_
 have oz26:=z1_
 have oz27 := @g3
 have oz34:=z48_
 have oz38:=z49_
 have oz40 := @g4
 have oz42 := @g5
 have oz43 := @g6
 have oz48 := @g7
 have oz49 := @g8
 have oz52 := @refCheck_v (Nod.mk v_kd v_na 0 0 0 0 0 v_za 0 [] [] v_qm v_qs v_qz 0 0 0 v_lo v_hi) (by (simp;done)) (by (simp;done)) h9
 exact VM.run (fn:=Try.f41) (W:=[.r [] [],.r [] [cm oz0,cm oz1],.r [] [.callr (rO oz2)],.r [] [.row (sO oz5)],.br false,.r [] [.row (sO oz5)],.br false,.r [] [.row (sO oz5),.br true,.br true,.br true,.br false],.br false,.r [] [.row (sO oz5)],.br false,.r [] [.row (sO oz25)],.br true,.r [] [cm oz27],.r [] [.row (sO oz5)],.br false,.r [] [.row (sO oz5)],.br false,.r [] [.row (sO oz38)],.br true,.r [] [cm oz40,.n v_qm,cm oz42,cm oz43],.r [] [.row (sO oz5)],.br false,.r [] [cm oz48],.r [] [cm oz49],.r [] [],.br false,.r [] [.call (aO oz52) (rO oz52)],.r [] [],.br false,.r [] []]) (G:=[.drop [2,4,5],.weak 0 (AV.tup [AV.agg [i64 v_kd,i64 v_na,i64 0,i64 0,i64 0,i64 0,i64 0,i8 v_za,i8 0,AV.sl 1 [],AV.sl 1 [],i32 v_qm,i64 v_qs,i8 v_qz,i32 0,i64 0,i8 0,i8 v_lo,i8 v_hi],i64 0]),.sort]) Try.func41 (by kernel_rfl) (.c oz0<|.c oz1<|.c oz2<|.c oz3<|.c oz4<|.c oz5<|.c oz6<|.c oz7<|.c oz8<|.c oz9<|.c oz6<|.c oz7<|.c oz8<|.c oz9<|.c oz6<|.c oz6<|.c oz6<|.c oz6<|.c (show (v_kd==8)=false by (refine decide_eq_false ?_;omega))<|.c z12_<|.c z13_<|.c oz21<|.c oz6<|.c z14_<|.c z15_<|.c oz25<|.c oz26<|.c oz27<|.c oz3<|.c oz4<|.c oz5<|.c oz6<|.c z16_<|.c z17_<|.c oz34<|.c oz6<|.c z18_<|.c z19_<|.c oz38<|.c oz26<|.c oz40<|.c (IntWalk.i32_in v_qm (by omega))<|.c oz42<|.c oz43<|.c oz3<|.c oz4<|.c oz5<|.c oz6<|.c oz48<|.c oz49<|.c (show (r8.snd != 0)=false by (simp;omega))<|.c (show WeakL [AV.agg [i64 v_kd,i64 v_na,i64 0,i64 0,i64 0,i64 0,i64 0,i8 v_za,i8 0,nilv,nilv,i32 v_qm,i64 v_qs,i8 v_qz,i32 0,i64 0,i8 0,i8 v_lo,i8 v_hi]] [AV.agg [i64 (Nod.mk v_kd v_na 0 0 0 0 0 v_za 0 [] [] v_qm v_qs v_qz 0 0 0 v_lo v_hi).kd,i64 (Nod.mk v_kd v_na 0 0 0 0 0 v_za 0 [] [] v_qm v_qs v_qz 0 0 0 v_lo v_hi).na,i64 (Nod.mk v_kd v_na 0 0 0 0 0 v_za 0 [] [] v_qm v_qs v_qz 0 0 0 v_lo v_hi).nb,i64 (Nod.mk v_kd v_na 0 0 0 0 0 v_za 0 [] [] v_qm v_qs v_qz 0 0 0 v_lo v_hi).nk,i64 (Nod.mk v_kd v_na 0 0 0 0 0 v_za 0 [] [] v_qm v_qs v_qz 0 0 0 v_lo v_hi).ns,i64 (Nod.mk v_kd v_na 0 0 0 0 0 v_za 0 [] [] v_qm v_qs v_qz 0 0 0 v_lo v_hi).np,i64 (Nod.mk v_kd v_na 0 0 0 0 0 v_za 0 [] [] v_qm v_qs v_qz 0 0 0 v_lo v_hi).no,i8 (Nod.mk v_kd v_na 0 0 0 0 0 v_za 0 [] [] v_qm v_qs v_qz 0 0 0 v_lo v_hi).za,i8 (Nod.mk v_kd v_na 0 0 0 0 0 v_za 0 [] [] v_qm v_qs v_qz 0 0 0 v_lo v_hi).zb,AV.sl 1 [],AV.sl 1 [],i32 (Nod.mk v_kd v_na 0 0 0 0 0 v_za 0 [] [] v_qm v_qs v_qz 0 0 0 v_lo v_hi).qm,i64 (Nod.mk v_kd v_na 0 0 0 0 0 v_za 0 [] [] v_qm v_qs v_qz 0 0 0 v_lo v_hi).qs,i8 (Nod.mk v_kd v_na 0 0 0 0 0 v_za 0 [] [] v_qm v_qs v_qz 0 0 0 v_lo v_hi).qz,i32 (Nod.mk v_kd v_na 0 0 0 0 0 v_za 0 [] [] v_qm v_qs v_qz 0 0 0 v_lo v_hi).rm,i64 (Nod.mk v_kd v_na 0 0 0 0 0 v_za 0 [] [] v_qm v_qs v_qz 0 0 0 v_lo v_hi).rs,i8 (Nod.mk v_kd v_na 0 0 0 0 0 v_za 0 [] [] v_qm v_qs v_qz 0 0 0 v_lo v_hi).rz,i8 (Nod.mk v_kd v_na 0 0 0 0 0 v_za 0 [] [] v_qm v_qs v_qz 0 0 0 v_lo v_hi).lo,i8 (Nod.mk v_kd v_na 0 0 0 0 0 v_za 0 [] [] v_qm v_qs v_qz 0 0 0 v_lo v_hi).hi]] from (.cons (Weak.agg (.cons (.refl _) (.cons (.refl _) (.cons (.refl _) (.cons (.refl _) (.cons (.refl _) (.cons (.refl _) (.cons (.refl _) (.cons (.refl _) (.cons (.refl _) (.cons (Weak.nil _) (.cons (Weak.nil _) (.cons (.refl _) (.cons (.refl _) (.cons (.refl _) (.cons (.refl _) (.cons (.refl _) (.cons (.refl _) (.cons (.refl _) (.cons (.refl _) .nil)))))))))))))))))))) .nil))<|.c oz52<|.c (show (checkE (Nod.mk v_kd v_na 0 0 0 0 0 v_za 0 [] [] v_qm v_qs v_qz 0 0 0 v_lo v_hi) != 0)=false by (simp;omega))<|.c (show Weak (AV.tup [AV.agg [i64 v_kd,i64 v_na,i64 0,i64 0,i64 0,i64 0,i64 0,i8 v_za,i8 0,nilv,nilv,i32 v_qm,i64 v_qs,i8 v_qz,i32 0,i64 0,i8 0,i8 v_lo,i8 v_hi],i64 0]) (AV.tup [AV.agg [i64 v_kd,i64 v_na,i64 0,i64 0,i64 0,i64 0,i64 0,i8 v_za,i8 0,AV.sl 1 [],AV.sl 1 [],i32 v_qm,i64 v_qs,i8 v_qz,i32 0,i64 0,i8 0,i8 v_lo,i8 v_hi],i64 0]) from (Weak.tup (.cons (Weak.agg (.cons (.refl _) (.cons (.refl _) (.cons (.refl _) (.cons (.refl _) (.cons (.refl _) (.cons (.refl _) (.cons (.refl _) (.cons (.refl _) (.cons (.refl _) (.cons (Weak.nil _) (.cons (Weak.nil _) (.cons (.refl _) (.cons (.refl _) (.cons (.refl _) (.cons (.refl _) (.cons (.refl _) (.cons (.refl _) (.cons (.refl _) (.cons (.refl _) .nil)))))))))))))))))))) (.cons (.refl _) .nil))))<|.n)
theorem rw_8b (xs:List Int) (r r1 r2 r3 r4:Rrf) (v_kd v_na v_np v_za:Int) (g1:hCx xs r 9 v_kd r1) (g2:hCx xs r1 1024 v_na r2) (g3:hCx xs r2 1024 v_np r3) (g4:hOx xs r3 v_za r4) (hk:v_kd=8) (h9:In64 v_kd)  (hbad:r4.2≠0):VM Try.prog 41 ([.ptr 100000 0 0]) ([(100000,.var (rrC xs r))]) (.tup [.agg [i64 0,i64 0,i64 0,i64 0,i64 0,i64 0,i64 0,i8 0,i8 0,.sl 1 [],.sl 1 [],i32 0,i64 0,i8 0,i32 0,i64 0,i8 0,i8 0,i8 0],i64 r4.2]) ([(100000,.var (rrC xs r4))]):=by
 have oz0 := @g1
 have oz1 := @g2
 have oz2 := @tells_8 (v_kd) hk
 have oz3:=z2_
 have oz4:=z3_
 have oz5:=z50_
 have oz6:=z0_
 have oz7:=z5_
 have oz8:=z6_
 have oz9:=z51_
 have oz19 := @g3
 have oz22:=z52_
 have oz26:=z53_
 have oz28 := @g4
 have oz35:=z54_
 have oz39:=z55_
 exact VM.run (fn:=Try.f41) (W:=[.r [] [],.r [] [cm oz0,cm oz1],.r [] [.callr (rO oz2)],.r [] [.row (sO oz5)],.br false,.r [] [.row (sO oz5)],.br false,.r [] [.row (sO oz5),.br true,.br true,.br true,.br false],.br true,.r [] [cm oz19],.r [] [.row (sO oz22)],.br false,.r [] [.row (sO oz26)],.br true,.r [] [cm oz28],.r [] [.row (sO oz5)],.br false,.r [] [.row (sO oz5)],.br false,.r [] [.row (sO oz5)],.br false,.r [] [],.br true,.r [] []]) (G:=[.drop [2,4,5],.weak 0 (AV.tup [AV.agg [i64 0,i64 0,i64 0,i64 0,i64 0,i64 0,i64 0,i8 0,i8 0,AV.sl 1 [],AV.sl 1 [],i32 0,i64 0,i8 0,i32 0,i64 0,i8 0,i8 0,i8 0],i64 r4.snd]),.sort]) Try.func41 (by kernel_rfl) (.c oz0<|.c oz1<|.c oz2<|.c oz3<|.c oz4<|.c oz5<|.c oz6<|.c oz7<|.c oz8<|.c oz9<|.c oz6<|.c oz7<|.c oz8<|.c oz9<|.c oz6<|.c oz6<|.c oz6<|.c oz6<|.c (show (v_kd==8)=true by (refine decide_eq_true ?_;omega))<|.c oz19<|.c z12_<|.c z13_<|.c oz22<|.c oz6<|.c z14_<|.c z15_<|.c oz26<|.c z1_<|.c oz28<|.c oz3<|.c oz4<|.c oz5<|.c oz6<|.c z16_<|.c z17_<|.c oz35<|.c oz6<|.c z18_<|.c z19_<|.c oz39<|.c oz6<|.c (show (r4.snd != 0)=true by (simp;omega))<|.c (show Weak (AV.tup [AV.agg [i64 0,i64 0,i64 0,i64 0,i64 0,i64 0,i64 0,i8 0,i8 0,nilv,nilv,i32 0,i64 0,i8 0,i32 0,i64 0,i8 0,i8 0,i8 0],i64 r4.snd]) (AV.tup [AV.agg [i64 0,i64 0,i64 0,i64 0,i64 0,i64 0,i64 0,i8 0,i8 0,AV.sl 1 [],AV.sl 1 [],i32 0,i64 0,i8 0,i32 0,i64 0,i8 0,i8 0,i8 0],i64 r4.snd]) from (Weak.tup (.cons (Weak.agg (.cons (.refl _) (.cons (.refl _) (.cons (.refl _) (.cons (.refl _) (.cons (.refl _) (.cons (.refl _) (.cons (.refl _) (.cons (.refl _) (.cons (.refl _) (.cons (Weak.nil _) (.cons (Weak.nil _) (.cons (.refl _) (.cons (.refl _) (.cons (.refl _) (.cons (.refl _) (.cons (.refl _) (.cons (.refl _) (.cons (.refl _) (.cons (.refl _) .nil)))))))))))))))))))) (.cons (.refl _) .nil))))<|.n)
theorem rw_8c (xs:List Int) (r r1 r2 r3 r4:Rrf) (v_kd v_na v_np v_za:Int) (g1:hCx xs r 9 v_kd r1) (g2:hCx xs r1 1024 v_na r2) (g3:hCx xs r2 1024 v_np r3) (g4:hOx xs r3 v_za r4) (hk:v_kd=8) (h9:In64 v_kd)  (hbad:r4.2=0)  (hc:checkE (⟨v_kd,v_na,0,0,0,v_np,0,v_za,0,[],[],0,0,0,0,0,0,0,0⟩:Nod)≠0):VM Try.prog 41 ([.ptr 100000 0 0]) ([(100000,.var (rrC xs r))]) (.tup [.agg [i64 0,i64 0,i64 0,i64 0,i64 0,i64 0,i64 0,i8 0,i8 0,.sl 1 [],.sl 1 [],i32 0,i64 0,i8 0,i32 0,i64 0,i8 0,i8 0,i8 0],i64 (checkE (⟨v_kd,v_na,0,0,0,v_np,0,v_za,0,[],[],0,0,0,0,0,0,0,0⟩:Nod))]) ([(100000,.var (rrC xs r4))]):=by
 have oz0 := @g1
 have oz1 := @g2
 have oz2 := @tells_8 (v_kd) hk
 have oz3:=z2_
 have oz4:=z3_
 have oz5:=z50_
 have oz6:=z0_
 have oz7:=z5_
 have oz8:=z6_
 have oz9:=z51_
 have oz19 := @g3
 have oz22:=z52_
 have oz26:=z53_
 have oz28 := @g4
 have oz35:=z54_
 have oz39:=z55_
 have oz43 := @refCheck_v (Nod.mk v_kd v_na 0 0 0 v_np 0 v_za 0 [] [] 0 0 0 0 0 0 0 0) (by (simp;done)) (by (simp;done)) h9
 exact VM.run (fn:=Try.f41) (W:=[.r [] [],.r [] [cm oz0,cm oz1],.r [] [.callr (rO oz2)],.r [] [.row (sO oz5)],.br false,.r [] [.row (sO oz5)],.br false,.r [] [.row (sO oz5),.br true,.br true,.br true,.br false],.br true,.r [] [cm oz19],.r [] [.row (sO oz22)],.br false,.r [] [.row (sO oz26)],.br true,.r [] [cm oz28],.r [] [.row (sO oz5)],.br false,.r [] [.row (sO oz5)],.br false,.r [] [.row (sO oz5)],.br false,.r [] [],.br false,.r [] [.call (aO oz43) (rO oz43)],.r [] [],.br true,.r [] []]) (G:=[.drop [2,4,5],.weak 0 (AV.tup [AV.agg [i64 0,i64 0,i64 0,i64 0,i64 0,i64 0,i64 0,i8 0,i8 0,AV.sl 1 [],AV.sl 1 [],i32 0,i64 0,i8 0,i32 0,i64 0,i8 0,i8 0,i8 0],i64 (checkE (Nod.mk v_kd v_na 0 0 0 v_np 0 v_za 0 [] [] 0 0 0 0 0 0 0 0))]),.sort]) Try.func41 (by kernel_rfl) (.c oz0<|.c oz1<|.c oz2<|.c oz3<|.c oz4<|.c oz5<|.c oz6<|.c oz7<|.c oz8<|.c oz9<|.c oz6<|.c oz7<|.c oz8<|.c oz9<|.c oz6<|.c oz6<|.c oz6<|.c oz6<|.c (show (v_kd==8)=true by (refine decide_eq_true ?_;omega))<|.c oz19<|.c z12_<|.c z13_<|.c oz22<|.c oz6<|.c z14_<|.c z15_<|.c oz26<|.c z1_<|.c oz28<|.c oz3<|.c oz4<|.c oz5<|.c oz6<|.c z16_<|.c z17_<|.c oz35<|.c oz6<|.c z18_<|.c z19_<|.c oz39<|.c oz6<|.c (show (r4.snd != 0)=false by (simp;omega))<|.c (show WeakL [AV.agg [i64 v_kd,i64 v_na,i64 0,i64 0,i64 0,i64 v_np,i64 0,i8 v_za,i8 0,nilv,nilv,i32 0,i64 0,i8 0,i32 0,i64 0,i8 0,i8 0,i8 0]] [AV.agg [i64 (Nod.mk v_kd v_na 0 0 0 v_np 0 v_za 0 [] [] 0 0 0 0 0 0 0 0).kd,i64 (Nod.mk v_kd v_na 0 0 0 v_np 0 v_za 0 [] [] 0 0 0 0 0 0 0 0).na,i64 (Nod.mk v_kd v_na 0 0 0 v_np 0 v_za 0 [] [] 0 0 0 0 0 0 0 0).nb,i64 (Nod.mk v_kd v_na 0 0 0 v_np 0 v_za 0 [] [] 0 0 0 0 0 0 0 0).nk,i64 (Nod.mk v_kd v_na 0 0 0 v_np 0 v_za 0 [] [] 0 0 0 0 0 0 0 0).ns,i64 (Nod.mk v_kd v_na 0 0 0 v_np 0 v_za 0 [] [] 0 0 0 0 0 0 0 0).np,i64 (Nod.mk v_kd v_na 0 0 0 v_np 0 v_za 0 [] [] 0 0 0 0 0 0 0 0).no,i8 (Nod.mk v_kd v_na 0 0 0 v_np 0 v_za 0 [] [] 0 0 0 0 0 0 0 0).za,i8 (Nod.mk v_kd v_na 0 0 0 v_np 0 v_za 0 [] [] 0 0 0 0 0 0 0 0).zb,AV.sl 1 [],AV.sl 1 [],i32 (Nod.mk v_kd v_na 0 0 0 v_np 0 v_za 0 [] [] 0 0 0 0 0 0 0 0).qm,i64 (Nod.mk v_kd v_na 0 0 0 v_np 0 v_za 0 [] [] 0 0 0 0 0 0 0 0).qs,i8 (Nod.mk v_kd v_na 0 0 0 v_np 0 v_za 0 [] [] 0 0 0 0 0 0 0 0).qz,i32 (Nod.mk v_kd v_na 0 0 0 v_np 0 v_za 0 [] [] 0 0 0 0 0 0 0 0).rm,i64 (Nod.mk v_kd v_na 0 0 0 v_np 0 v_za 0 [] [] 0 0 0 0 0 0 0 0).rs,i8 (Nod.mk v_kd v_na 0 0 0 v_np 0 v_za 0 [] [] 0 0 0 0 0 0 0 0).rz,i8 (Nod.mk v_kd v_na 0 0 0 v_np 0 v_za 0 [] [] 0 0 0 0 0 0 0 0).lo,i8 (Nod.mk v_kd v_na 0 0 0 v_np 0 v_za 0 [] [] 0 0 0 0 0 0 0 0).hi]] from (.cons (Weak.agg (.cons (.refl _) (.cons (.refl _) (.cons (.refl _) (.cons (.refl _) (.cons (.refl _) (.cons (.refl _) (.cons (.refl _) (.cons (.refl _) (.cons (.refl _) (.cons (Weak.nil _) (.cons (Weak.nil _) (.cons (.refl _) (.cons (.refl _) (.cons (.refl _) (.cons (.refl _) (.cons (.refl _) (.cons (.refl _) (.cons (.refl _) (.cons (.refl _) .nil)))))))))))))))))))) .nil))<|.c oz43<|.c (show (checkE (Nod.mk v_kd v_na 0 0 0 v_np 0 v_za 0 [] [] 0 0 0 0 0 0 0 0) != 0)=true by (simp;omega))<|.c (show Weak (AV.tup [AV.agg [i64 0,i64 0,i64 0,i64 0,i64 0,i64 0,i64 0,i8 0,i8 0,nilv,nilv,i32 0,i64 0,i8 0,i32 0,i64 0,i8 0,i8 0,i8 0],i64 (checkE (Nod.mk v_kd v_na 0 0 0 v_np 0 v_za 0 [] [] 0 0 0 0 0 0 0 0))]) (AV.tup [AV.agg [i64 0,i64 0,i64 0,i64 0,i64 0,i64 0,i64 0,i8 0,i8 0,AV.sl 1 [],AV.sl 1 [],i32 0,i64 0,i8 0,i32 0,i64 0,i8 0,i8 0,i8 0],i64 (checkE (Nod.mk v_kd v_na 0 0 0 v_np 0 v_za 0 [] [] 0 0 0 0 0 0 0 0))]) from (Weak.tup (.cons (Weak.agg (.cons (.refl _) (.cons (.refl _) (.cons (.refl _) (.cons (.refl _) (.cons (.refl _) (.cons (.refl _) (.cons (.refl _) (.cons (.refl _) (.cons (.refl _) (.cons (Weak.nil _) (.cons (Weak.nil _) (.cons (.refl _) (.cons (.refl _) (.cons (.refl _) (.cons (.refl _) (.cons (.refl _) (.cons (.refl _) (.cons (.refl _) (.cons (.refl _) .nil)))))))))))))))))))) (.cons (.refl _) .nil))))<|.n)
theorem rw_8y (xs:List Int) (r r1 r2 r3 r4:Rrf) (v_kd v_na v_np v_za:Int) (g1:hCx xs r 9 v_kd r1) (g2:hCx xs r1 1024 v_na r2) (g3:hCx xs r2 1024 v_np r3) (g4:hOx xs r3 v_za r4) (hk:v_kd=8) (h9:In64 v_kd)  (hbad:r4.2=0)  (hc:checkE (⟨v_kd,v_na,0,0,0,v_np,0,v_za,0,[],[],0,0,0,0,0,0,0,0⟩:Nod)=0):VM Try.prog 41 ([.ptr 100000 0 0]) ([(100000,.var (rrC xs r))]) (.tup [nod (⟨v_kd,v_na,0,0,0,v_np,0,v_za,0,[],[],0,0,0,0,0,0,0,0⟩:Nod),i64 0]) ([(100000,.var (rrC xs r4))]):=by
 have oz0 := @g1
 have oz1 := @g2
 have oz2 := @tells_8 (v_kd) hk
 have oz3:=z2_
 have oz4:=z3_
 have oz5:=z50_
 have oz6:=z0_
 have oz7:=z5_
 have oz8:=z6_
 have oz9:=z51_
 have oz19 := @g3
 have oz22:=z52_
 have oz26:=z53_
 have oz28 := @g4
 have oz35:=z54_
 have oz39:=z55_
 have oz43 := @refCheck_v (Nod.mk v_kd v_na 0 0 0 v_np 0 v_za 0 [] [] 0 0 0 0 0 0 0 0) (by (simp;done)) (by (simp;done)) h9
 exact VM.run (fn:=Try.f41) (W:=[.r [] [],.r [] [cm oz0,cm oz1],.r [] [.callr (rO oz2)],.r [] [.row (sO oz5)],.br false,.r [] [.row (sO oz5)],.br false,.r [] [.row (sO oz5),.br true,.br true,.br true,.br false],.br true,.r [] [cm oz19],.r [] [.row (sO oz22)],.br false,.r [] [.row (sO oz26)],.br true,.r [] [cm oz28],.r [] [.row (sO oz5)],.br false,.r [] [.row (sO oz5)],.br false,.r [] [.row (sO oz5)],.br false,.r [] [],.br false,.r [] [.call (aO oz43) (rO oz43)],.r [] [],.br false,.r [] []]) (G:=[.drop [2,4,5],.weak 0 (AV.tup [AV.agg [i64 v_kd,i64 v_na,i64 0,i64 0,i64 0,i64 v_np,i64 0,i8 v_za,i8 0,AV.sl 1 [],AV.sl 1 [],i32 0,i64 0,i8 0,i32 0,i64 0,i8 0,i8 0,i8 0],i64 0]),.sort]) Try.func41 (by kernel_rfl) (.c oz0<|.c oz1<|.c oz2<|.c oz3<|.c oz4<|.c oz5<|.c oz6<|.c oz7<|.c oz8<|.c oz9<|.c oz6<|.c oz7<|.c oz8<|.c oz9<|.c oz6<|.c oz6<|.c oz6<|.c oz6<|.c (show (v_kd==8)=true by (refine decide_eq_true ?_;omega))<|.c oz19<|.c z12_<|.c z13_<|.c oz22<|.c oz6<|.c z14_<|.c z15_<|.c oz26<|.c z1_<|.c oz28<|.c oz3<|.c oz4<|.c oz5<|.c oz6<|.c z16_<|.c z17_<|.c oz35<|.c oz6<|.c z18_<|.c z19_<|.c oz39<|.c oz6<|.c (show (r4.snd != 0)=false by (simp;omega))<|.c (show WeakL [AV.agg [i64 v_kd,i64 v_na,i64 0,i64 0,i64 0,i64 v_np,i64 0,i8 v_za,i8 0,nilv,nilv,i32 0,i64 0,i8 0,i32 0,i64 0,i8 0,i8 0,i8 0]] [AV.agg [i64 (Nod.mk v_kd v_na 0 0 0 v_np 0 v_za 0 [] [] 0 0 0 0 0 0 0 0).kd,i64 (Nod.mk v_kd v_na 0 0 0 v_np 0 v_za 0 [] [] 0 0 0 0 0 0 0 0).na,i64 (Nod.mk v_kd v_na 0 0 0 v_np 0 v_za 0 [] [] 0 0 0 0 0 0 0 0).nb,i64 (Nod.mk v_kd v_na 0 0 0 v_np 0 v_za 0 [] [] 0 0 0 0 0 0 0 0).nk,i64 (Nod.mk v_kd v_na 0 0 0 v_np 0 v_za 0 [] [] 0 0 0 0 0 0 0 0).ns,i64 (Nod.mk v_kd v_na 0 0 0 v_np 0 v_za 0 [] [] 0 0 0 0 0 0 0 0).np,i64 (Nod.mk v_kd v_na 0 0 0 v_np 0 v_za 0 [] [] 0 0 0 0 0 0 0 0).no,i8 (Nod.mk v_kd v_na 0 0 0 v_np 0 v_za 0 [] [] 0 0 0 0 0 0 0 0).za,i8 (Nod.mk v_kd v_na 0 0 0 v_np 0 v_za 0 [] [] 0 0 0 0 0 0 0 0).zb,AV.sl 1 [],AV.sl 1 [],i32 (Nod.mk v_kd v_na 0 0 0 v_np 0 v_za 0 [] [] 0 0 0 0 0 0 0 0).qm,i64 (Nod.mk v_kd v_na 0 0 0 v_np 0 v_za 0 [] [] 0 0 0 0 0 0 0 0).qs,i8 (Nod.mk v_kd v_na 0 0 0 v_np 0 v_za 0 [] [] 0 0 0 0 0 0 0 0).qz,i32 (Nod.mk v_kd v_na 0 0 0 v_np 0 v_za 0 [] [] 0 0 0 0 0 0 0 0).rm,i64 (Nod.mk v_kd v_na 0 0 0 v_np 0 v_za 0 [] [] 0 0 0 0 0 0 0 0).rs,i8 (Nod.mk v_kd v_na 0 0 0 v_np 0 v_za 0 [] [] 0 0 0 0 0 0 0 0).rz,i8 (Nod.mk v_kd v_na 0 0 0 v_np 0 v_za 0 [] [] 0 0 0 0 0 0 0 0).lo,i8 (Nod.mk v_kd v_na 0 0 0 v_np 0 v_za 0 [] [] 0 0 0 0 0 0 0 0).hi]] from (.cons (Weak.agg (.cons (.refl _) (.cons (.refl _) (.cons (.refl _) (.cons (.refl _) (.cons (.refl _) (.cons (.refl _) (.cons (.refl _) (.cons (.refl _) (.cons (.refl _) (.cons (Weak.nil _) (.cons (Weak.nil _) (.cons (.refl _) (.cons (.refl _) (.cons (.refl _) (.cons (.refl _) (.cons (.refl _) (.cons (.refl _) (.cons (.refl _) (.cons (.refl _) .nil)))))))))))))))))))) .nil))<|.c oz43<|.c (show (checkE (Nod.mk v_kd v_na 0 0 0 v_np 0 v_za 0 [] [] 0 0 0 0 0 0 0 0) != 0)=false by (simp;omega))<|.c (show Weak (AV.tup [AV.agg [i64 v_kd,i64 v_na,i64 0,i64 0,i64 0,i64 v_np,i64 0,i8 v_za,i8 0,nilv,nilv,i32 0,i64 0,i8 0,i32 0,i64 0,i8 0,i8 0,i8 0],i64 0]) (AV.tup [AV.agg [i64 v_kd,i64 v_na,i64 0,i64 0,i64 0,i64 v_np,i64 0,i8 v_za,i8 0,AV.sl 1 [],AV.sl 1 [],i32 0,i64 0,i8 0,i32 0,i64 0,i8 0,i8 0,i8 0],i64 0]) from (Weak.tup (.cons (Weak.agg (.cons (.refl _) (.cons (.refl _) (.cons (.refl _) (.cons (.refl _) (.cons (.refl _) (.cons (.refl _) (.cons (.refl _) (.cons (.refl _) (.cons (.refl _) (.cons (Weak.nil _) (.cons (Weak.nil _) (.cons (.refl _) (.cons (.refl _) (.cons (.refl _) (.cons (.refl _) (.cons (.refl _) (.cons (.refl _) (.cons (.refl _) (.cons (.refl _) .nil)))))))))))))))))))) (.cons (.refl _) .nil))))<|.n)
theorem rw_9b (xs:List Int) (r r1 r2:Rrf) (v_kd v_na:Int) (g1:hCx xs r 9 v_kd r1) (g2:hCx xs r1 1024 v_na r2) (hk:v_kd<1∨8<v_kd) (h9:In64 v_kd)  (hbad:r2.2≠0):VM Try.prog 41 ([.ptr 100000 0 0]) ([(100000,.var (rrC xs r))]) (.tup [.agg [i64 0,i64 0,i64 0,i64 0,i64 0,i64 0,i64 0,i8 0,i8 0,.sl 1 [],.sl 1 [],i32 0,i64 0,i8 0,i32 0,i64 0,i8 0,i8 0,i8 0],i64 r2.2]) ([(100000,.var (rrC xs r2))]):=by
 have oz0 := @g1
 have oz1 := @g2
 have oz2 := @tells_9 (v_kd) hk
 have oz3:=z2_
 have oz4:=z3_
 have oz5:=z56_
 have oz6:=z0_
 have oz7:=z5_
 have oz8:=z6_
 have oz9:=z57_
 have oz21:=z58_
 have oz25:=z59_
 have oz33:=z60_
 have oz37:=z61_
 exact VM.run (fn:=Try.f41) (W:=[.r [] [],.r [] [cm oz0,cm oz1],.r [] [.callr (rO oz2)],.r [] [.row (sO oz5)],.br false,.r [] [.row (sO oz5)],.br false,.r [] [.row (sO oz5),.br true,.br true,.br true,.br false],.br false,.r [] [.row (sO oz5)],.br false,.r [] [.row (sO oz5)],.br false,.r [] [.row (sO oz5)],.br false,.r [] [.row (sO oz5)],.br false,.r [] [.row (sO oz5)],.br false,.r [] [],.br true,.r [] []]) (G:=[.drop [2,4,5],.weak 0 (AV.tup [AV.agg [i64 0,i64 0,i64 0,i64 0,i64 0,i64 0,i64 0,i8 0,i8 0,AV.sl 1 [],AV.sl 1 [],i32 0,i64 0,i8 0,i32 0,i64 0,i8 0,i8 0,i8 0],i64 r2.snd]),.sort]) Try.func41 (by kernel_rfl) (.c oz0<|.c oz1<|.c oz2<|.c oz3<|.c oz4<|.c oz5<|.c oz6<|.c oz7<|.c oz8<|.c oz9<|.c oz6<|.c oz7<|.c oz8<|.c oz9<|.c oz6<|.c oz6<|.c oz6<|.c oz6<|.c (show (v_kd==8)=false by (refine decide_eq_false ?_;omega))<|.c z12_<|.c z13_<|.c oz21<|.c oz6<|.c z14_<|.c z15_<|.c oz25<|.c oz6<|.c oz3<|.c oz4<|.c oz5<|.c oz6<|.c z16_<|.c z17_<|.c oz33<|.c oz6<|.c z18_<|.c z19_<|.c oz37<|.c oz6<|.c (show (r2.snd != 0)=true by (simp;omega))<|.c (show Weak (AV.tup [AV.agg [i64 0,i64 0,i64 0,i64 0,i64 0,i64 0,i64 0,i8 0,i8 0,nilv,nilv,i32 0,i64 0,i8 0,i32 0,i64 0,i8 0,i8 0,i8 0],i64 r2.snd]) (AV.tup [AV.agg [i64 0,i64 0,i64 0,i64 0,i64 0,i64 0,i64 0,i8 0,i8 0,AV.sl 1 [],AV.sl 1 [],i32 0,i64 0,i8 0,i32 0,i64 0,i8 0,i8 0,i8 0],i64 r2.snd]) from (Weak.tup (.cons (Weak.agg (.cons (.refl _) (.cons (.refl _) (.cons (.refl _) (.cons (.refl _) (.cons (.refl _) (.cons (.refl _) (.cons (.refl _) (.cons (.refl _) (.cons (.refl _) (.cons (Weak.nil _) (.cons (Weak.nil _) (.cons (.refl _) (.cons (.refl _) (.cons (.refl _) (.cons (.refl _) (.cons (.refl _) (.cons (.refl _) (.cons (.refl _) (.cons (.refl _) .nil)))))))))))))))))))) (.cons (.refl _) .nil))))<|.n)
theorem rw_9c (xs:List Int) (r r1 r2:Rrf) (v_kd v_na:Int) (g1:hCx xs r 9 v_kd r1) (g2:hCx xs r1 1024 v_na r2) (hk:v_kd<1∨8<v_kd) (h9:In64 v_kd)  (hbad:r2.2=0)  (hc:checkE (⟨v_kd,v_na,0,0,0,0,0,0,0,[],[],0,0,0,0,0,0,0,0⟩:Nod)≠0):VM Try.prog 41 ([.ptr 100000 0 0]) ([(100000,.var (rrC xs r))]) (.tup [.agg [i64 0,i64 0,i64 0,i64 0,i64 0,i64 0,i64 0,i8 0,i8 0,.sl 1 [],.sl 1 [],i32 0,i64 0,i8 0,i32 0,i64 0,i8 0,i8 0,i8 0],i64 (checkE (⟨v_kd,v_na,0,0,0,0,0,0,0,[],[],0,0,0,0,0,0,0,0⟩:Nod))]) ([(100000,.var (rrC xs r2))]):=by
 have oz0 := @g1
 have oz1 := @g2
 have oz2 := @tells_9 (v_kd) hk
 have oz3:=z2_
 have oz4:=z3_
 have oz5:=z56_
 have oz6:=z0_
 have oz7:=z5_
 have oz8:=z6_
 have oz9:=z57_
 have oz21:=z58_
 have oz25:=z59_
 have oz33:=z60_
 have oz37:=z61_
 have oz41 := @refCheck_v (Nod.mk v_kd v_na 0 0 0 0 0 0 0 [] [] 0 0 0 0 0 0 0 0) (by (simp;done)) (by (simp;done)) h9
 exact VM.run (fn:=Try.f41) (W:=[.r [] [],.r [] [cm oz0,cm oz1],.r [] [.callr (rO oz2)],.r [] [.row (sO oz5)],.br false,.r [] [.row (sO oz5)],.br false,.r [] [.row (sO oz5),.br true,.br true,.br true,.br false],.br false,.r [] [.row (sO oz5)],.br false,.r [] [.row (sO oz5)],.br false,.r [] [.row (sO oz5)],.br false,.r [] [.row (sO oz5)],.br false,.r [] [.row (sO oz5)],.br false,.r [] [],.br false,.r [] [.call (aO oz41) (rO oz41)],.r [] [],.br true,.r [] []]) (G:=[.drop [2,4,5],.weak 0 (AV.tup [AV.agg [i64 0,i64 0,i64 0,i64 0,i64 0,i64 0,i64 0,i8 0,i8 0,AV.sl 1 [],AV.sl 1 [],i32 0,i64 0,i8 0,i32 0,i64 0,i8 0,i8 0,i8 0],i64 (checkE (Nod.mk v_kd v_na 0 0 0 0 0 0 0 [] [] 0 0 0 0 0 0 0 0))]),.sort]) Try.func41 (by kernel_rfl) (.c oz0<|.c oz1<|.c oz2<|.c oz3<|.c oz4<|.c oz5<|.c oz6<|.c oz7<|.c oz8<|.c oz9<|.c oz6<|.c oz7<|.c oz8<|.c oz9<|.c oz6<|.c oz6<|.c oz6<|.c oz6<|.c (show (v_kd==8)=false by (refine decide_eq_false ?_;omega))<|.c z12_<|.c z13_<|.c oz21<|.c oz6<|.c z14_<|.c z15_<|.c oz25<|.c oz6<|.c oz3<|.c oz4<|.c oz5<|.c oz6<|.c z16_<|.c z17_<|.c oz33<|.c oz6<|.c z18_<|.c z19_<|.c oz37<|.c oz6<|.c (show (r2.snd != 0)=false by (simp;omega))<|.c (show WeakL [AV.agg [i64 v_kd,i64 v_na,i64 0,i64 0,i64 0,i64 0,i64 0,i8 0,i8 0,nilv,nilv,i32 0,i64 0,i8 0,i32 0,i64 0,i8 0,i8 0,i8 0]] [AV.agg [i64 (Nod.mk v_kd v_na 0 0 0 0 0 0 0 [] [] 0 0 0 0 0 0 0 0).kd,i64 (Nod.mk v_kd v_na 0 0 0 0 0 0 0 [] [] 0 0 0 0 0 0 0 0).na,i64 (Nod.mk v_kd v_na 0 0 0 0 0 0 0 [] [] 0 0 0 0 0 0 0 0).nb,i64 (Nod.mk v_kd v_na 0 0 0 0 0 0 0 [] [] 0 0 0 0 0 0 0 0).nk,i64 (Nod.mk v_kd v_na 0 0 0 0 0 0 0 [] [] 0 0 0 0 0 0 0 0).ns,i64 (Nod.mk v_kd v_na 0 0 0 0 0 0 0 [] [] 0 0 0 0 0 0 0 0).np,i64 (Nod.mk v_kd v_na 0 0 0 0 0 0 0 [] [] 0 0 0 0 0 0 0 0).no,i8 (Nod.mk v_kd v_na 0 0 0 0 0 0 0 [] [] 0 0 0 0 0 0 0 0).za,i8 (Nod.mk v_kd v_na 0 0 0 0 0 0 0 [] [] 0 0 0 0 0 0 0 0).zb,AV.sl 1 [],AV.sl 1 [],i32 (Nod.mk v_kd v_na 0 0 0 0 0 0 0 [] [] 0 0 0 0 0 0 0 0).qm,i64 (Nod.mk v_kd v_na 0 0 0 0 0 0 0 [] [] 0 0 0 0 0 0 0 0).qs,i8 (Nod.mk v_kd v_na 0 0 0 0 0 0 0 [] [] 0 0 0 0 0 0 0 0).qz,i32 (Nod.mk v_kd v_na 0 0 0 0 0 0 0 [] [] 0 0 0 0 0 0 0 0).rm,i64 (Nod.mk v_kd v_na 0 0 0 0 0 0 0 [] [] 0 0 0 0 0 0 0 0).rs,i8 (Nod.mk v_kd v_na 0 0 0 0 0 0 0 [] [] 0 0 0 0 0 0 0 0).rz,i8 (Nod.mk v_kd v_na 0 0 0 0 0 0 0 [] [] 0 0 0 0 0 0 0 0).lo,i8 (Nod.mk v_kd v_na 0 0 0 0 0 0 0 [] [] 0 0 0 0 0 0 0 0).hi]] from (.cons (Weak.agg (.cons (.refl _) (.cons (.refl _) (.cons (.refl _) (.cons (.refl _) (.cons (.refl _) (.cons (.refl _) (.cons (.refl _) (.cons (.refl _) (.cons (.refl _) (.cons (Weak.nil _) (.cons (Weak.nil _) (.cons (.refl _) (.cons (.refl _) (.cons (.refl _) (.cons (.refl _) (.cons (.refl _) (.cons (.refl _) (.cons (.refl _) (.cons (.refl _) .nil)))))))))))))))))))) .nil))<|.c oz41<|.c (show (checkE (Nod.mk v_kd v_na 0 0 0 0 0 0 0 [] [] 0 0 0 0 0 0 0 0) != 0)=true by (simp;omega))<|.c (show Weak (AV.tup [AV.agg [i64 0,i64 0,i64 0,i64 0,i64 0,i64 0,i64 0,i8 0,i8 0,nilv,nilv,i32 0,i64 0,i8 0,i32 0,i64 0,i8 0,i8 0,i8 0],i64 (checkE (Nod.mk v_kd v_na 0 0 0 0 0 0 0 [] [] 0 0 0 0 0 0 0 0))]) (AV.tup [AV.agg [i64 0,i64 0,i64 0,i64 0,i64 0,i64 0,i64 0,i8 0,i8 0,AV.sl 1 [],AV.sl 1 [],i32 0,i64 0,i8 0,i32 0,i64 0,i8 0,i8 0,i8 0],i64 (checkE (Nod.mk v_kd v_na 0 0 0 0 0 0 0 [] [] 0 0 0 0 0 0 0 0))]) from (Weak.tup (.cons (Weak.agg (.cons (.refl _) (.cons (.refl _) (.cons (.refl _) (.cons (.refl _) (.cons (.refl _) (.cons (.refl _) (.cons (.refl _) (.cons (.refl _) (.cons (.refl _) (.cons (Weak.nil _) (.cons (Weak.nil _) (.cons (.refl _) (.cons (.refl _) (.cons (.refl _) (.cons (.refl _) (.cons (.refl _) (.cons (.refl _) (.cons (.refl _) (.cons (.refl _) .nil)))))))))))))))))))) (.cons (.refl _) .nil))))<|.n)
theorem rw_9y (xs:List Int) (r r1 r2:Rrf) (v_kd v_na:Int) (g1:hCx xs r 9 v_kd r1) (g2:hCx xs r1 1024 v_na r2) (hk:v_kd<1∨8<v_kd) (h9:In64 v_kd)  (hbad:r2.2=0)  (hc:checkE (⟨v_kd,v_na,0,0,0,0,0,0,0,[],[],0,0,0,0,0,0,0,0⟩:Nod)=0):VM Try.prog 41 ([.ptr 100000 0 0]) ([(100000,.var (rrC xs r))]) (.tup [nod (⟨v_kd,v_na,0,0,0,0,0,0,0,[],[],0,0,0,0,0,0,0,0⟩:Nod),i64 0]) ([(100000,.var (rrC xs r2))]):=by
 have oz0 := @g1
 have oz1 := @g2
 have oz2 := @tells_9 (v_kd) hk
 have oz3:=z2_
 have oz4:=z3_
 have oz5:=z56_
 have oz6:=z0_
 have oz7:=z5_
 have oz8:=z6_
 have oz9:=z57_
 have oz21:=z58_
 have oz25:=z59_
 have oz33:=z60_
 have oz37:=z61_
 have oz41 := @refCheck_v (Nod.mk v_kd v_na 0 0 0 0 0 0 0 [] [] 0 0 0 0 0 0 0 0) (by (simp;done)) (by (simp;done)) h9
 exact VM.run (fn:=Try.f41) (W:=[.r [] [],.r [] [cm oz0,cm oz1],.r [] [.callr (rO oz2)],.r [] [.row (sO oz5)],.br false,.r [] [.row (sO oz5)],.br false,.r [] [.row (sO oz5),.br true,.br true,.br true,.br false],.br false,.r [] [.row (sO oz5)],.br false,.r [] [.row (sO oz5)],.br false,.r [] [.row (sO oz5)],.br false,.r [] [.row (sO oz5)],.br false,.r [] [.row (sO oz5)],.br false,.r [] [],.br false,.r [] [.call (aO oz41) (rO oz41)],.r [] [],.br false,.r [] []]) (G:=[.drop [2,4,5],.weak 0 (AV.tup [AV.agg [i64 v_kd,i64 v_na,i64 0,i64 0,i64 0,i64 0,i64 0,i8 0,i8 0,AV.sl 1 [],AV.sl 1 [],i32 0,i64 0,i8 0,i32 0,i64 0,i8 0,i8 0,i8 0],i64 0]),.sort]) Try.func41 (by kernel_rfl) (.c oz0<|.c oz1<|.c oz2<|.c oz3<|.c oz4<|.c oz5<|.c oz6<|.c oz7<|.c oz8<|.c oz9<|.c oz6<|.c oz7<|.c oz8<|.c oz9<|.c oz6<|.c oz6<|.c oz6<|.c oz6<|.c (show (v_kd==8)=false by (refine decide_eq_false ?_;omega))<|.c z12_<|.c z13_<|.c oz21<|.c oz6<|.c z14_<|.c z15_<|.c oz25<|.c oz6<|.c oz3<|.c oz4<|.c oz5<|.c oz6<|.c z16_<|.c z17_<|.c oz33<|.c oz6<|.c z18_<|.c z19_<|.c oz37<|.c oz6<|.c (show (r2.snd != 0)=false by (simp;omega))<|.c (show WeakL [AV.agg [i64 v_kd,i64 v_na,i64 0,i64 0,i64 0,i64 0,i64 0,i8 0,i8 0,nilv,nilv,i32 0,i64 0,i8 0,i32 0,i64 0,i8 0,i8 0,i8 0]] [AV.agg [i64 (Nod.mk v_kd v_na 0 0 0 0 0 0 0 [] [] 0 0 0 0 0 0 0 0).kd,i64 (Nod.mk v_kd v_na 0 0 0 0 0 0 0 [] [] 0 0 0 0 0 0 0 0).na,i64 (Nod.mk v_kd v_na 0 0 0 0 0 0 0 [] [] 0 0 0 0 0 0 0 0).nb,i64 (Nod.mk v_kd v_na 0 0 0 0 0 0 0 [] [] 0 0 0 0 0 0 0 0).nk,i64 (Nod.mk v_kd v_na 0 0 0 0 0 0 0 [] [] 0 0 0 0 0 0 0 0).ns,i64 (Nod.mk v_kd v_na 0 0 0 0 0 0 0 [] [] 0 0 0 0 0 0 0 0).np,i64 (Nod.mk v_kd v_na 0 0 0 0 0 0 0 [] [] 0 0 0 0 0 0 0 0).no,i8 (Nod.mk v_kd v_na 0 0 0 0 0 0 0 [] [] 0 0 0 0 0 0 0 0).za,i8 (Nod.mk v_kd v_na 0 0 0 0 0 0 0 [] [] 0 0 0 0 0 0 0 0).zb,AV.sl 1 [],AV.sl 1 [],i32 (Nod.mk v_kd v_na 0 0 0 0 0 0 0 [] [] 0 0 0 0 0 0 0 0).qm,i64 (Nod.mk v_kd v_na 0 0 0 0 0 0 0 [] [] 0 0 0 0 0 0 0 0).qs,i8 (Nod.mk v_kd v_na 0 0 0 0 0 0 0 [] [] 0 0 0 0 0 0 0 0).qz,i32 (Nod.mk v_kd v_na 0 0 0 0 0 0 0 [] [] 0 0 0 0 0 0 0 0).rm,i64 (Nod.mk v_kd v_na 0 0 0 0 0 0 0 [] [] 0 0 0 0 0 0 0 0).rs,i8 (Nod.mk v_kd v_na 0 0 0 0 0 0 0 [] [] 0 0 0 0 0 0 0 0).rz,i8 (Nod.mk v_kd v_na 0 0 0 0 0 0 0 [] [] 0 0 0 0 0 0 0 0).lo,i8 (Nod.mk v_kd v_na 0 0 0 0 0 0 0 [] [] 0 0 0 0 0 0 0 0).hi]] from (.cons (Weak.agg (.cons (.refl _) (.cons (.refl _) (.cons (.refl _) (.cons (.refl _) (.cons (.refl _) (.cons (.refl _) (.cons (.refl _) (.cons (.refl _) (.cons (.refl _) (.cons (Weak.nil _) (.cons (Weak.nil _) (.cons (.refl _) (.cons (.refl _) (.cons (.refl _) (.cons (.refl _) (.cons (.refl _) (.cons (.refl _) (.cons (.refl _) (.cons (.refl _) .nil)))))))))))))))))))) .nil))<|.c oz41<|.c (show (checkE (Nod.mk v_kd v_na 0 0 0 0 0 0 0 [] [] 0 0 0 0 0 0 0 0) != 0)=false by (simp;omega))<|.c (show Weak (AV.tup [AV.agg [i64 v_kd,i64 v_na,i64 0,i64 0,i64 0,i64 0,i64 0,i8 0,i8 0,nilv,nilv,i32 0,i64 0,i8 0,i32 0,i64 0,i8 0,i8 0,i8 0],i64 0]) (AV.tup [AV.agg [i64 v_kd,i64 v_na,i64 0,i64 0,i64 0,i64 0,i64 0,i8 0,i8 0,AV.sl 1 [],AV.sl 1 [],i32 0,i64 0,i8 0,i32 0,i64 0,i8 0,i8 0,i8 0],i64 0]) from (Weak.tup (.cons (Weak.agg (.cons (.refl _) (.cons (.refl _) (.cons (.refl _) (.cons (.refl _) (.cons (.refl _) (.cons (.refl _) (.cons (.refl _) (.cons (.refl _) (.cons (.refl _) (.cons (Weak.nil _) (.cons (Weak.nil _) (.cons (.refl _) (.cons (.refl _) (.cons (.refl _) (.cons (.refl _) (.cons (.refl _) (.cons (.refl _) (.cons (.refl _) (.cons (.refl _) .nil)))))))))))))))))))) (.cons (.refl _) .nil))))<|.n)
end Go.Proofs.Ytgecmooedhnenaa
