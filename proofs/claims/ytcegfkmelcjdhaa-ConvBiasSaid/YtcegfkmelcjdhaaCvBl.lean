/- A bias is in each sum of its channel: the law. No condition. -/
import Derived.Test.YtcegfkmelcjdhaaCvB
namespace Go.Proofs.Ytcegfkmelcjdhaa
open Go.RowKit
set_option linter.unusedSimpArgs false
set_option linter.unusedVariables false
set_option linter.unnecessarySimpa false

set_option maxRecDepth 100000 in
set_option maxHeartbeats 2000000 in
theorem convBias_n (T : Ten) (n : Nod) (at' v : Int) (ok : T.Ok) (okn : n.Ok) (h : (convOf T n).2 ≠ 0) (hd : (convOf T n).1.d = []) : VC Try.prog 5 ([ten .i8 T, nod n, u8 at', i32 v]) (bv true) := by
  have oz0 := @few10_v (T) (n)
  rcases Bool.eq_false_or_eq_true (!(decide (T.d.length ≤ 1024) && decide (n.w.length ≤ 2000) && decide (n.b.length ≤ 200))) with hc0 | hc0
  · have gc0 : (¬T.d.length ≤ 1024 ∨ ¬n.w.length ≤ 2000) ∨ ¬n.b.length ≤ 200 := by first | exact hc0 | exact of_decide_eq_true hc0 | exact of_decide_eq_false hc0 | simpa [eqNums] using hc0 | (simp [eqNums] at hc0 ⊢; first | done | assumption | omega)
    have oz2 := @known10_v
    exact VC.run (fn := Try.f5) (W := [.r [] [], .r [] [.callr (rO oz0)], .br true, .r [] [.callr (rO oz2)]]) Try.func5 (by kernel_rfl) (.c oz0 <| .c hc0 <| .c oz2 <| .n)
  · have gc0 : (T.d.length ≤ 1024 ∧ n.w.length ≤ 2000) ∧ n.b.length ≤ 200 := by first | exact hc0 | exact of_decide_eq_true hc0 | exact of_decide_eq_false hc0 | simpa [eqNums] using hc0 | (simp [eqNums] at hc0 ⊢; first | done | assumption | omega)
    have oz2 := @cvOf_v (T) (n) ok okn
    have oz3 := @rcOf_v (T) (n) ok okn
    have oz5 := (show ((convOf T n).snd == (convOf T n).snd) = true by (refine decide_eq_true ?_; omega))
    have oz10 := (show ((↑(List.map (row1 IntKind.i32) (convOf T n).fst.d).length : Int) == 0) = true by (rw [hd]; rfl))
    have oz11 := @known10_v
    exact VC.run (fn := Try.f5) (W := [.r [] [], .r [] [.callr (rO oz0)], .br false, .r [] [.callr (rO oz2)], .r [] [.callr (rO oz3)], .r [] [], .br true, .r [] [.br true, .br true, .br true, .br true, .br true, .br true, .callr (rO oz11), .br true]]) Try.func5 (by kernel_rfl) (.c oz0 <| .c hc0 <| .c oz2 <| .c oz3 <| .c (show ((convOf T n).snd != 0) = true by (simp; omega)) <| .c oz5 <| .c oz5 <| .c oz5 <| .c oz5 <| .c oz5 <| .c oz10 <| .c oz11 <| .c oz10 <| .n)

theorem cvOf_b (T : Ten) (n : Nod) (o : Nat) (v : Int) (ok : T.Ok) (okn : (biasN n o v).Ok) : VC Try.prog 21 [ten .i8 T, .agg [i64 n.kd, i64 n.na, i64 n.nb, i64 n.nk, i64 n.ns, i64 n.np, i64 n.no, i8 n.za, i8 n.zb, ints .i8 n.w, .sl 1 (([] ++ n.b.map (row1 .i32)).set o [i32 (IntKind.i32.wrap (n.b.getD (o - 0) 0 + v))]), i32 n.qm, i64 n.qs, i8 n.qz, i32 n.rm, i64 n.rs, i8 n.rz, i8 n.lo, i8 n.hi]] (.tup [ten .i32 (convOf T (biasN n o v)).1, i64 (convOf T (biasN n o v)).2]) := by
  have h := cvOf_v T (biasN n o v) ok okn
  have e : (n.b.set o (IntKind.i32.wrap (n.b.getD o 0 + v))).map (row1 .i32) = ([] ++ n.b.map (row1 .i32)).set o [i32 (IntKind.i32.wrap (n.b.getD (o - 0) 0 + v))] := by rw [List.map_set]; rfl
  rw [← e]; exact h
theorem cvOf_z (T : Ten) (n : Nod) (ok : T.Ok) (okn : (zeroN n).Ok) : VC Try.prog 21 [ten .i8 T, .agg [i64 n.kd, i64 n.na, i64 n.nb, i64 n.nk, i64 n.ns, i64 n.np, i64 n.no, i8 n.za, i8 n.zb, .sl 1 (List.replicate (n.w.map (row1 .i8)).length [i8 0]), ints .i32 n.b, i32 n.qm, i64 n.qs, i8 n.qz, i32 n.rm, i64 n.rs, i8 n.rz, i8 n.lo, i8 n.hi]] (.tup [ten .i32 (convOf T (zeroN n)).1, i64 (convOf T (zeroN n)).2]) := by
  have h := cvOf_v T (zeroN n) ok okn
  have e : (List.replicate n.w.length (0 : Int)).map (row1 .i8) = List.replicate (n.w.map (row1 .i8)).length [i8 0] := by rw [List.map_replicate, List.length_map]
  rw [← e]; exact h
noncomputable def convBias_l_I (n : Nod) (A B C : Ten) (o v : Int) (k : Nat) : VS := stt 163 [(3, i32 v), (5, .ptr 5 0 0), (9, .ptr 9 0 0), (15, i64 o), (16, .ptr 16 0 0), (18, .ptr 18 0 0), (20, i64 k)] [(5, .var (nodC n)), (9, .var [i64 A.h, i64 A.x, i64 A.c, ints .i32 A.d]), (16, .var [i64 B.h, i64 B.x, i64 B.c, ints .i32 B.d]), (18, .var [i64 C.h, i64 C.x, i64 C.c, ints .i32 C.d])]
noncomputable def convBias_l_Z (n : Nod) (A B C : Ten) (o v : Int) : VS := convBias_l_I n A B C o v (A.d.length)
set_option maxRecDepth 100000 in
set_option maxHeartbeats 2000000 in
theorem convBias_l_s (n : Nod) (A B C : Ten) (o v : Int) (n1 : 1 ≤ n.no) (bl : (n.b.length : Int) = n.no) (al : A.d.length ≤ 1024) (lb : B.d.length = A.d.length) (lc : C.d.length = A.d.length) (hb : ∀ i : Nat, i < A.d.length → ((i : Int) % n.no = o → B.d.getD i 0 = IntKind.i32.wrap (A.d.getD i 0 + v)) ∧ (¬ (i : Int) % n.no = o → B.d.getD i 0 = A.d.getD i 0)) (hc : ∀ i : Nat, i < A.d.length → C.d.getD i 0 = n.b.getD ((i : Int) % n.no).toNat 0) (k : Nat) (hk : k < A.d.length) : VT Try.prog (fnC Try.f5 [1, 1, 1, 1, 1, 1, 1, 1, 1, 1, 1, 1, 0, 1, 0, 0]) (convBias_l_I n A B C o v k) .normal (convBias_l_I n A B C o v (k + 1)) := by
  have q1 := (hb k hk).1
  have q2 := (hb k hk).2
  have q3 := hc k hk
  have q4 := Int.emod_nonneg (k : Int) (show n.no ≠ 0 by omega)
  have q5 := Int.emod_lt_of_pos (k : Int) (show 0 < n.no by omega)
  have oz0 := (show decide ((↑k : Int) < (↑(List.map (row1 IntKind.i32) A.d).length : Int)) = true by (simp; omega))
  have oz1 := (show 0 ≤ (↑k : Int) by omega)
  have oz2 := (map_at (row1 IntKind.i32) (0) (l := A.d) (i := k) hk)
  have oz3 := (show n.no ≠ 0 by omega)
  have oz4 := (show (↑k : Int).tmod n.no = (↑k : Int) % n.no from (Int.tmod_eq_emod_of_nonneg (by omega)))
  rcases Bool.eq_false_or_eq_true ((↑k : Int) % n.no == o) with hc0 | hc0
  · have gc0 : (↑k : Int) % n.no = o := bet hc0
    have oz8 := (show (B.d.getD k 0 != IntKind.i32.wrap (A.d.getD k 0 + v)) = false by (simp at *; omega))
    have oz25 := (map_at (row1 IntKind.i32) (0) (l := n.b) (i := ((↑k : Int) % n.no).toNat) (by omega))
    exact VT.run (W := [.r [] [], .br true, .r [] [.row (sO oz2)], .r [] [.n ((↑k : Int) % n.no)], .br true, .r [] [.w], .r [] [.row [i32 (B.d.getD k 0)], .br true, .br true, .br true, .br true, .row [i32 (C.d.getD k 0)], .br true, .br true, .br true, .br true, .br true, .br true, .br true, .n ((↑k : Int) % n.no), .br true, .row (sO oz25), .br true, .br true, .br false], .br false, .r [] [.n ((↑k : Int) + 1)]]) (G := [.any (rg [(21, 1), (118, 44)]), .weak 20 (i64 (↑(k + 1) : Int)), .sort]) (by kernel_rfl) (.c oz0 <| .c oz1 <| .c oz2 <| .c oz3 <| .c oz4 <| .c hc0 <| .c oz1 <| .c (map_at (row1 IntKind.i32) (0) (l := B.d) (i := k) (by omega)) <| .c oz8 <| .c oz8 <| .c oz8 <| .c oz8 <| .c oz1 <| .c (map_at (row1 IntKind.i32) (0) (l := C.d) (i := k) (by omega)) <| .c oz8 <| .c oz8 <| .c oz8 <| .c oz8 <| .c oz8 <| .c oz8 <| .c oz8 <| .c oz3 <| .c oz4 <| .c oz8 <| .c q4 <| .c oz25 <| .c oz8 <| .c oz8 <| .c oz8 <| .c (show (C.d.getD k 0 != n.b.getD ((↑k : Int) % n.no).toNat 0) = false by (simp at *; omega)) <| .c (IntWalk.i64_in ((↑k : Int) + 1) (by omega)) <| .c (Weak.int (k := .i64) (show (((↑k : Int) + 1) : Int) = ((↑(k + 1) : Int)) from (by omega))) <| .n)
  · have gc0 : ¬(↑k : Int) % n.no = o := bef hc0
    have oz8 := (show (B.d.getD k 0 != A.d.getD k 0) = false by (simp at *; omega))
    have oz25 := (map_at (row1 IntKind.i32) (0) (l := n.b) (i := ((↑k : Int) % n.no).toNat) (by omega))
    exact VT.run (W := [.r [] [], .br true, .r [] [.row (sO oz2)], .r [] [.n ((↑k : Int) % n.no)], .br false, .r [] [.row [i32 (B.d.getD k 0)], .br true, .br true, .br true, .br true, .row [i32 (C.d.getD k 0)], .br true, .br true, .br true, .br true, .br true, .br true, .br true, .n ((↑k : Int) % n.no), .br true, .row (sO oz25), .br true, .br true, .br false], .br false, .r [] [.n ((↑k : Int) + 1)]]) (G := [.any (rg [(21, 1), (118, 18), (139, 23)]), .weak 20 (i64 (↑(k + 1) : Int)), .sort]) (by kernel_rfl) (.c oz0 <| .c oz1 <| .c oz2 <| .c oz3 <| .c oz4 <| .c hc0 <| .c oz1 <| .c (map_at (row1 IntKind.i32) (0) (l := B.d) (i := k) (by omega)) <| .c oz8 <| .c oz8 <| .c oz8 <| .c oz8 <| .c oz1 <| .c (map_at (row1 IntKind.i32) (0) (l := C.d) (i := k) (by omega)) <| .c oz8 <| .c oz8 <| .c oz8 <| .c oz8 <| .c oz8 <| .c oz8 <| .c oz8 <| .c oz3 <| .c oz4 <| .c oz8 <| .c q4 <| .c oz25 <| .c oz8 <| .c oz8 <| .c oz8 <| .c (show (C.d.getD k 0 != n.b.getD ((↑k : Int) % n.no).toNat 0) = false by (simp at *; omega)) <| .c (IntWalk.i64_in ((↑k : Int) + 1) (by omega)) <| .c (Weak.int (k := .i64) (show (((↑k : Int) + 1) : Int) = ((↑(k + 1) : Int)) from (by omega))) <| .n)
set_option maxRecDepth 100000 in
set_option maxHeartbeats 2000000 in
theorem convBias_l_e (n : Nod) (A B C : Ten) (o v : Int) (n1 : 1 ≤ n.no) (bl : (n.b.length : Int) = n.no) (al : A.d.length ≤ 1024) (lb : B.d.length = A.d.length) (lc : C.d.length = A.d.length) (hb : ∀ i : Nat, i < A.d.length → ((i : Int) % n.no = o → B.d.getD i 0 = IntKind.i32.wrap (A.d.getD i 0 + v)) ∧ (¬ (i : Int) % n.no = o → B.d.getD i 0 = A.d.getD i 0)) (hc : ∀ i : Nat, i < A.d.length → C.d.getD i 0 = n.b.getD ((i : Int) % n.no).toNat 0) : VT Try.prog (fnC Try.f5 [1, 1, 1, 1, 1, 1, 1, 1, 1, 1, 1, 1, 0, 1, 0, 0]) (convBias_l_I n A B C o v (A.d.length)) (.exit 0) (convBias_l_Z n A B C o v) := by
  exact VT.run (W := [.r [] [], .br false]) (G := [.any (rg [(118, 5)]), .sort]) (by kernel_rfl) (.c (show decide ((↑A.d.length : Int) < (↑(List.map (row1 IntKind.i32) A.d).length : Int)) = false by (simp; done)) <| .n)
theorem convBias_l (n : Nod) (A B C : Ten) (o v : Int) (n1 : 1 ≤ n.no) (bl : (n.b.length : Int) = n.no) (al : A.d.length ≤ 1024) (lb : B.d.length = A.d.length) (lc : C.d.length = A.d.length) (hb : ∀ i : Nat, i < A.d.length → ((i : Int) % n.no = o → B.d.getD i 0 = IntKind.i32.wrap (A.d.getD i 0 + v)) ∧ (¬ (i : Int) % n.no = o → B.d.getD i 0 = A.d.getD i 0)) (hc : ∀ i : Nat, i < A.d.length → C.d.getD i 0 = n.b.getD ((i : Int) % n.no).toNat 0) : VT Try.prog (fnC Try.f5 [1, 1, 1, 1, 1, 1, 1, 1, 1, 1, 1, 1, 0, 1, 0]) (convBias_l_I n A B C o v 0) (.exit 0) (convBias_l_Z n A B C o v) :=
  VT.loop (fun k => convBias_l_I n A B C o v k) (A.d.length) (fun k hk => convBias_l_s n A B C o v n1 bl al lb lc hb hc k hk) (convBias_l_e n A B C o v n1 bl al lb lc hb hc) (by intro h; cases h)

set_option maxRecDepth 100000 in
set_option maxHeartbeats 2000000 in
theorem convBias_y (T : Ten) (n : Nod) (at' v : Int) (ok : CvOk T n) (a0 : 0 ≤ at') (a1 : at' ≤ 255) (hv : In32 v) (e0 : (convOf T n).2 = 0) (wl : n.w.length ≤ 2000) (bl : n.b.length ≤ 200) (dl : T.d.length ≤ 1024) : VC Try.prog 5 ([ten .i8 T, nod n, u8 at', i32 v]) (bv true) := by
  have ok1 := ok.ok
  have okn := ok.okn
  have g1 := ok.n.o1
  have g2 := ok.n.bl
  have g3 := Int.emod_nonneg at' (show n.no ≠ 0 by omega)
  have g4 := Int.emod_lt_of_pos at' (show 0 < n.no by omega)
  have g5 : (((at' % n.no).toNat : Nat) : Int) = at' % n.no := Int.toNat_of_nonneg g3
  have h1 := convOf_0 (biasN_cv ok (at' % n.no).toNat v)
  have h2 := convOf_0 (zeroN_cv ok)
  have h3 := bias_len ok (at' % n.no).toNat v
  have h4 := zero_len ok
  have h5 := convOf_len T n ok1 okn
  have h6 : ∀ i : Nat, i < (convOf T n).1.d.length → ((i : Int) % n.no = at' % n.no → (convOf T (biasN n (at' % n.no).toNat v)).1.d.getD i 0 = IntKind.i32.wrap ((convOf T n).1.d.getD i 0 + v)) ∧ (¬ (i : Int) % n.no = at' % n.no → (convOf T (biasN n (at' % n.no).toNat v)).1.d.getD i 0 = (convOf T n).1.d.getD i 0) := by
    intro i hi
    have := bias_get ok (at' % n.no).toNat (by omega) v hi
    rw [g5] at this
    exact ⟨fun e => by rw [this, if_pos e], fun e => by rw [this, if_neg e]⟩
  have h7 := fun i hi => zero_get ok (i := i) hi
  have h8 := biasN_ok okn (at' % n.no).toNat v
  have h9 := zeroN_ok okn
  have oz0 := @few10_v (T) (n)
  have oz2 := @cvOf_v (T) (n) ok1 okn
  have oz3 := @rcOf_v (T) (n) ok1 okn
  have oz4 := (show ((convOf T n).snd != 0) = false by (simp; omega))
  have oz11 := (show at' % n.no < (↑([] ++ List.map (row1 IntKind.i32) n.b).length : Int) by (simp; omega))
  have oz12 := (show ([] ++ List.map (row1 IntKind.i32) n.b)[(at' % n.no).toNat]? = some [i32 (n.b.getD ((at' % n.no).toNat - 0) 0)] from (get_appr (j := (at' % n.no).toNat - 0) (by (simp; done)) (map_at (row1 IntKind.i32) (0) (l := n.b) (i := (at' % n.no).toNat - 0) (by omega))))
  have oz16 := (show (↑(List.map (row1 IntKind.i8) n.w).length : Int) = (↑(List.map (row1 IntKind.i8) n.w).length : Int) by with_reducible rfl)
  have oz21 := @cvOf_b (T) (n) ((at' % n.no).toNat) (v) ok1 h8
  have oz22 := @cvOf_z (T) (n) ok1 h9
  have oz26 := (show ((convOf T (biasN n (at' % n.no).toNat v)).snd != 0) = false by (simp; omega))
  have oz29 := (show ((convOf T (zeroN n)).snd != 0) = false by (simp; omega))
  have oz37 := (show ((↑(List.map (row1 IntKind.i32) (convOf T (biasN n (at' % n.no).toNat v)).fst.d).length : Int) != (↑(List.map (row1 IntKind.i32) (convOf T n).fst.d).length : Int)) = false by (simp; omega))
  have oz47 := @convBias_l (n) ((convOf T n).fst) ((convOf T (biasN n (at' % n.no).toNat v)).fst) ((convOf T (zeroN n)).fst) (at' % n.no) (v) g1 g2 h5 h3 h4 h6 h7
  have oz48 := @known10_v
  exact VC.run (fn := Try.f5) (W := [.r [] [], .r [] [.callr (rO oz0)], .br false, .r [] [.callr (rO oz2)], .r [] [.callr (rO oz3)], .r [] [], .br false, .r [] [], .r [] [.n at', .n (at' % n.no)], .r [] [], .r [] [.row (sO oz12), .w, .nat 0], .r [] [.nats (List.map (row1 IntKind.i8) n.w).length (List.map (row1 IntKind.i8) n.w).length], .r [.frz 63] [.callr (rO oz21)], .r [.frz 76] [.callr (rO oz22)], .r [] [.br true, .br true, .br false, .br true, .br true, .br false, .br true, .br true, .br true, .br true, .br true, .br true, .br true, .br false, .br true, .br true, .br true, .br true, .br true, .br true, .br true, .br false], .br false, .r [] [], .code [.any (rg [(0, 3), (4, 1), (8, 1), (10, 5), (17, 1), (19, 1), (22, 4), (27, 14), (53, 15), (69, 3), (73, 45)]), .drop [4, 11, 13, 14], .weak 20 (i64 (↑0 : Int)), .sort] (Exit.exit 0) (zO oz47), .r [] [.callr (rO oz48)]]) Try.func5 (by kernel_rfl) (.c oz0 <| .c (show (!(decide (T.d.length ≤ 1024) && decide (n.w.length ≤ 2000) && decide (n.b.length ≤ 200))) = false by (simp; omega)) <| .c oz2 <| .c oz3 <| .c oz4 <| .c (IntWalk.i64_in at' (by omega)) <| .c (show n.no ≠ 0 by omega) <| .c (show at'.tmod n.no = at' % n.no from (Int.tmod_eq_emod_of_nonneg a0)) <| .c (show (0 + (List.map (row1 IntKind.i32) n.b).length) * 4 ≤ 140737488355328 by (simp; omega)) <| .c (show 0 + (List.map (row1 IntKind.i32) n.b).length ≤ 9223372036854775807 by (simp; omega)) <| .c g3 <| .c oz11 <| .c oz12 <| .c g3 <| .c oz11 <| .c (show (at' % n.no).toNat < ([] ++ List.map (row1 IntKind.i32) n.b).length by (simp; omega)) <| .c oz16 <| .c oz16 <| .c (show (List.map (row1 IntKind.i8) n.w).length ≤ (List.map (row1 IntKind.i8) n.w).length by omega) <| .c (show 1 * (List.map (row1 IntKind.i8) n.w).length ≤ 281474976710656 by (simp; omega)) <| .c (show (List.map (row1 IntKind.i8) n.w).length ≤ 9223372036854775807 by (simp; omega)) <| .c oz21 <| .c oz22 <| .c oz4 <| .c oz4 <| .c oz4 <| .c oz26 <| .c oz26 <| .c oz26 <| .c oz29 <| .c oz29 <| .c oz29 <| .c oz29 <| .c oz29 <| .c oz29 <| .c oz29 <| .c oz29 <| .c oz37 <| .c oz37 <| .c oz37 <| .c oz37 <| .c oz37 <| .c oz37 <| .c oz37 <| .c oz37 <| .c (show ((↑(List.map (row1 IntKind.i32) (convOf T (zeroN n)).fst.d).length : Int) != (↑(List.map (row1 IntKind.i32) (convOf T n).fst.d).length : Int)) = false by (simp; omega)) <| .c (Weak.int (k := .i64) (show ((0) : Int) = ((↑0 : Int)) from (by omega))) <| .c oz47 <| .c oz48 <| .n)

set_option maxRecDepth 100000 in
set_option maxHeartbeats 2000000 in
theorem convBias_s (T : Ten) (n : Nod) (at' v : Int) (hl : ¬ (T.d.length ≤ 1024 ∧ n.w.length ≤ 2000 ∧ n.b.length ≤ 200)) : VC Try.prog 5 ([ten .i8 T, nod n, u8 at', i32 v]) (bv true) := by
  have oz0 := @few10_v (T) (n)
  have oz2 := @known10_v
  exact VC.run (fn := Try.f5) (W := [.r [] [], .r [] [.callr (rO oz0)], .br true, .r [] [.callr (rO oz2)]]) Try.func5 (by kernel_rfl) (.c oz0 <| .c (show (!(decide (T.d.length ≤ 1024) && decide (n.w.length ≤ 2000) && decide (n.b.length ≤ 200))) = true by (simp only [Bool.not_eq_true', Bool.and_eq_false_iff, decide_eq_false_iff_not]; omega)) <| .c oz2 <| .n)
theorem convBias_v (T : Ten) (n : Nod) (at' v : Int) (ok : T.Ok) (okn : n.Ok) (a0 : 0 ≤ at') (a1 : at' ≤ 255) (hv : In32 v) : VC Try.prog 5 [ten .i8 T, nod n, u8 at', i32 v] (bv true) := by
  by_cases hl : T.d.length ≤ 1024 ∧ n.w.length ≤ 2000 ∧ n.b.length ≤ 200
  · by_cases h : (convOf T n).2 = 0
    · exact convBias_y T n at' v (convOf_e ok okn h) a0 a1 hv h hl.2.1 hl.2.2 hl.1
    · exact convBias_n T n at' v ok okn h (convOf_no h)
  · exact convBias_s T n at' v hl
end Go.Proofs.Ytcegfkmelcjdhaa

