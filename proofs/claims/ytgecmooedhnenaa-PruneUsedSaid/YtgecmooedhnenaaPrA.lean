/- Which nodes of a block are in order, and used, by the program and by the document. No condition. -/
import Derived.Test.YtgecmooedhnenaaPrM
namespace Go.Proofs.Ytgecmooedhnenaa
open Go.RowKit
set_option linter.unusedSimpArgs false
set_option linter.unusedVariables false
set_option linter.unnecessarySimpa false

set_option maxRecDepth 100000 in
set_option maxHeartbeats 2000000 in
theorem pvalues_v (n : Nod)  : VC Try.prog 84 ([nod n]) (ints .i64 (takesL n)) := by
  rcases Bool.eq_false_or_eq_true (n.kd == 6) with hc0 | hc0
  · have gc0 : n.kd = 6 := bet hc0
    exact (VC.run (fn := Try.f84) (W := [.r [] [], .r [] [], .br true, .r [] []]) (r := AV.sl 1 [[i64 n.na], [i64 n.nb]]) Try.func84 (by kernel_rfl) (.c hc0 <| .n)).weak (WeakL.refl _) (Weak.rows (rows_to (row1 IntKind.i64) (r := [[i64 n.na], [i64 n.nb]]) (l := [n.na, n.nb]) (m := takesL n) (by first | (simp only [List.map_append, List.map_cons, List.map_nil, List.map_set, List.map_replicate, List.map_take, List.map_drop]; done) | rfl | (simp only [List.map_append, List.map_cons, List.map_nil, List.map_set, List.map_replicate, List.map_take, List.map_drop]; rfl)) (show ([n.na, n.nb]) = (takesL n) from (by (unfold takesL; rw [if_pos (by simp_all)])))))
  · have gc0 : ¬n.kd = 6 := bef hc0
    exact (VC.run (fn := Try.f84) (W := [.r [] [], .r [] [], .br false, .r [] []]) (r := AV.sl 1 [[i64 n.na]]) Try.func84 (by kernel_rfl) (.c hc0 <| .n)).weak (WeakL.refl _) (Weak.rows (rows_to (row1 IntKind.i64) (r := [[i64 n.na]]) (l := [n.na]) (m := takesL n) (by first | (simp only [List.map_append, List.map_cons, List.map_nil, List.map_set, List.map_replicate, List.map_take, List.map_drop]; done) | rfl | (simp only [List.map_append, List.map_cons, List.map_nil, List.map_set, List.map_replicate, List.map_take, List.map_drop]; rfl)) (show ([n.na]) = (takesL n) from (by (unfold takesL; rw [if_neg (by simp_all)])))))
theorem takes_in (n : Nod) (m : Int) : (∀ k, k < (takesL n).length → 0 ≤ (takesL n).getD k 0 ∧ (takesL n).getD k 0 < m) ↔ thereB n m = true := by
  rw [← takes_there]; simp only [decide_eq_true_eq]
noncomputable def pord_iy_I (l : List Nod) (u : Nat) (L : List Int) (k : Nat) : VS := stt 30 [(3, i64 u), (7, .sl 19 (l.map nodC)), (8, i64 l.length), (9, i64 u), (15, ints .i64 L), (16, i64 L.length), (17, i64 k)] []
noncomputable def pord_iy_Z (l : List Nod) (u : Nat) (L : List Int) : VS := pord_iy_I l u L (L.length)
set_option maxRecDepth 100000 in
set_option maxHeartbeats 2000000 in
theorem pord_iy_s (l : List Nod) (u : Nat) (L : List Int) (hl : L.length ≤ 2) (h : ∀ k, k < L.length → 0 ≤ L.getD k 0 ∧ L.getD k 0 < (u : Int) + 1) (k : Nat) (hk : k < L.length) : VT Try.prog (fnC Try.f80 [1, 0, 1, 0, 0, 1, 1, 0, 0, 1, 1, 0, 0]) (pord_iy_I l u L k) .normal (pord_iy_I l u L (k + 1)) := by
  have q := h k hk
  have oz3 := (decide_eq_false (p := (L.getD k 0 < 0)) (by omega))
  exact VT.run (W := [.r [] [], .br true, .r [] [.row [i64 (L.getD k 0)]], .r [] [.br true, .br true, .br true, .br false], .br false, .r [] [.n ((↑k : Int) + 1)]]) (G := [.any (rg [(6, 1), (18, 11)]), .weak 17 (i64 (↑(k + 1) : Int)), .sort]) (by kernel_rfl) (.c (decide_eq_true (p := ((↑k : Int) < (↑L.length : Int))) (by omega)) <| .c (show 0 ≤ (↑k : Int) by omega) <| .c (map_at (row1 IntKind.i64) (0) (l := L) (i := k) hk) <| .c oz3 <| .c oz3 <| .c oz3 <| .c oz3 <| .c (decide_eq_false (p := (L.getD k 0 > (↑u : Int))) (by omega)) <| .c (IntWalk.i64_in ((↑k : Int) + 1) (by omega)) <| .c (Weak.int (k := .i64) (show (((↑k : Int) + 1) : Int) = ((↑(k + 1) : Int)) from (by omega))) <| .n)
set_option maxRecDepth 100000 in
set_option maxHeartbeats 2000000 in
theorem pord_iy_e (l : List Nod) (u : Nat) (L : List Int) (hl : L.length ≤ 2) (h : ∀ k, k < L.length → 0 ≤ L.getD k 0 ∧ L.getD k 0 < (u : Int) + 1) : VT Try.prog (fnC Try.f80 [1, 0, 1, 0, 0, 1, 1, 0, 0, 1, 1, 0, 0]) (pord_iy_I l u L (L.length)) (.exit 2) (pord_iy_Z l u L) := by
  exact VT.run (W := [.r [] [], .br false]) (G := [.any [18], .sort]) (by kernel_rfl) (.c (decide_eq_false (p := ((↑L.length : Int) < (↑L.length : Int))) (by omega)) <| .n)
theorem pord_iy (l : List Nod) (u : Nat) (L : List Int) (hl : L.length ≤ 2) (h : ∀ k, k < L.length → 0 ≤ L.getD k 0 ∧ L.getD k 0 < (u : Int) + 1) : VT Try.prog (fnC Try.f80 [1, 0, 1, 0, 0, 1, 1, 0, 0, 1, 1, 0]) (pord_iy_I l u L 0) (.exit 2) (pord_iy_Z l u L) :=
  VT.loop (fun k => pord_iy_I l u L k) (L.length) (fun k hk => pord_iy_s l u L hl h k hk) (pord_iy_e l u L hl h) (by intro h; cases h)

noncomputable def pord_in_I (l : List Nod) (u : Nat) (L : List Int) (j : Nat) (k : Nat) : VS := stt 30 [(3, i64 u), (7, .sl 19 (l.map nodC)), (8, i64 l.length), (9, i64 u), (15, ints .i64 L), (16, i64 L.length), (17, i64 k)] []
noncomputable def pord_in_Z (l : List Nod) (u : Nat) (L : List Int) (j : Nat) : VS := stt 30 [(2, bv false)] []
set_option maxRecDepth 100000 in
set_option maxHeartbeats 2000000 in
theorem pord_in_s (l : List Nod) (u : Nat) (L : List Int) (j : Nat) (hl : L.length ≤ 2) (hj : j < L.length) (hf : ¬ (0 ≤ L.getD j 0 ∧ L.getD j 0 < (u : Int) + 1)) (h : ∀ k, k < j → 0 ≤ L.getD k 0 ∧ L.getD k 0 < (u : Int) + 1) (k : Nat) (hk : k < j) : VT Try.prog (fnC Try.f80 [1, 0, 1, 0, 0, 1, 1, 0, 0, 1, 1, 0, 0]) (pord_in_I l u L j k) .normal (pord_in_I l u L j (k + 1)) := by
  have q := h k hk
  have oz3 := (decide_eq_false (p := (L.getD k 0 < 0)) (by omega))
  exact VT.run (W := [.r [] [], .br true, .r [] [.row [i64 (L.getD k 0)]], .r [] [.br true, .br true, .br true, .br false], .br false, .r [] [.n ((↑k : Int) + 1)]]) (G := [.any (rg [(6, 1), (18, 11)]), .weak 17 (i64 (↑(k + 1) : Int)), .sort]) (by kernel_rfl) (.c (decide_eq_true (p := ((↑k : Int) < (↑L.length : Int))) (by omega)) <| .c (show 0 ≤ (↑k : Int) by omega) <| .c (map_at (row1 IntKind.i64) (0) (l := L) (i := k) (by omega)) <| .c oz3 <| .c oz3 <| .c oz3 <| .c oz3 <| .c (decide_eq_false (p := (L.getD k 0 > (↑u : Int))) (by omega)) <| .c (IntWalk.i64_in ((↑k : Int) + 1) (by omega)) <| .c (Weak.int (k := .i64) (show (((↑k : Int) + 1) : Int) = ((↑(k + 1) : Int)) from (by omega))) <| .n)
set_option maxRecDepth 100000 in
set_option maxHeartbeats 2000000 in
theorem pord_in_e (l : List Nod) (u : Nat) (L : List Int) (j : Nat) (hl : L.length ≤ 2) (hj : j < L.length) (hf : ¬ (0 ≤ L.getD j 0 ∧ L.getD j 0 < (u : Int) + 1)) (h : ∀ k, k < j → 0 ≤ L.getD k 0 ∧ L.getD k 0 < (u : Int) + 1) : VT Try.prog (fnC Try.f80 [1, 0, 1, 0, 0, 1, 1, 0, 0, 1, 1, 0, 0]) (pord_in_I l u L j (j)) (.ret) (pord_in_Z l u L j) := by
  exact VT.run (W := [.r [] [], .br true, .r [] [.row [i64 (L.getD j 0)]], .r [] [.op false, .op false, .op false, .sel 1], .br true, .r [] []]) (G := [.any (rg [(3, 1), (6, 4), (15, 9), (27, 1)]), .sort]) (by kernel_rfl) (.c (decide_eq_true (p := ((↑j : Int) < (↑L.length : Int))) (by omega)) <| .c (show 0 ≤ (↑j : Int) by omega) <| .c (map_at (row1 IntKind.i64) (0) (l := L) (i := j) hj) <| .c (show (decide (L.getD j 0 < 0) || decide (L.getD j 0 > (↑u : Int))) = true by (simp at *; omega)) <| .n)
theorem pord_in (l : List Nod) (u : Nat) (L : List Int) (j : Nat) (hl : L.length ≤ 2) (hj : j < L.length) (hf : ¬ (0 ≤ L.getD j 0 ∧ L.getD j 0 < (u : Int) + 1)) (h : ∀ k, k < j → 0 ≤ L.getD k 0 ∧ L.getD k 0 < (u : Int) + 1) : VT Try.prog (fnC Try.f80 [1, 0, 1, 0, 0, 1, 1, 0, 0, 1, 1, 0]) (pord_in_I l u L j 0) (.ret) (pord_in_Z l u L j) :=
  VT.loop (fun k => pord_in_I l u L j k) (j) (fun k hk => pord_in_s l u L j hl hj hf h k hk) (pord_in_e l u L j hl hj hf h) (by intro h; cases h)

noncomputable def pord_oy_I (l : List Nod) (k : Nat) : VS := stt 30 [(7, .sl 19 (l.map nodC)), (8, i64 l.length), (9, i64 k)] []
noncomputable def pord_oy_Z (l : List Nod) : VS := pord_oy_I l (l.length)
set_option maxRecDepth 100000 in
set_option maxHeartbeats 2000000 in
theorem pord_oy_s (l : List Nod) (hl : l.length ≤ 1000) (h : ∀ k : Nat, k < l.length → thereB (l.getD k default) ((k : Int) + 1) = true) (k : Nat) (hk : k < l.length) : VT Try.prog (fnC Try.f80 [1, 0, 1, 0, 0]) (pord_oy_I l k) .normal (pord_oy_I l (k + 1)) := by
  have q := (takes_in _ _).2 (h k hk)
  have q2 := takes_len (l.getD k default)
  have oz2 := (map_at (nodC) (default) (l := l) (i := k) hk)
  have oz3 := @pvalues_v (l.getD k default)
  have oz4 := (Weak.int (k := .i64) (show (((↑(List.map (row1 IntKind.i64) (takesL (l.getD k default))).length : Int)) : Int) = ((↑(takesL (l.getD k default)).length : Int)) from (by (simp; done))))
  have oz6 := @pord_iy (l) (k) (takesL (l.getD k default)) (by omega) q
  exact VT.run (W := [.r [] [], .br true, .r [] [.row (sO oz2)], .r [] [.callr (rO oz3)], .code [.any (rg [(4, 1), (10, 5)]), .drop [4], .weak 16 (wO oz4), .weak 17 (i64 (↑0 : Int)), .sort] (Exit.exit 2) (zO oz6), .r [] [.n ((↑k : Int) + 1)]]) (G := [.any [3, 15, 16, 17, 29], .weak 9 (i64 (↑(k + 1) : Int)), .sort]) (by kernel_rfl) (.c (decide_eq_true (p := ((↑k : Int) < (↑l.length : Int))) (by omega)) <| .c (show 0 ≤ (↑k : Int) by omega) <| .c oz2 <| .c oz3 <| .c oz4 <| .c (Weak.int (k := .i64) (show ((0) : Int) = ((↑0 : Int)) from (by omega))) <| .c oz6 <| .c (IntWalk.i64_in ((↑k : Int) + 1) (by omega)) <| .c (Weak.int (k := .i64) (show (((↑k : Int) + 1) : Int) = ((↑(k + 1) : Int)) from (by omega))) <| .n)
set_option maxRecDepth 100000 in
set_option maxHeartbeats 2000000 in
theorem pord_oy_e (l : List Nod) (hl : l.length ≤ 1000) (h : ∀ k : Nat, k < l.length → thereB (l.getD k default) ((k : Int) + 1) = true) : VT Try.prog (fnC Try.f80 [1, 0, 1, 0, 0]) (pord_oy_I l (l.length)) (.exit 0) (pord_oy_Z l) := by
  exact VT.run (W := [.r [] [], .br false]) (G := [.any [10], .sort]) (by kernel_rfl) (.c (decide_eq_false (p := ((↑l.length : Int) < (↑l.length : Int))) (by omega)) <| .n)
theorem pord_oy (l : List Nod) (hl : l.length ≤ 1000) (h : ∀ k : Nat, k < l.length → thereB (l.getD k default) ((k : Int) + 1) = true) : VT Try.prog (fnC Try.f80 [1, 0, 1, 0]) (pord_oy_I l 0) (.exit 0) (pord_oy_Z l) :=
  VT.loop (fun k => pord_oy_I l k) (l.length) (fun k hk => pord_oy_s l hl h k hk) (pord_oy_e l hl h) (by intro h; cases h)

noncomputable def pord_on_I (l : List Nod) (m i : Nat) (k : Nat) : VS := stt 30 [(7, .sl 19 (l.map nodC)), (8, i64 l.length), (9, i64 k)] []
noncomputable def pord_on_Z (l : List Nod) (m i : Nat) : VS := stt 30 [(2, bv false)] []
set_option maxRecDepth 100000 in
set_option maxHeartbeats 2000000 in
theorem pord_on_s (l : List Nod) (m i : Nat) (hl : l.length ≤ 1000) (hm : m < l.length) (hj : i < (takesL (l.getD m default)).length) (hf : ¬ (0 ≤ (takesL (l.getD m default)).getD i 0 ∧ (takesL (l.getD m default)).getD i 0 < (m : Int) + 1)) (hi : ∀ k, k < i → 0 ≤ (takesL (l.getD m default)).getD k 0 ∧ (takesL (l.getD m default)).getD k 0 < (m : Int) + 1) (h : ∀ k : Nat, k < m → thereB (l.getD k default) ((k : Int) + 1) = true) (k : Nat) (hk : k < m) : VT Try.prog (fnC Try.f80 [1, 0, 1, 0, 0]) (pord_on_I l m i k) .normal (pord_on_I l m i (k + 1)) := by
  have q := (takes_in _ _).2 (h k hk)
  have q2 := takes_len (l.getD k default)
  have q3 : k < l.length := by omega
  have oz2 := (map_at (nodC) (default) (l := l) (i := k) q3)
  have oz3 := @pvalues_v (l.getD k default)
  have oz4 := (Weak.int (k := .i64) (show (((↑(List.map (row1 IntKind.i64) (takesL (l.getD k default))).length : Int)) : Int) = ((↑(takesL (l.getD k default)).length : Int)) from (by (simp; done))))
  have oz6 := @pord_iy (l) (k) (takesL (l.getD k default)) (by omega) q
  exact VT.run (W := [.r [] [], .br true, .r [] [.row (sO oz2)], .r [] [.callr (rO oz3)], .code [.any (rg [(4, 1), (10, 5)]), .drop [4], .weak 16 (wO oz4), .weak 17 (i64 (↑0 : Int)), .sort] (Exit.exit 2) (zO oz6), .r [] [.n ((↑k : Int) + 1)]]) (G := [.any [3, 15, 16, 17, 29], .weak 9 (i64 (↑(k + 1) : Int)), .sort]) (by kernel_rfl) (.c (decide_eq_true (p := ((↑k : Int) < (↑l.length : Int))) (by omega)) <| .c (show 0 ≤ (↑k : Int) by omega) <| .c oz2 <| .c oz3 <| .c oz4 <| .c (Weak.int (k := .i64) (show ((0) : Int) = ((↑0 : Int)) from (by omega))) <| .c oz6 <| .c (IntWalk.i64_in ((↑k : Int) + 1) (by omega)) <| .c (Weak.int (k := .i64) (show (((↑k : Int) + 1) : Int) = ((↑(k + 1) : Int)) from (by omega))) <| .n)
set_option maxRecDepth 100000 in
set_option maxHeartbeats 2000000 in
theorem pord_on_e (l : List Nod) (m i : Nat) (hl : l.length ≤ 1000) (hm : m < l.length) (hj : i < (takesL (l.getD m default)).length) (hf : ¬ (0 ≤ (takesL (l.getD m default)).getD i 0 ∧ (takesL (l.getD m default)).getD i 0 < (m : Int) + 1)) (hi : ∀ k, k < i → 0 ≤ (takesL (l.getD m default)).getD k 0 ∧ (takesL (l.getD m default)).getD k 0 < (m : Int) + 1) (h : ∀ k : Nat, k < m → thereB (l.getD k default) ((k : Int) + 1) = true) : VT Try.prog (fnC Try.f80 [1, 0, 1, 0, 0]) (pord_on_I l m i (m)) (.ret) (pord_on_Z l m i) := by
  have q2 := takes_len (l.getD m default)
  have oz2 := (map_at (nodC) (default) (l := l) (i := m) hm)
  have oz3 := @pvalues_v (l.getD m default)
  have oz4 := (Weak.int (k := .i64) (show (((↑(List.map (row1 IntKind.i64) (takesL (l.getD m default))).length : Int)) : Int) = ((↑(takesL (l.getD m default)).length : Int)) from (by (simp; done))))
  have oz6 := @pord_in (l) (m) (takesL (l.getD m default)) (i) (by omega) hj hf hi
  exact VT.run (W := [.r [] [], .br true, .r [] [.row (sO oz2)], .r [] [.callr (rO oz3)], .code [.any (rg [(4, 1), (10, 5)]), .drop [4], .weak 16 (wO oz4), .weak 17 (i64 (↑0 : Int)), .sort] (Exit.ret) (zO oz6)]) (G := [.sort]) (by kernel_rfl) (.c (decide_eq_true (p := ((↑m : Int) < (↑l.length : Int))) (by omega)) <| .c (show 0 ≤ (↑m : Int) by omega) <| .c oz2 <| .c oz3 <| .c oz4 <| .c (Weak.int (k := .i64) (show ((0) : Int) = ((↑0 : Int)) from (by omega))) <| .c oz6 <| .n)
theorem pord_on (l : List Nod) (m i : Nat) (hl : l.length ≤ 1000) (hm : m < l.length) (hj : i < (takesL (l.getD m default)).length) (hf : ¬ (0 ≤ (takesL (l.getD m default)).getD i 0 ∧ (takesL (l.getD m default)).getD i 0 < (m : Int) + 1)) (hi : ∀ k, k < i → 0 ≤ (takesL (l.getD m default)).getD k 0 ∧ (takesL (l.getD m default)).getD k 0 < (m : Int) + 1) (h : ∀ k : Nat, k < m → thereB (l.getD k default) ((k : Int) + 1) = true) : VT Try.prog (fnC Try.f80 [1, 0, 1, 0]) (pord_on_I l m i 0) (.ret) (pord_on_Z l m i) :=
  VT.loop (fun k => pord_on_I l m i k) (m) (fun k hk => pord_on_s l m i hl hm hj hf hi h k hk) (pord_on_e l m i hl hm hj hf hi h) (by intro h; cases h)

set_option maxRecDepth 100000 in
set_option maxHeartbeats 2000000 in
theorem pord_y (l : List Nod) (hl : l.length ≤ 1000) (h : ∀ k : Nat, k < l.length → thereB (l.getD k default) ((k : Int) + 1) = true) : VC Try.prog 80 ([.sl 19 (l.map nodC)]) (bv true) := by
  have oz2 := @pord_oy (l) hl h
  exact VC.run (fn := Try.f80) (W := [.r [] [], .r [] [], .code [.any [0, 2], .weak 8 (i64 (↑l.length : Int)), .weak 9 (i64 (↑0 : Int)), .sort] (Exit.exit 0) (zO oz2), .r [] []]) Try.func80 (by kernel_rfl) (.c (Weak.int (k := .i64) (show (((↑(List.map nodC l).length : Int)) : Int) = ((↑l.length : Int)) from (by (simp; done)))) <| .c (Weak.int (k := .i64) (show ((0) : Int) = ((↑0 : Int)) from (by omega))) <| .c oz2 <| .n)

set_option maxRecDepth 100000 in
set_option maxHeartbeats 2000000 in
theorem pord_n (l : List Nod) (m i : Nat) (hl : l.length ≤ 1000) (hm : m < l.length) (hj : i < (takesL (l.getD m default)).length) (hf : ¬ (0 ≤ (takesL (l.getD m default)).getD i 0 ∧ (takesL (l.getD m default)).getD i 0 < (m : Int) + 1)) (hi : ∀ k, k < i → 0 ≤ (takesL (l.getD m default)).getD k 0 ∧ (takesL (l.getD m default)).getD k 0 < (m : Int) + 1) (h : ∀ k : Nat, k < m → thereB (l.getD k default) ((k : Int) + 1) = true) : VC Try.prog 80 ([.sl 19 (l.map nodC)]) (bv false) := by
  have oz2 := @pord_on (l) (m) (i) hl hm hj hf hi h
  exact VC.run (fn := Try.f80) (W := [.r [] [], .r [] [], .code [.any [0, 2], .weak 8 (i64 (↑l.length : Int)), .weak 9 (i64 (↑0 : Int)), .sort] (Exit.ret) (zO oz2)]) Try.func80 (by kernel_rfl) (.c (Weak.int (k := .i64) (show (((↑(List.map nodC l).length : Int)) : Int) = ((↑l.length : Int)) from (by (simp; done)))) <| .c (Weak.int (k := .i64) (show ((0) : Int) = ((↑0 : Int)) from (by omega))) <| .c oz2 <| .n)
theorem ordered_iff (l : List Nod) : orderedB l = true ↔ ∀ k : Nat, k < l.length → thereB (l.getD k default) ((k : Int) + 1) = true := by
  unfold orderedB; rw [List.all_eq_true]; simp only [List.mem_range]
theorem pord_v (l : List Nod) (hl : l.length ≤ 1000) : VC Try.prog 80 [.sl 19 (l.map nodC)] (bv (orderedB l)) := by
  rcases all_or (fun k => thereB (l.getD k default) ((k : Int) + 1)) l.length with h | ⟨m, h1, h2, h3⟩
  · rw [(ordered_iff l).2 h]; exact pord_y l hl h
  · have : orderedB l = false := by
      cases e : orderedB l with
      | false => rfl
      | true => have := (ordered_iff l).1 e m h1; rw [h2] at this; cases this
    rw [this]
    rcases all_or (fun k => decide (0 ≤ (takesL (l.getD m default)).getD k 0 ∧ (takesL (l.getD m default)).getD k 0 < (m : Int) + 1)) (takesL (l.getD m default)).length with g | ⟨i, g1, g2, g3⟩
    · have := (takes_there (l.getD m default) ((m : Int) + 1)).1 g; rw [h2] at this; cases this
    · exact pord_n l m i hl h1 g1 (of_decide_eq_false g2) (fun k hk => of_decide_eq_true (g3 k hk)) h3
noncomputable def rord_ly_I (l : List Nod) (k : Nat) : VS := stt 18 [(0, .sl 19 (l.map nodC)), (3, i64 k)] []
noncomputable def rord_ly_Z (l : List Nod) : VS := rord_ly_I l (l.length)
set_option maxRecDepth 100000 in
set_option maxHeartbeats 2000000 in
theorem rord_ly_s (l : List Nod) (hl : l.length ≤ 1000) (h : ∀ k : Nat, k < l.length → thereB (l.getD k default) ((k : Int) + 1) = true) (k : Nat) (hk : k < l.length) : VT Try.prog (fnC Try.f82 [1, 0, 1, 0, 0]) (rord_ly_I l k) .normal (rord_ly_I l (k + 1)) := by
  have q := h k hk
  have oz2 := (map_at (nodC) (default) (l := l) (i := k) hk)
  have oz3 := (IntWalk.i64_in ((↑k : Int) + 1) (by omega))
  have oz4 := @refThere_v (l.getD k default) ((↑k : Int) + 1)
  exact VT.run (W := [.r [] [], .br true, .r [] [.row (sO oz2), .n (nO oz3), .callr (rO oz4)], .br false, .r [] [.n (nO oz3)]]) (G := [.any (rg [(4, 14)]), .weak 3 (i64 (↑(k + 1) : Int)), .sort]) (by kernel_rfl) (.c (show decide ((↑k : Int) < (↑(List.map nodC l).length : Int)) = true by (simp; omega)) <| .c (show 0 ≤ (↑k : Int) by omega) <| .c oz2 <| .c oz3 <| .c oz4 <| .c (show (!thereB (l.getD k default) ((↑k : Int) + 1)) = false by (simp at *; omega)) <| .c oz3 <| .c (Weak.int (k := .i64) (show (((↑k : Int) + 1) : Int) = ((↑(k + 1) : Int)) from (by omega))) <| .n)
set_option maxRecDepth 100000 in
set_option maxHeartbeats 2000000 in
theorem rord_ly_e (l : List Nod) (hl : l.length ≤ 1000) (h : ∀ k : Nat, k < l.length → thereB (l.getD k default) ((k : Int) + 1) = true) : VT Try.prog (fnC Try.f82 [1, 0, 1, 0, 0]) (rord_ly_I l (l.length)) (.exit 0) (rord_ly_Z l) := by
  exact VT.run (W := [.r [] [], .br false]) (G := [.any [4, 5, 6, 7], .sort]) (by kernel_rfl) (.c (show decide ((↑l.length : Int) < (↑(List.map nodC l).length : Int)) = false by (simp; done)) <| .n)
theorem rord_ly (l : List Nod) (hl : l.length ≤ 1000) (h : ∀ k : Nat, k < l.length → thereB (l.getD k default) ((k : Int) + 1) = true) : VT Try.prog (fnC Try.f82 [1, 0, 1, 0]) (rord_ly_I l 0) (.exit 0) (rord_ly_Z l) :=
  VT.loop (fun k => rord_ly_I l k) (l.length) (fun k hk => rord_ly_s l hl h k hk) (rord_ly_e l hl h) (by intro h; cases h)

noncomputable def rord_ln_I (l : List Nod) (m : Nat) (k : Nat) : VS := stt 18 [(0, .sl 19 (l.map nodC)), (3, i64 k)] []
noncomputable def rord_ln_Z (l : List Nod) (m : Nat) : VS := stt 18 [(2, bv false)] []
set_option maxRecDepth 100000 in
set_option maxHeartbeats 2000000 in
theorem rord_ln_s (l : List Nod) (m : Nat) (hl : l.length ≤ 1000) (hm : m < l.length) (hf : thereB (l.getD m default) ((m : Int) + 1) = false) (h : ∀ k : Nat, k < m → thereB (l.getD k default) ((k : Int) + 1) = true) (k : Nat) (hk : k < m) : VT Try.prog (fnC Try.f82 [1, 0, 1, 0, 0]) (rord_ln_I l m k) .normal (rord_ln_I l m (k + 1)) := by
  have q := h k hk
  have oz2 := (map_at (nodC) (default) (l := l) (i := k) (by omega))
  have oz3 := (IntWalk.i64_in ((↑k : Int) + 1) (by omega))
  have oz4 := @refThere_v (l.getD k default) ((↑k : Int) + 1)
  exact VT.run (W := [.r [] [], .br true, .r [] [.row (sO oz2), .n (nO oz3), .callr (rO oz4)], .br false, .r [] [.n (nO oz3)]]) (G := [.any (rg [(4, 14)]), .weak 3 (i64 (↑(k + 1) : Int)), .sort]) (by kernel_rfl) (.c (show decide ((↑k : Int) < (↑(List.map nodC l).length : Int)) = true by (simp; omega)) <| .c (show 0 ≤ (↑k : Int) by omega) <| .c oz2 <| .c oz3 <| .c oz4 <| .c (show (!thereB (l.getD k default) ((↑k : Int) + 1)) = false by (simp at *; omega)) <| .c oz3 <| .c (Weak.int (k := .i64) (show (((↑k : Int) + 1) : Int) = ((↑(k + 1) : Int)) from (by omega))) <| .n)
set_option maxRecDepth 100000 in
set_option maxHeartbeats 2000000 in
theorem rord_ln_e (l : List Nod) (m : Nat) (hl : l.length ≤ 1000) (hm : m < l.length) (hf : thereB (l.getD m default) ((m : Int) + 1) = false) (h : ∀ k : Nat, k < m → thereB (l.getD k default) ((k : Int) + 1) = true) : VT Try.prog (fnC Try.f82 [1, 0, 1, 0, 0]) (rord_ln_I l m (m)) (.ret) (rord_ln_Z l m) := by
  have oz2 := (map_at (nodC) (default) (l := l) (i := m) hm)
  have oz4 := @refThere_v (l.getD m default) ((↑m : Int) + 1)
  exact VT.run (W := [.r [] [], .br true, .r [] [.row (sO oz2), .n ((↑m : Int) + 1), .callr (rO oz4)], .br true, .r [] []]) (G := [.any (rg [(0, 1), (3, 5), (10, 8)]), .sort]) (by kernel_rfl) (.c (show decide ((↑m : Int) < (↑(List.map nodC l).length : Int)) = true by (simp; omega)) <| .c (show 0 ≤ (↑m : Int) by omega) <| .c oz2 <| .c (IntWalk.i64_in ((↑m : Int) + 1) (by omega)) <| .c oz4 <| .c (show (!thereB (l.getD m default) ((↑m : Int) + 1)) = true by (simp at *; omega)) <| .n)
theorem rord_ln (l : List Nod) (m : Nat) (hl : l.length ≤ 1000) (hm : m < l.length) (hf : thereB (l.getD m default) ((m : Int) + 1) = false) (h : ∀ k : Nat, k < m → thereB (l.getD k default) ((k : Int) + 1) = true) : VT Try.prog (fnC Try.f82 [1, 0, 1, 0]) (rord_ln_I l m 0) (.ret) (rord_ln_Z l m) :=
  VT.loop (fun k => rord_ln_I l m k) (m) (fun k hk => rord_ln_s l m hl hm hf h k hk) (rord_ln_e l m hl hm hf h) (by intro h; cases h)

set_option maxRecDepth 100000 in
set_option maxHeartbeats 2000000 in
theorem rord_y (l : List Nod) (hl : l.length ≤ 1000) (h : ∀ k : Nat, k < l.length → thereB (l.getD k default) ((k : Int) + 1) = true) : VC Try.prog 82 ([.sl 19 (l.map nodC)]) (bv true) := by
  have oz1 := @rord_ly (l) hl h
  exact VC.run (fn := Try.f82) (W := [.r [] [], .r [] [], .code [.any [2], .weak 3 (i64 (↑0 : Int)), .sort] (Exit.exit 0) (zO oz1), .r [] []]) Try.func82 (by kernel_rfl) (.c (Weak.int (k := .i64) (show ((0) : Int) = ((↑0 : Int)) from (by omega))) <| .c oz1 <| .n)

set_option maxRecDepth 100000 in
set_option maxHeartbeats 2000000 in
theorem rord_n (l : List Nod) (m : Nat) (hl : l.length ≤ 1000) (hm : m < l.length) (hf : thereB (l.getD m default) ((m : Int) + 1) = false) (h : ∀ k : Nat, k < m → thereB (l.getD k default) ((k : Int) + 1) = true) : VC Try.prog 82 ([.sl 19 (l.map nodC)]) (bv false) := by
  have oz1 := @rord_ln (l) (m) hl hm hf h
  exact VC.run (fn := Try.f82) (W := [.r [] [], .r [] [], .code [.any [2], .weak 3 (i64 (↑0 : Int)), .sort] (Exit.ret) (zO oz1)]) Try.func82 (by kernel_rfl) (.c (Weak.int (k := .i64) (show ((0) : Int) = ((↑0 : Int)) from (by omega))) <| .c oz1 <| .n)
theorem rord_v (l : List Nod) (hl : l.length ≤ 1000) : VC Try.prog 82 [.sl 19 (l.map nodC)] (bv (orderedB l)) := by
  rcases all_or (fun k => thereB (l.getD k default) ((k : Int) + 1)) l.length with h | ⟨m, h1, h2, h3⟩
  · rw [(ordered_iff l).2 h]; exact rord_y l hl h
  · have : orderedB l = false := by
      cases e : orderedB l with
      | false => rfl
      | true => have := (ordered_iff l).1 e m h1; rw [h2] at this; cases this
    rw [this]; exact rord_n l m hl h1 h2 h3
set_option maxRecDepth 100000 in
set_option maxHeartbeats 2000000 in
theorem rtakes_v (n : Nod) (v : Int)  : VC Try.prog 146 ([nod n, i64 v]) (bv (takesB n v)) := by
  exact (VC.run (fn := Try.f146) (W := [.r [] [], .r [] [.op false, .op false, .op false, .op false, .op false, .op false, .op false, .op false, .op false, .sel 2, .sel 1]]) (r := bv (n.na == v || n.kd == 6 && n.nb == v)) Try.func146 (by kernel_rfl) (.n)).weak (WeakL.refl _) (Weak.bool (show ((n.na == v || n.kd == 6 && n.nb == v) : Bool) = (takesB n v) from (by (exact rfl))))

noncomputable def is_ly_I (l : List Nod) (i : Nat) (k : Nat) : VS := stt 31 [(0, .sl 19 (l.map nodC)), (1, i64 i), (5, i64 ((i + 1 + k : Nat) : Int))] []
noncomputable def is_ly_Z (l : List Nod) (i : Nat) : VS := is_ly_I l i (l.length - (i + 1))
set_option maxRecDepth 100000 in
set_option maxHeartbeats 2000000 in
theorem is_ly_s (l : List Nod) (i : Nat) (hl : l.length ≤ 1000) (hi : i < l.length) (IH : ∀ j : Nat, i < j → j < l.length → VC Try.prog 86 [.sl 19 (l.map nodC), i64 j] (bv (usedB l j))) (h : ∀ k, k < l.length - (i + 1) → (takesB (l.getD (i + 1 + k) default) ((i : Int) + 1) && usedB l (i + 1 + k)) = false) (k : Nat) (hk : k < l.length - (i + 1)) : VT Try.prog (fnC Try.f86 [1, 1, 0, 1, 0, 0]) (is_ly_I l i k) .normal (is_ly_I l i (k + 1)) := by
  have q := h k hk
  have oz2 := (map_at (nodC) (default) (l := l) (i := i + 1 + k) (by omega))
  have oz4 := @rtakes_v (l.getD (i + 1 + k) default) ((↑i : Int) + 1)
  have oz5 := @IH (i + 1 + k) (by omega) (by omega)
  exact VT.run (W := [.r [] [], .br true, .r [] [.row (sO oz2), .n ((↑i : Int) + 1), .callr (rO oz4), .op false, .op false, .op false, .callr (rO oz5), .sel 2], .br false, .r [] [.n ((↑(i + 1 + k) : Int) + 1)]]) (G := [.any (rg [(13, 14), (30, 1)]), .weak 5 (i64 (↑(i + 1 + (k + 1)) : Int)), .sort]) (by kernel_rfl) (.c (show decide ((↑(i + 1 + k) : Int) < (↑(List.map nodC l).length : Int)) = true by (simp; omega)) <| .c (show 0 ≤ (↑(i + 1 + k) : Int) by omega) <| .c oz2 <| .c (IntWalk.i64_in ((↑i : Int) + 1) (by omega)) <| .c oz4 <| .c oz5 <| .c q <| .c (IntWalk.i64_in ((↑(i + 1 + k) : Int) + 1) (by omega)) <| .c (Weak.int (k := .i64) (show (((↑(i + 1 + k) : Int) + 1) : Int) = ((↑(i + 1 + (k + 1)) : Int)) from (by omega))) <| .n)
set_option maxRecDepth 100000 in
set_option maxHeartbeats 2000000 in
theorem is_ly_e (l : List Nod) (i : Nat) (hl : l.length ≤ 1000) (hi : i < l.length) (IH : ∀ j : Nat, i < j → j < l.length → VC Try.prog 86 [.sl 19 (l.map nodC), i64 j] (bv (usedB l j))) (h : ∀ k, k < l.length - (i + 1) → (takesB (l.getD (i + 1 + k) default) ((i : Int) + 1) && usedB l (i + 1 + k)) = false) : VT Try.prog (fnC Try.f86 [1, 1, 0, 1, 0, 0]) (is_ly_I l i (l.length - (i + 1))) (.exit 0) (is_ly_Z l i) := by
  exact VT.run (W := [.r [] [], .br false]) (G := [.any (rg [(13, 4)]), .sort]) (by kernel_rfl) (.c (show decide ((↑(i + 1 + (l.length - (i + 1))) : Int) < (↑(List.map nodC l).length : Int)) = false by (simp; omega)) <| .n)
theorem is_ly (l : List Nod) (i : Nat) (hl : l.length ≤ 1000) (hi : i < l.length) (IH : ∀ j : Nat, i < j → j < l.length → VC Try.prog 86 [.sl 19 (l.map nodC), i64 j] (bv (usedB l j))) (h : ∀ k, k < l.length - (i + 1) → (takesB (l.getD (i + 1 + k) default) ((i : Int) + 1) && usedB l (i + 1 + k)) = false) : VT Try.prog (fnC Try.f86 [1, 1, 0, 1, 0]) (is_ly_I l i 0) (.exit 0) (is_ly_Z l i) :=
  VT.loop (fun k => is_ly_I l i k) (l.length - (i + 1)) (fun k hk => is_ly_s l i hl hi IH h k hk) (is_ly_e l i hl hi IH h) (by intro h; cases h)

noncomputable def is_ln_I (l : List Nod) (i m : Nat) (k : Nat) : VS := stt 31 [(0, .sl 19 (l.map nodC)), (1, i64 i), (5, i64 ((i + 1 + k : Nat) : Int))] []
noncomputable def is_ln_Z (l : List Nod) (i m : Nat) : VS := stt 31 [(4, bv true)] []
set_option maxRecDepth 100000 in
set_option maxHeartbeats 2000000 in
theorem is_ln_s (l : List Nod) (i m : Nat) (hl : l.length ≤ 1000) (hi : i < l.length) (IH : ∀ j : Nat, i < j → j < l.length → VC Try.prog 86 [.sl 19 (l.map nodC), i64 j] (bv (usedB l j))) (hm : m < l.length - (i + 1)) (hf : (takesB (l.getD (i + 1 + m) default) ((i : Int) + 1) && usedB l (i + 1 + m)) = true) (h : ∀ k, k < m → (takesB (l.getD (i + 1 + k) default) ((i : Int) + 1) && usedB l (i + 1 + k)) = false) (k : Nat) (hk : k < m) : VT Try.prog (fnC Try.f86 [1, 1, 0, 1, 0, 0]) (is_ln_I l i m k) .normal (is_ln_I l i m (k + 1)) := by
  have q := h k hk
  have oz2 := (map_at (nodC) (default) (l := l) (i := i + 1 + k) (by omega))
  have oz4 := @rtakes_v (l.getD (i + 1 + k) default) ((↑i : Int) + 1)
  have oz5 := @IH (i + 1 + k) (by omega) (by omega)
  exact VT.run (W := [.r [] [], .br true, .r [] [.row (sO oz2), .n ((↑i : Int) + 1), .callr (rO oz4), .op false, .op false, .op false, .callr (rO oz5), .sel 2], .br false, .r [] [.n ((↑(i + 1 + k) : Int) + 1)]]) (G := [.any (rg [(13, 14), (30, 1)]), .weak 5 (i64 (↑(i + 1 + (k + 1)) : Int)), .sort]) (by kernel_rfl) (.c (show decide ((↑(i + 1 + k) : Int) < (↑(List.map nodC l).length : Int)) = true by (simp; omega)) <| .c (show 0 ≤ (↑(i + 1 + k) : Int) by omega) <| .c oz2 <| .c (IntWalk.i64_in ((↑i : Int) + 1) (by omega)) <| .c oz4 <| .c oz5 <| .c q <| .c (IntWalk.i64_in ((↑(i + 1 + k) : Int) + 1) (by omega)) <| .c (Weak.int (k := .i64) (show (((↑(i + 1 + k) : Int) + 1) : Int) = ((↑(i + 1 + (k + 1)) : Int)) from (by omega))) <| .n)
set_option maxRecDepth 100000 in
set_option maxHeartbeats 2000000 in
theorem is_ln_e (l : List Nod) (i m : Nat) (hl : l.length ≤ 1000) (hi : i < l.length) (IH : ∀ j : Nat, i < j → j < l.length → VC Try.prog 86 [.sl 19 (l.map nodC), i64 j] (bv (usedB l j))) (hm : m < l.length - (i + 1)) (hf : (takesB (l.getD (i + 1 + m) default) ((i : Int) + 1) && usedB l (i + 1 + m)) = true) (h : ∀ k, k < m → (takesB (l.getD (i + 1 + k) default) ((i : Int) + 1) && usedB l (i + 1 + k)) = false) : VT Try.prog (fnC Try.f86 [1, 1, 0, 1, 0, 0]) (is_ln_I l i m (m)) (.ret) (is_ln_Z l i m) := by
  have oz2 := (map_at (nodC) (default) (l := l) (i := i + 1 + m) (by omega))
  have oz4 := @rtakes_v (l.getD (i + 1 + m) default) ((↑i : Int) + 1)
  have oz5 := @IH (i + 1 + m) (by omega) (by omega)
  exact VT.run (W := [.r [] [], .br true, .r [] [.row (sO oz2), .n ((↑i : Int) + 1), .callr (rO oz4), .op false, .op false, .op false, .callr (rO oz5), .sel 2], .br true, .r [] []]) (G := [.any (rg [(0, 2), (5, 1), (13, 4), (19, 8), (30, 1)]), .sort]) (by kernel_rfl) (.c (show decide ((↑(i + 1 + m) : Int) < (↑(List.map nodC l).length : Int)) = true by (simp; omega)) <| .c (show 0 ≤ (↑(i + 1 + m) : Int) by omega) <| .c oz2 <| .c (IntWalk.i64_in ((↑i : Int) + 1) (by omega)) <| .c oz4 <| .c oz5 <| .c hf <| .n)
theorem is_ln (l : List Nod) (i m : Nat) (hl : l.length ≤ 1000) (hi : i < l.length) (IH : ∀ j : Nat, i < j → j < l.length → VC Try.prog 86 [.sl 19 (l.map nodC), i64 j] (bv (usedB l j))) (hm : m < l.length - (i + 1)) (hf : (takesB (l.getD (i + 1 + m) default) ((i : Int) + 1) && usedB l (i + 1 + m)) = true) (h : ∀ k, k < m → (takesB (l.getD (i + 1 + k) default) ((i : Int) + 1) && usedB l (i + 1 + k)) = false) : VT Try.prog (fnC Try.f86 [1, 1, 0, 1, 0]) (is_ln_I l i m 0) (.ret) (is_ln_Z l i m) :=
  VT.loop (fun k => is_ln_I l i m k) (m) (fun k hk => is_ln_s l i m hl hi IH hm hf h k hk) (is_ln_e l i m hl hi IH hm hf h) (by intro h; cases h)

set_option maxRecDepth 100000 in
set_option maxHeartbeats 2000000 in
theorem is_l (l : List Nod) (i : Nat) (hl : l.length ≤ 1000) (hi : i + 1 = l.length) : VC Try.prog 86 ([.sl 19 (l.map nodC), i64 i]) (bv true) := by
  have q0 : (List.map nodC l).length = l.length := List.length_map _
  have oz0 := (IntWalk.i64_in ((↑(List.map nodC l).length : Int) - 1) (by omega))
  exact VC.run (fn := Try.f86) (W := [.r [] [], .r [] [.n (nO oz0)], .br true, .r [] []]) Try.func86 (by kernel_rfl) (.c oz0 <| .c (show ((↑i : Int) == (↑(List.map nodC l).length : Int) - 1) = true by (refine decide_eq_true ?_; omega)) <| .n)

set_option maxRecDepth 100000 in
set_option maxHeartbeats 2000000 in
theorem is_y (l : List Nod) (i m : Nat) (hl : l.length ≤ 1000) (hi : i + 1 < l.length) (IH : ∀ j : Nat, i < j → j < l.length → VC Try.prog 86 [.sl 19 (l.map nodC), i64 j] (bv (usedB l j))) (hm : m < l.length - (i + 1)) (hf : (takesB (l.getD (i + 1 + m) default) ((i : Int) + 1) && usedB l (i + 1 + m)) = true) (h : ∀ k, k < m → (takesB (l.getD (i + 1 + k) default) ((i : Int) + 1) && usedB l (i + 1 + k)) = false) : VC Try.prog 86 ([.sl 19 (l.map nodC), i64 i]) (bv true) := by
  have q0 : (List.map nodC l).length = l.length := List.length_map _
  have oz0 := (IntWalk.i64_in ((↑(List.map nodC l).length : Int) - 1) (by omega))
  have oz4 := @is_ln (l) (i) (m) hl (by omega) IH hm hf h
  exact VC.run (fn := Try.f86) (W := [.r [] [], .r [] [.n (nO oz0)], .br false, .r [] [.n ((↑i : Int) + 1)], .code [.any (rg [(4, 1), (6, 7)]), .weak 5 (i64 (↑(i + 1 + 0) : Int)), .sort] (Exit.ret) (zO oz4)]) Try.func86 (by kernel_rfl) (.c oz0 <| .c (show ((↑i : Int) == (↑(List.map nodC l).length : Int) - 1) = false by (refine decide_eq_false ?_; omega)) <| .c (IntWalk.i64_in ((↑i : Int) + 1) (by omega)) <| .c (Weak.int (k := .i64) (show (((↑i : Int) + 1) : Int) = ((↑(i + 1 + 0) : Int)) from (by omega))) <| .c oz4 <| .n)

set_option maxRecDepth 100000 in
set_option maxHeartbeats 2000000 in
theorem is_n (l : List Nod) (i : Nat) (hl : l.length ≤ 1000) (hi : i + 1 < l.length) (IH : ∀ j : Nat, i < j → j < l.length → VC Try.prog 86 [.sl 19 (l.map nodC), i64 j] (bv (usedB l j))) (h : ∀ k, k < l.length - (i + 1) → (takesB (l.getD (i + 1 + k) default) ((i : Int) + 1) && usedB l (i + 1 + k)) = false) : VC Try.prog 86 ([.sl 19 (l.map nodC), i64 i]) (bv false) := by
  have q0 : (List.map nodC l).length = l.length := List.length_map _
  have oz0 := (IntWalk.i64_in ((↑(List.map nodC l).length : Int) - 1) (by omega))
  have oz4 := @is_ly (l) (i) hl (by omega) IH h
  exact VC.run (fn := Try.f86) (W := [.r [] [], .r [] [.n (nO oz0)], .br false, .r [] [.n ((↑i : Int) + 1)], .code [.any (rg [(4, 1), (6, 7)]), .weak 5 (i64 (↑(i + 1 + 0) : Int)), .sort] (Exit.exit 0) (zO oz4), .r [] []]) Try.func86 (by kernel_rfl) (.c oz0 <| .c (show ((↑i : Int) == (↑(List.map nodC l).length : Int) - 1) = false by (refine decide_eq_false ?_; omega)) <| .c (IntWalk.i64_in ((↑i : Int) + 1) (by omega)) <| .c (Weak.int (k := .i64) (show (((↑i : Int) + 1) : Int) = ((↑(i + 1 + 0) : Int)) from (by omega))) <| .c oz4 <| .n)
theorem is_v (l : List Nod) (hl : l.length ≤ 1000) : ∀ (d i : Nat), l.length - i = d → i < l.length → VC Try.prog 86 [.sl 19 (l.map nodC), i64 i] (bv (usedB l i)) := by
  intro d
  induction d using Nat.strongRecOn with
  | _ d ih =>
    intro i hd hi
    by_cases e : i + 1 = l.length
    · rw [(used_iff hi).2 (.inl e)]; exact is_l l i hl e
    · have IH : ∀ j : Nat, i < j → j < l.length → VC Try.prog 86 [.sl 19 (l.map nodC), i64 j] (bv (usedB l j)) := fun j h1 h2 => ih (l.length - j) (by omega) j rfl h2
      rcases all_or (fun k => !(takesB (l.getD (i + 1 + k) default) ((i : Int) + 1) && usedB l (i + 1 + k))) (l.length - (i + 1)) with h | ⟨m, h1, h2, h3⟩
      · have : usedB l i = false := by
          cases eq : usedB l i with
          | false => rfl
          | true =>
            rcases (used_iff hi).1 eq with h9 | ⟨j, g1, g2, g3, g4⟩
            · exact absurd h9 e
            · have := h (j - (i + 1)) (by omega)
              rw [show i + 1 + (j - (i + 1)) = j by omega, g3, g4] at this; cases this
        rw [this]; exact is_n l i hl (by omega) IH fun k hk => by simpa only [Bool.not_eq_true'] using h k hk
      · have h2' : (takesB (l.getD (i + 1 + m) default) ((i : Int) + 1) && usedB l (i + 1 + m)) = true := by simpa using h2
        have h4 := h2'
        simp only [Bool.and_eq_true] at h4
        rw [(used_iff hi).2 (.inr ⟨i + 1 + m, by omega, by omega, h4.2, h4.1⟩)]
        exact is_y l i m hl (by omega) IH h1 h2' fun k hk => by simpa only [Bool.not_eq_true'] using h3 k hk
theorem rIs_v (l : List Nod) (i : Nat) (hl : l.length ≤ 1000) (hi : i < l.length) : VC Try.prog 86 [.sl 19 (l.map nodC), i64 i] (bv (usedB l i)) := is_v l hl _ i rfl hi
end Go.Proofs.Ytgecmooedhnenaa

