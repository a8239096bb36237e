/- Texts of this claim, put together: PbC, PbD, PbF, PnR, PnA, PnC, PbR, PbE. No condition. -/
import Derived.Test.YtgecmooedhnenaaPackBlocksG6
set_option linter.unusedVariables false
set_option linter.unusedSimpArgs false
set_option linter.unnecessarySimpa false
set_option maxRecDepth 100000
set_option maxHeartbeats 2000000
/- A block's bytes, by the program and by the document. No condition. -/
namespace Go.Proofs.Ytgecmooedhnenaa
open Go.RowKit
set_option linter.unusedSimpArgs false
set_option linter.unusedVariables false
set_option linter.unnecessarySimpa false
noncomputable def pblk_y_I (x : Blc) (B : List Int) (k : Nat) : VS := stt 59 [(1, .ptr 1 0 0), (4, .ptr 16 0 0), (23, .sl 19 (x.n.map nodC)), (24, i64 x.n.length), (25, i64 k)] [(1, .var (blcC x)), (16, .var [.own 900]), (900, .slc 5 1 ((accB x.n B k).map (row1 .u8)))]
noncomputable def pblk_y_Z (x : Blc) (B : List Int) : VS := pblk_y_I x B (x.n.length)
theorem pblk_y_s (x : Blc) (B : List Int) (hn : Nods x.n) (hl : x.n.length ≤ 8) (hB : B.length ≤ 10) (h : ∀ k, k < x.n.length → (nodeR (x.n.getD k default)).2 = 0) (k : Nat) (hk : k < x.n.length) : VT Try.prog (fnC Try.f46 [1, 1, 1, 1, 1, 0, 1, 0, 0]) (pblk_y_I x B k) .normal (pblk_y_I x B (k + 1)) := by
  have q := h k hk
  have q1 := getD_in hn.ok hk
  obtain ⟨q2, q3⟩ := getD_in hn.w hk
  have q4 := accB_le hn B (Nat.le_of_lt hk)
  have q5 := nodeR_le _ q1
  have q6 : (x.n.getD k default).w.length ≤ 100000 := by omega
  have q7 : (x.n.getD k default).b.length ≤ 100000 := by omega
  have oz2 := (map_at (nodC) (default) (l := x.n) (i := k) hk)
  have oz3 := @pnode_v (x.n.getD k default) q1 q6 q7
  exact VT.run (W := [.r [] [], .br true, .r [] [.row (sO oz2)], .r [] [.callr (rO oz3)], .r [] [], .br false, .r [] [], .r [] [.n ((↑k : Int) + 1)]]) (G := [.any (rg [(7, 3), (26, 10), (37, 10)]), .drop [7], .ren 43 900, .weak 25 (i64 (↑(k + 1) : Int)), .blk 900 (Blk.slc 5 1 (List.map (row1 IntKind.u8) (accB x.n B (k + 1)))), .sort]) (by kernel_rfl) (.c (decide_eq_true (p := ((↑k : Int) < (↑x.n.length : Int))) (by omega)) <| .c (show 0 ≤ (↑k : Int) by omega) <| .c oz2 <| .c oz3 <| .c (show ((nodeR (x.n.getD k default)).snd != 0) = false by (simp at *; omega)) <| .c (show ((List.map (row1 IntKind.u8) (accB x.n B k)).length + (List.map (row1 IntKind.u8) (nodeR (x.n.getD k default)).fst).length) * 1 ≤ 140737488355328 by (simp only [List.length_map]; omega)) <| .c (show (List.map (row1 IntKind.u8) (accB x.n B k)).length + (List.map (row1 IntKind.u8) (nodeR (x.n.getD k default)).fst).length ≤ 9223372036854775807 by (simp only [List.length_map]; omega)) <| .c (IntWalk.i64_in ((↑k : Int) + 1) (by omega)) <| .c (Weak.int (k := .i64) (show (((↑k : Int) + 1) : Int) = ((↑(k + 1) : Int)) from (by omega))) <| .c (show BlkW (Blk.slc 5 1 (List.map (row1 IntKind.u8) (accB x.n B k) ++ List.map (row1 IntKind.u8) (nodeR (x.n.getD k default)).fst)) (Blk.slc 5 1 (List.map (row1 IntKind.u8) (accB x.n B (k + 1)))) from (BlkW.rows (e := 5) (z := 1) (rows_to (row1 IntKind.u8) (r := List.map (row1 IntKind.u8) (accB x.n B k) ++ List.map (row1 IntKind.u8) (nodeR (x.n.getD k default)).fst) (l := accB x.n B k ++ (nodeR (x.n.getD k default)).fst) (m := accB x.n B (k + 1)) (by first | (simp only [List.map_append, List.map_cons, List.map_nil, List.map_set, List.map_replicate, List.map_take, List.map_drop]; done) | rfl | (simp only [List.map_append, List.map_cons, List.map_nil, List.map_set, List.map_replicate, List.map_take, List.map_drop]; rfl)) (show (accB x.n B k ++ (nodeR (x.n.getD k default)).fst) = (accB x.n B (k + 1)) from (by rfl))))) <| .n)
theorem pblk_y_e (x : Blc) (B : List Int) (hn : Nods x.n) (hl : x.n.length ≤ 8) (hB : B.length ≤ 10) (h : ∀ k, k < x.n.length → (nodeR (x.n.getD k default)).2 = 0) : VT Try.prog (fnC Try.f46 [1, 1, 1, 1, 1, 0, 1, 0, 0]) (pblk_y_I x B (x.n.length)) (.exit 0) (pblk_y_Z x B) := by
  exact VT.run (W := [.r [] [], .br false]) (G := [.any [26], .sort]) (by kernel_rfl) (.c (decide_eq_false (p := ((↑x.n.length : Int) < (↑x.n.length : Int))) (by omega)) <| .n)
theorem pblk_y (x : Blc) (B : List Int) (hn : Nods x.n) (hl : x.n.length ≤ 8) (hB : B.length ≤ 10) (h : ∀ k, k < x.n.length → (nodeR (x.n.getD k default)).2 = 0) : VT Try.prog (fnC Try.f46 [1, 1, 1, 1, 1, 0, 1, 0]) (pblk_y_I x B 0) (.exit 0) (pblk_y_Z x B) :=
  VT.loop (fun k => pblk_y_I x B k) (x.n.length) (fun k hk => pblk_y_s x B hn hl hB h k hk) (pblk_y_e x B hn hl hB h) (by intro h; cases h)
noncomputable def pblk_n_I (x : Blc) (B : List Int) (m : Nat) (k : Nat) : VS := stt 59 [(1, .ptr 1 0 0), (4, .ptr 16 0 0), (23, .sl 19 (x.n.map nodC)), (24, i64 x.n.length), (25, i64 k)] [(1, .var (blcC x)), (16, .var [.own 900]), (900, .slc 5 1 ((accB x.n B k).map (row1 .u8)))]
noncomputable def pblk_n_Z (x : Blc) (B : List Int) (m : Nat) : VS := stt 59 [(2, nilv), (3, i64 (nodeR (x.n.getD m default)).2)] []
theorem pblk_n_s (x : Blc) (B : List Int) (m : Nat) (hn : Nods x.n) (hl : x.n.length ≤ 8) (hB : B.length ≤ 10) (hm : m < x.n.length) (hf : (nodeR (x.n.getD m default)).2 ≠ 0) (h : ∀ k, k < m → (nodeR (x.n.getD k default)).2 = 0) (k : Nat) (hk : k < m) : VT Try.prog (fnC Try.f46 [1, 1, 1, 1, 1, 0, 1, 0, 0]) (pblk_n_I x B m k) .normal (pblk_n_I x B m (k + 1)) := by
  have q := h k hk
  have q0 : k < x.n.length := by omega
  have q1 := getD_in hn.ok q0
  obtain ⟨q2, q3⟩ := getD_in hn.w q0
  have q4 := accB_le hn B (Nat.le_of_lt q0)
  have q5 := nodeR_le _ q1
  have q6 : (x.n.getD k default).w.length ≤ 100000 := by omega
  have q7 : (x.n.getD k default).b.length ≤ 100000 := by omega
  have oz2 := (map_at (nodC) (default) (l := x.n) (i := k) q0)
  have oz3 := @pnode_v (x.n.getD k default) q1 q6 q7
  exact VT.run (W := [.r [] [], .br true, .r [] [.row (sO oz2)], .r [] [.callr (rO oz3)], .r [] [], .br false, .r [] [], .r [] [.n ((↑k : Int) + 1)]]) (G := [.any (rg [(7, 3), (26, 10), (37, 10)]), .drop [7], .ren 43 900, .weak 25 (i64 (↑(k + 1) : Int)), .blk 900 (Blk.slc 5 1 (List.map (row1 IntKind.u8) (accB x.n B (k + 1)))), .sort]) (by kernel_rfl) (.c (decide_eq_true (p := ((↑k : Int) < (↑x.n.length : Int))) (by omega)) <| .c (show 0 ≤ (↑k : Int) by omega) <| .c oz2 <| .c oz3 <| .c (show ((nodeR (x.n.getD k default)).snd != 0) = false by (simp at *; omega)) <| .c (show ((List.map (row1 IntKind.u8) (accB x.n B k)).length + (List.map (row1 IntKind.u8) (nodeR (x.n.getD k default)).fst).length) * 1 ≤ 140737488355328 by (simp only [List.length_map]; omega)) <| .c (show (List.map (row1 IntKind.u8) (accB x.n B k)).length + (List.map (row1 IntKind.u8) (nodeR (x.n.getD k default)).fst).length ≤ 9223372036854775807 by (simp only [List.length_map]; omega)) <| .c (IntWalk.i64_in ((↑k : Int) + 1) (by omega)) <| .c (Weak.int (k := .i64) (show (((↑k : Int) + 1) : Int) = ((↑(k + 1) : Int)) from (by omega))) <| .c (show BlkW (Blk.slc 5 1 (List.map (row1 IntKind.u8) (accB x.n B k) ++ List.map (row1 IntKind.u8) (nodeR (x.n.getD k default)).fst)) (Blk.slc 5 1 (List.map (row1 IntKind.u8) (accB x.n B (k + 1)))) from (BlkW.rows (e := 5) (z := 1) (rows_to (row1 IntKind.u8) (r := List.map (row1 IntKind.u8) (accB x.n B k) ++ List.map (row1 IntKind.u8) (nodeR (x.n.getD k default)).fst) (l := accB x.n B k ++ (nodeR (x.n.getD k default)).fst) (m := accB x.n B (k + 1)) (by first | (simp only [List.map_append, List.map_cons, List.map_nil, List.map_set, List.map_replicate, List.map_take, List.map_drop]; done) | rfl | (simp only [List.map_append, List.map_cons, List.map_nil, List.map_set, List.map_replicate, List.map_take, List.map_drop]; rfl)) (show (accB x.n B k ++ (nodeR (x.n.getD k default)).fst) = (accB x.n B (k + 1)) from (by rfl))))) <| .n)
theorem pblk_n_e (x : Blc) (B : List Int) (m : Nat) (hn : Nods x.n) (hl : x.n.length ≤ 8) (hB : B.length ≤ 10) (hm : m < x.n.length) (hf : (nodeR (x.n.getD m default)).2 ≠ 0) (h : ∀ k, k < m → (nodeR (x.n.getD k default)).2 = 0) : VT Try.prog (fnC Try.f46 [1, 1, 1, 1, 1, 0, 1, 0, 0]) (pblk_n_I x B m (m)) (.ret) (pblk_n_Z x B m) := by
  have q1 := getD_in hn.ok hm
  obtain ⟨q2, q3⟩ := getD_in hn.w hm
  have q6 : (x.n.getD m default).w.length ≤ 100000 := by omega
  have q7 : (x.n.getD m default).b.length ≤ 100000 := by omega
  have oz2 := (map_at (nodC) (default) (l := x.n) (i := m) hm)
  have oz3 := @pnode_v (x.n.getD m default) q1 q6 q7
  exact VT.run (W := [.r [] [], .br true, .r [] [.row (sO oz2)], .r [] [.callr (rO oz3)], .r [] [], .br true, .r [] []]) (G := [.any (rg [(1, 1), (4, 1), (7, 3), (23, 14)]), .drop [1, 16, 900, 7], .sort]) (by kernel_rfl) (.c (decide_eq_true (p := ((↑m : Int) < (↑x.n.length : Int))) (by omega)) <| .c (show 0 ≤ (↑m : Int) by omega) <| .c oz2 <| .c oz3 <| .c (show ((nodeR (x.n.getD m default)).snd != 0) = true by (simp at *; omega)) <| .n)
theorem pblk_n (x : Blc) (B : List Int) (m : Nat) (hn : Nods x.n) (hl : x.n.length ≤ 8) (hB : B.length ≤ 10) (hm : m < x.n.length) (hf : (nodeR (x.n.getD m default)).2 ≠ 0) (h : ∀ k, k < m → (nodeR (x.n.getD k default)).2 = 0) : VT Try.prog (fnC Try.f46 [1, 1, 1, 1, 1, 0, 1, 0]) (pblk_n_I x B m 0) (.ret) (pblk_n_Z x B m) :=
  VT.loop (fun k => pblk_n_I x B m k) (m) (fun k hk => pblk_n_s x B m hn hl hB hm hf h k hk) (pblk_n_e x B m hn hl hB hm hf h) (by intro h; cases h)
noncomputable def rblk_y_I (x : Blc) (B : List Int) (k : Nat) : VS := stt 92 [(1, .ptr 1 0 0), (4, .own 900), (5, i64 k)] [(1, .var (blcC x)), (900, .slc 5 1 ((accB x.n B k).map (row1 .u8)))]
noncomputable def rblk_y_Z (x : Blc) (B : List Int) : VS := rblk_y_I x B (x.n.length)
theorem rblk_y_s (x : Blc) (B : List Int) (hn : Nods x.n) (hl : x.n.length ≤ 8) (hB : B.length ≤ 10) (h : ∀ k, k < x.n.length → (nodeR (x.n.getD k default)).2 = 0) (k : Nat) (hk : k < x.n.length) : VT Try.prog (fnC Try.f47 [1, 1, 1, 0, 1, 0, 0]) (rblk_y_I x B k) .normal (rblk_y_I x B (k + 1)) := by
  have q := h k hk
  have q1 := getD_in hn.ok hk
  obtain ⟨q2, q3⟩ := getD_in hn.w hk
  have q4 := accB_le hn B (Nat.le_of_lt hk)
  have q5 := nodeR_le _ q1
  have q6 : (x.n.getD k default).w.length ≤ 100000 := by omega
  have q7 : (x.n.getD k default).b.length ≤ 100000 := by omega
  have oz2 := (map_at (nodC) (default) (l := x.n) (i := k) hk)
  have oz3 := @rnode_v (x.n.getD k default) q1 q6 q7
  exact VT.run (W := [.r [] [], .br true, .r [] [.row (sO oz2), .callr (rO oz3)], .r [] [], .br false, .r [] [], .r [] [.n ((↑k : Int) + 1)]]) (G := [.any (rg [(6, 2), (17, 18), (36, 3)]), .ren 38 900, .weak 5 (i64 (↑(k + 1) : Int)), .blk 900 (Blk.slc 5 1 (List.map (row1 IntKind.u8) (accB x.n B (k + 1)))), .sort]) (by kernel_rfl) (.c (show decide ((↑k : Int) < (↑(List.map nodC x.n).length : Int)) = true by (simp; omega)) <| .c (show 0 ≤ (↑k : Int) by omega) <| .c oz2 <| .c oz3 <| .c (show ((nodeR (x.n.getD k default)).snd != 0) = false by (simp at *; omega)) <| .c (show ((List.map (row1 IntKind.u8) (accB x.n B k)).length + (List.map (row1 IntKind.u8) (nodeR (x.n.getD k default)).fst).length) * 1 ≤ 140737488355328 by (simp only [List.length_map]; omega)) <| .c (show (List.map (row1 IntKind.u8) (accB x.n B k)).length + (List.map (row1 IntKind.u8) (nodeR (x.n.getD k default)).fst).length ≤ 9223372036854775807 by (simp only [List.length_map]; omega)) <| .c (IntWalk.i64_in ((↑k : Int) + 1) (by omega)) <| .c (Weak.int (k := .i64) (show (((↑k : Int) + 1) : Int) = ((↑(k + 1) : Int)) from (by omega))) <| .c (show BlkW (Blk.slc 5 1 (List.map (row1 IntKind.u8) (accB x.n B k) ++ List.map (row1 IntKind.u8) (nodeR (x.n.getD k default)).fst)) (Blk.slc 5 1 (List.map (row1 IntKind.u8) (accB x.n B (k + 1)))) from (BlkW.rows (e := 5) (z := 1) (rows_to (row1 IntKind.u8) (r := List.map (row1 IntKind.u8) (accB x.n B k) ++ List.map (row1 IntKind.u8) (nodeR (x.n.getD k default)).fst) (l := accB x.n B k ++ (nodeR (x.n.getD k default)).fst) (m := accB x.n B (k + 1)) (by first | (simp only [List.map_append, List.map_cons, List.map_nil, List.map_set, List.map_replicate, List.map_take, List.map_drop]; done) | rfl | (simp only [List.map_append, List.map_cons, List.map_nil, List.map_set, List.map_replicate, List.map_take, List.map_drop]; rfl)) (show (accB x.n B k ++ (nodeR (x.n.getD k default)).fst) = (accB x.n B (k + 1)) from (by rfl))))) <| .n)
theorem rblk_y_e (x : Blc) (B : List Int) (hn : Nods x.n) (hl : x.n.length ≤ 8) (hB : B.length ≤ 10) (h : ∀ k, k < x.n.length → (nodeR (x.n.getD k default)).2 = 0) : VT Try.prog (fnC Try.f47 [1, 1, 1, 0, 1, 0, 0]) (rblk_y_I x B (x.n.length)) (.exit 0) (rblk_y_Z x B) := by
  exact VT.run (W := [.r [] [], .br false]) (G := [.any (rg [(17, 5)]), .sort]) (by kernel_rfl) (.c (show decide ((↑x.n.length : Int) < (↑(List.map nodC x.n).length : Int)) = false by (simp; done)) <| .n)
theorem rblk_y (x : Blc) (B : List Int) (hn : Nods x.n) (hl : x.n.length ≤ 8) (hB : B.length ≤ 10) (h : ∀ k, k < x.n.length → (nodeR (x.n.getD k default)).2 = 0) : VT Try.prog (fnC Try.f47 [1, 1, 1, 0, 1, 0]) (rblk_y_I x B 0) (.exit 0) (rblk_y_Z x B) :=
  VT.loop (fun k => rblk_y_I x B k) (x.n.length) (fun k hk => rblk_y_s x B hn hl hB h k hk) (rblk_y_e x B hn hl hB h) (by intro h; cases h)
noncomputable def rblk_n_I (x : Blc) (B : List Int) (m : Nat) (k : Nat) : VS := stt 92 [(1, .ptr 1 0 0), (4, .own 900), (5, i64 k)] [(1, .var (blcC x)), (900, .slc 5 1 ((accB x.n B k).map (row1 .u8)))]
noncomputable def rblk_n_Z (x : Blc) (B : List Int) (m : Nat) : VS := stt 92 [(2, nilv), (3, i64 (nodeR (x.n.getD m default)).2)] []
theorem rblk_n_s (x : Blc) (B : List Int) (m : Nat) (hn : Nods x.n) (hl : x.n.length ≤ 8) (hB : B.length ≤ 10) (hm : m < x.n.length) (hf : (nodeR (x.n.getD m default)).2 ≠ 0) (h : ∀ k, k < m → (nodeR (x.n.getD k default)).2 = 0) (k : Nat) (hk : k < m) : VT Try.prog (fnC Try.f47 [1, 1, 1, 0, 1, 0, 0]) (rblk_n_I x B m k) .normal (rblk_n_I x B m (k + 1)) := by
  have q := h k hk
  have q0 : k < x.n.length := by omega
  have q1 := getD_in hn.ok q0
  obtain ⟨q2, q3⟩ := getD_in hn.w q0
  have q4 := accB_le hn B (Nat.le_of_lt q0)
  have q5 := nodeR_le _ q1
  have q6 : (x.n.getD k default).w.length ≤ 100000 := by omega
  have q7 : (x.n.getD k default).b.length ≤ 100000 := by omega
  have oz2 := (map_at (nodC) (default) (l := x.n) (i := k) q0)
  have oz3 := @rnode_v (x.n.getD k default) q1 q6 q7
  exact VT.run (W := [.r [] [], .br true, .r [] [.row (sO oz2), .callr (rO oz3)], .r [] [], .br false, .r [] [], .r [] [.n ((↑k : Int) + 1)]]) (G := [.any (rg [(6, 2), (17, 18), (36, 3)]), .ren 38 900, .weak 5 (i64 (↑(k + 1) : Int)), .blk 900 (Blk.slc 5 1 (List.map (row1 IntKind.u8) (accB x.n B (k + 1)))), .sort]) (by kernel_rfl) (.c (show decide ((↑k : Int) < (↑(List.map nodC x.n).length : Int)) = true by (simp; omega)) <| .c (show 0 ≤ (↑k : Int) by omega) <| .c oz2 <| .c oz3 <| .c (show ((nodeR (x.n.getD k default)).snd != 0) = false by (simp at *; omega)) <| .c (show ((List.map (row1 IntKind.u8) (accB x.n B k)).length + (List.map (row1 IntKind.u8) (nodeR (x.n.getD k default)).fst).length) * 1 ≤ 140737488355328 by (simp only [List.length_map]; omega)) <| .c (show (List.map (row1 IntKind.u8) (accB x.n B k)).length + (List.map (row1 IntKind.u8) (nodeR (x.n.getD k default)).fst).length ≤ 9223372036854775807 by (simp only [List.length_map]; omega)) <| .c (IntWalk.i64_in ((↑k : Int) + 1) (by omega)) <| .c (Weak.int (k := .i64) (show (((↑k : Int) + 1) : Int) = ((↑(k + 1) : Int)) from (by omega))) <| .c (show BlkW (Blk.slc 5 1 (List.map (row1 IntKind.u8) (accB x.n B k) ++ List.map (row1 IntKind.u8) (nodeR (x.n.getD k default)).fst)) (Blk.slc 5 1 (List.map (row1 IntKind.u8) (accB x.n B (k + 1)))) from (BlkW.rows (e := 5) (z := 1) (rows_to (row1 IntKind.u8) (r := List.map (row1 IntKind.u8) (accB x.n B k) ++ List.map (row1 IntKind.u8) (nodeR (x.n.getD k default)).fst) (l := accB x.n B k ++ (nodeR (x.n.getD k default)).fst) (m := accB x.n B (k + 1)) (by first | (simp only [List.map_append, List.map_cons, List.map_nil, List.map_set, List.map_replicate, List.map_take, List.map_drop]; done) | rfl | (simp only [List.map_append, List.map_cons, List.map_nil, List.map_set, List.map_replicate, List.map_take, List.map_drop]; rfl)) (show (accB x.n B k ++ (nodeR (x.n.getD k default)).fst) = (accB x.n B (k + 1)) from (by rfl))))) <| .n)
theorem rblk_n_e (x : Blc) (B : List Int) (m : Nat) (hn : Nods x.n) (hl : x.n.length ≤ 8) (hB : B.length ≤ 10) (hm : m < x.n.length) (hf : (nodeR (x.n.getD m default)).2 ≠ 0) (h : ∀ k, k < m → (nodeR (x.n.getD k default)).2 = 0) : VT Try.prog (fnC Try.f47 [1, 1, 1, 0, 1, 0, 0]) (rblk_n_I x B m (m)) (.ret) (rblk_n_Z x B m) := by
  have q1 := getD_in hn.ok hm
  obtain ⟨q2, q3⟩ := getD_in hn.w hm
  have q6 : (x.n.getD m default).w.length ≤ 100000 := by omega
  have q7 : (x.n.getD m default).b.length ≤ 100000 := by omega
  have oz2 := (map_at (nodC) (default) (l := x.n) (i := m) hm)
  have oz3 := @rnode_v (x.n.getD m default) q1 q6 q7
  exact VT.run (W := [.r [] [], .br true, .r [] [.row (sO oz2), .callr (rO oz3)], .r [] [], .br true, .r [] []]) (G := [.any (rg [(1, 1), (4, 4), (17, 5), (24, 12)]), .drop [1, 900], .sort]) (by kernel_rfl) (.c (show decide ((↑m : Int) < (↑(List.map nodC x.n).length : Int)) = true by (simp; omega)) <| .c (show 0 ≤ (↑m : Int) by omega) <| .c oz2 <| .c oz3 <| .c (show ((nodeR (x.n.getD m default)).snd != 0) = true by (simp at *; omega)) <| .n)
theorem rblk_n (x : Blc) (B : List Int) (m : Nat) (hn : Nods x.n) (hl : x.n.length ≤ 8) (hB : B.length ≤ 10) (hm : m < x.n.length) (hf : (nodeR (x.n.getD m default)).2 ≠ 0) (h : ∀ k, k < m → (nodeR (x.n.getD k default)).2 = 0) : VT Try.prog (fnC Try.f47 [1, 1, 1, 0, 1, 0]) (rblk_n_I x B m 0) (.ret) (rblk_n_Z x B m) :=
  VT.loop (fun k => rblk_n_I x B m k) (m) (fun k hk => rblk_n_s x B m hn hl hB hm hf h k hk) (rblk_n_e x B m hn hl hB hm hf h) (by intro h; cases h)
end Go.Proofs.Ytgecmooedhnenaa
/- A block's bytes, by the program and by the document: as one. No condition. -/
namespace Go.Proofs.Ytgecmooedhnenaa
open Go.RowKit
set_option linter.unusedSimpArgs false
set_option linter.unusedVariables false
set_option linter.unnecessarySimpa false
theorem pblock_f (x : Blc) (h : 8 < x.n.length) : VC Try.prog 46 ([blc x]) (.tup [.sl 1 (([] : List Int).map (row1 .u8)), i64 4]) := by
  exact (VC.run (fn := Try.f46) (W := [.r [] [], .r [] [], .br true, .r [] []]) (r := AV.tup [AV.lit (Value.slice none 0 0), i64 4]) Try.func46 (by kernel_rfl) (.c (show decide ((↑(List.map nodC x.n).length : Int) > 8) = true by (simp; omega)) <| .n)).weak (WeakL.refl _) (Weak.tup (.cons (Weak.nil _) (.cons (.refl _) .nil)))
theorem pblock_n (L : Int → List Int) (x : Blc) (m : Nat) (hL : Puts L) (hn : Nods x.n) (hl : x.n.length ≤ 8) (hm : m < x.n.length) (hf : (nodeR (x.n.getD m default)).2 ≠ 0) (h : ∀ k, k < m → (nodeR (x.n.getD k default)).2 = 0) : VC Try.prog 46 ([blc x]) (.tup [.sl 1 (([] : List Int).map (row1 .u8)), i64 (nodeR (x.n.getD m default)).2]) := by
  have hB : ([] ++ L (x.n.length : Int)).length ≤ 10 := hL.l _
  have oz1 := @VM.pre _ _ ([AV.ptr 100000 0 0, AV.ptr 100001 0 0, i64 8]) _ ([(100000, Blk.var [AV.lit (Value.slice none 0 0)]), (100001, Blk.var [i64 (↑(List.map nodC x.n).length : Int)])]) _ _ _ ([GI.nilc 950 5 1 100000 0, GI.sort]) _ (@lnum_1 ([]) (L) ((↑(List.map nodC x.n).length : Int)) (8) (by (simp; done)) hL) (by kernel_rfl) (.n)
  have oz5 := @pblk_n (x) ([] ++ L (↑(List.map nodC x.n).length : Int)) (m) hn hl (by (simp only [List.length_map] at *; omega)) hm hf h
  exact (VC.run (fn := Try.f46) (W := [.r [] [], .r [] [], .br false, .r [] [], .r [] [], .r [] [.callm [(16, 100000), (5, 100001)] [(951, 20000)] (rM oz1) (oM oz1)], .r [] [], .code [.any (rg [(0, 1), (2, 2), (5, 1), (11, 12)]), .drop [5], .ren 20000 900, .weak 24 (i64 (↑x.n.length : Int)), .weak 25 (i64 (↑0 : Int)), .blk 900 (Blk.slc 5 1 (List.map (row1 IntKind.u8) (accB x.n ([] ++ L (↑(List.map nodC x.n).length : Int)) 0))), .sort] (Exit.ret) (zO oz5)]) (r := AV.tup [AV.lit (Value.slice none 0 0), i64 (nodeR (x.n.getD m default)).snd]) Try.func46 (by kernel_rfl) (.c (show decide ((↑(List.map nodC x.n).length : Int) > 8) = false by (simp; omega)) <| .c oz1 <| .c (Weak.int (k := .i64) (show (((↑(List.map nodC x.n).length : Int)) : Int) = ((↑x.n.length : Int)) from (by (simp; done)))) <| .c (Weak.int (k := .i64) (show ((0) : Int) = ((↑0 : Int)) from (by omega))) <| .c (show BlkW (Blk.slc 5 1 (List.map (row1 IntKind.u8) ([] ++ L (↑(List.map nodC x.n).length : Int)))) (Blk.slc 5 1 (List.map (row1 IntKind.u8) (accB x.n ([] ++ L (↑(List.map nodC x.n).length : Int)) 0))) from (BlkW.rows (e := 5) (z := 1) (rows_to (row1 IntKind.u8) (r := List.map (row1 IntKind.u8) ([] ++ L (↑(List.map nodC x.n).length : Int))) (l := [] ++ L (↑(List.map nodC x.n).length : Int)) (m := accB x.n ([] ++ L (↑(List.map nodC x.n).length : Int)) 0) rfl (show ([] ++ L (↑(List.map nodC x.n).length : Int)) = (accB x.n ([] ++ L (↑(List.map nodC x.n).length : Int)) 0) from (by rfl))))) <| .c oz5 <| .n)).weak (WeakL.refl _) (Weak.tup (.cons (Weak.nil _) (.cons (.refl _) .nil)))
theorem pblock_h (L : Int → List Int) (x : Blc) (hL : Puts L) (hn : Nods x.n) (hl : x.n.length ≤ 8) (h : ∀ k, k < x.n.length → (nodeR (x.n.getD k default)).2 = 0) (hx : headX x ≠ 0) : VC Try.prog 46 ([blc x]) (.tup [.sl 1 (([] : List Int).map (row1 .u8)), i64 (headX x)]) := by
  have hB : ([] ++ L (x.n.length : Int)).length ≤ 10 := hL.l _
  have oz1 := @VM.pre _ _ ([AV.ptr 100000 0 0, AV.ptr 100001 0 0, i64 8]) _ ([(100000, Blk.var [AV.lit (Value.slice none 0 0)]), (100001, Blk.var [i64 (↑(List.map nodC x.n).length : Int)])]) _ _ _ ([GI.nilc 950 5 1 100000 0, GI.sort]) _ (@lnum_1 ([]) (L) ((↑(List.map nodC x.n).length : Int)) (8) (by (simp; done)) hL) (by kernel_rfl) (.n)
  have oz5 := @pblk_y (x) ([] ++ L (↑(List.map nodC x.n).length : Int)) hn hl (by (simp only [List.length_map] at *; omega)) h
  have oz6 := @headMay_v (x)
  exact (VC.run (fn := Try.f46) (W := [.r [] [], .r [] [], .br false, .r [] [], .r [] [], .r [] [.callm [(16, 100000), (5, 100001)] [(951, 20000)] (rM oz1) (oM oz1)], .r [] [], .code [.any (rg [(0, 1), (2, 2), (5, 1), (11, 12)]), .drop [5], .ren 20000 900, .weak 24 (i64 (↑x.n.length : Int)), .weak 25 (i64 (↑0 : Int)), .blk 900 (Blk.slc 5 1 (List.map (row1 IntKind.u8) (accB x.n ([] ++ L (↑(List.map nodC x.n).length : Int)) 0))), .sort] (Exit.exit 0) (zO oz5), .r [] [.callr (rO oz6)], .r [] [], .br true, .r [] []]) (r := AV.tup [AV.lit (Value.slice none 0 0), i64 (headX x)]) Try.func46 (by kernel_rfl) (.c (show decide ((↑(List.map nodC x.n).length : Int) > 8) = false by (simp; omega)) <| .c oz1 <| .c (Weak.int (k := .i64) (show (((↑(List.map nodC x.n).length : Int)) : Int) = ((↑x.n.length : Int)) from (by (simp; done)))) <| .c (Weak.int (k := .i64) (show ((0) : Int) = ((↑0 : Int)) from (by omega))) <| .c (show BlkW (Blk.slc 5 1 (List.map (row1 IntKind.u8) ([] ++ L (↑(List.map nodC x.n).length : Int)))) (Blk.slc 5 1 (List.map (row1 IntKind.u8) (accB x.n ([] ++ L (↑(List.map nodC x.n).length : Int)) 0))) from (BlkW.rows (e := 5) (z := 1) (rows_to (row1 IntKind.u8) (r := List.map (row1 IntKind.u8) ([] ++ L (↑(List.map nodC x.n).length : Int))) (l := [] ++ L (↑(List.map nodC x.n).length : Int)) (m := accB x.n ([] ++ L (↑(List.map nodC x.n).length : Int)) 0) rfl (show ([] ++ L (↑(List.map nodC x.n).length : Int)) = (accB x.n ([] ++ L (↑(List.map nodC x.n).length : Int)) 0) from (by rfl))))) <| .c oz5 <| .c oz6 <| .c (show (headX x != 0) = true by (simp; omega)) <| .n)).weak (WeakL.refl _) (Weak.tup (.cons (Weak.nil _) (.cons (.refl _) .nil)))
theorem pblock_xn (L : Int → List Int) (x : Blc) (hL : Puts L) (hn : Nods x.n) (hl : x.n.length ≤ 8) (h : ∀ k, k < x.n.length → (nodeR (x.n.getD k default)).2 = 0) (hx : headX x = 0) (he : x.ex = false) : VC Try.prog 46 ([blc x]) (.tup [.sl 1 ((accB x.n ([] ++ L (x.n.length : Int)) x.n.length ++ L 0).map (row1 .u8)), i64 0]) := by
  have hB : ([] ++ L (x.n.length : Int)).length ≤ 10 := hL.l _
  have hA : (accB x.n ([] ++ L (x.n.length : Int)) x.n.length).length ≤ 400000 := by
    have := accB_le hn ([] ++ L (x.n.length : Int)) (Nat.le_refl _)
    omega
  have oz1 := @VM.pre _ _ ([AV.ptr 100000 0 0, AV.ptr 100001 0 0, i64 8]) _ ([(100000, Blk.var [AV.lit (Value.slice none 0 0)]), (100001, Blk.var [i64 (↑(List.map nodC x.n).length : Int)])]) _ _ _ ([GI.nilc 950 5 1 100000 0, GI.sort]) _ (@lnum_1 ([]) (L) ((↑(List.map nodC x.n).length : Int)) (8) (by (simp; done)) hL) (by kernel_rfl) (.n)
  have oz5 := @pblk_y (x) ([] ++ L (↑(List.map nodC x.n).length : Int)) hn hl (by (simp only [List.length_map] at *; omega)) h
  have oz6 := @headMay_v (x)
  have oz8 := @lexit_n (accB x.n ([] ++ L (↑(List.map nodC x.n).length : Int)) x.n.length) (L) (x) (by (simp only [List.length_map] at *; omega)) hL he
  exact (VC.run (fn := Try.f46) (W := [.r [] [], .r [] [], .br false, .r [] [], .r [] [], .r [] [.callm [(16, 100000), (5, 100001)] [(951, 20000)] (rM oz1) (oM oz1)], .r [] [], .code [.any (rg [(0, 1), (2, 2), (5, 1), (11, 12)]), .drop [5], .ren 20000 900, .weak 24 (i64 (↑x.n.length : Int)), .weak 25 (i64 (↑0 : Int)), .blk 900 (Blk.slc 5 1 (List.map (row1 IntKind.u8) (accB x.n ([] ++ L (↑(List.map nodC x.n).length : Int)) 0))), .sort] (Exit.exit 0) (zO oz5), .r [] [.callr (rO oz6)], .r [] [], .br false, .r [] [.callm [(900, 950), (16, 100000), (1, 100001)] [(951, 20001)] (rM oz8) (oM oz8)], .r [] []]) (r := AV.tup [AV.sl 1 (List.map (row1 IntKind.u8) (accB x.n ([] ++ L (↑(List.map nodC x.n).length : Int)) x.n.length ++ L 0)), i64 0]) Try.func46 (by kernel_rfl) (.c (show decide ((↑(List.map nodC x.n).length : Int) > 8) = false by (simp; omega)) <| .c oz1 <| .c (Weak.int (k := .i64) (show (((↑(List.map nodC x.n).length : Int)) : Int) = ((↑x.n.length : Int)) from (by (simp; done)))) <| .c (Weak.int (k := .i64) (show ((0) : Int) = ((↑0 : Int)) from (by omega))) <| .c (show BlkW (Blk.slc 5 1 (List.map (row1 IntKind.u8) ([] ++ L (↑(List.map nodC x.n).length : Int)))) (Blk.slc 5 1 (List.map (row1 IntKind.u8) (accB x.n ([] ++ L (↑(List.map nodC x.n).length : Int)) 0))) from (BlkW.rows (e := 5) (z := 1) (rows_to (row1 IntKind.u8) (r := List.map (row1 IntKind.u8) ([] ++ L (↑(List.map nodC x.n).length : Int))) (l := [] ++ L (↑(List.map nodC x.n).length : Int)) (m := accB x.n ([] ++ L (↑(List.map nodC x.n).length : Int)) 0) rfl (show ([] ++ L (↑(List.map nodC x.n).length : Int)) = (accB x.n ([] ++ L (↑(List.map nodC x.n).length : Int)) 0) from (by rfl))))) <| .c oz5 <| .c oz6 <| .c (show (headX x != 0) = false by (simp; omega)) <| .c oz8 <| .n)).weak (WeakL.refl _) (Weak.tup (.cons (Weak.rows (rows_to (row1 IntKind.u8) (r := List.map (row1 IntKind.u8) (accB x.n ([] ++ L (↑(List.map nodC x.n).length : Int)) x.n.length ++ L 0)) (l := accB x.n ([] ++ L (↑(List.map nodC x.n).length : Int)) x.n.length ++ L 0) (m := accB x.n ([] ++ L (↑x.n.length : Int)) x.n.length ++ L 0) rfl (show (accB x.n ([] ++ L (↑(List.map nodC x.n).length : Int)) x.n.length ++ L 0) = (accB x.n ([] ++ L (↑x.n.length : Int)) x.n.length ++ L 0) from (by (simp; done))))) (.cons (.refl _) .nil)))
theorem pblock_xy (L : Int → List Int) (x : Blc) (hL : Puts L) (ok : x.Ok) (hn : Nods x.n) (hl : x.n.length ≤ 8) (h : ∀ k, k < x.n.length → (nodeR (x.n.getD k default)).2 = 0) (hx : headX x = 0) (he : x.ex = true) (hw : x.w.length ≤ 16384) (hb : x.b.length ≤ 16384) : VC Try.prog 46 ([blc x]) (.tup [.sl 1 ((accB x.n ([] ++ L (x.n.length : Int)) x.n.length ++ L 1 ++ L (x.w.length : Int) ++ smallL x.w ++ L (x.b.length : Int) ++ wideL x.b ++ L x.nd).map (row1 .u8)), i64 0]) := by
  have hB : ([] ++ L (x.n.length : Int)).length ≤ 10 := hL.l _
  have hA : (accB x.n ([] ++ L (x.n.length : Int)) x.n.length).length ≤ 300000 := by
    have := accB_le hn ([] ++ L (x.n.length : Int)) (Nat.le_refl _)
    omega
  have h32 := ok.b
  have hnd := ok.nd
  have oz1 := @VM.pre _ _ ([AV.ptr 100000 0 0, AV.ptr 100001 0 0, i64 8]) _ ([(100000, Blk.var [AV.lit (Value.slice none 0 0)]), (100001, Blk.var [i64 (↑(List.map nodC x.n).length : Int)])]) _ _ _ ([GI.nilc 950 5 1 100000 0, GI.sort]) _ (@lnum_1 ([]) (L) ((↑(List.map nodC x.n).length : Int)) (8) (by (simp; done)) hL) (by kernel_rfl) (.n)
  have oz5 := @pblk_y (x) ([] ++ L (↑(List.map nodC x.n).length : Int)) hn hl (by (simp only [List.length_map] at *; omega)) h
  have oz6 := @headMay_v (x)
  have oz8 := @lexit_y (accB x.n ([] ++ L (↑(List.map nodC x.n).length : Int)) x.n.length) (L) (x) (by (simp only [List.length_map] at *; omega)) hL he hw hb h32 hnd
  exact (VC.run (fn := Try.f46) (W := [.r [] [], .r [] [], .br false, .r [] [], .r [] [], .r [] [.callm [(16, 100000), (5, 100001)] [(951, 20000)] (rM oz1) (oM oz1)], .r [] [], .code [.any (rg [(0, 1), (2, 2), (5, 1), (11, 12)]), .drop [5], .ren 20000 900, .weak 24 (i64 (↑x.n.length : Int)), .weak 25 (i64 (↑0 : Int)), .blk 900 (Blk.slc 5 1 (List.map (row1 IntKind.u8) (accB x.n ([] ++ L (↑(List.map nodC x.n).length : Int)) 0))), .sort] (Exit.exit 0) (zO oz5), .r [] [.callr (rO oz6)], .r [] [], .br false, .r [] [.callm [(900, 950), (16, 100000), (1, 100001)] [(951, 20001)] (rM oz8) (oM oz8)], .r [] []]) (r := AV.tup [AV.sl 1 (List.map (row1 IntKind.u8) (accB x.n ([] ++ L (↑(List.map nodC x.n).length : Int)) x.n.length ++ L 1 ++ L (↑x.w.length : Int) ++ smallL x.w ++ L (↑x.b.length : Int) ++ wideL x.b ++ L x.nd)), i64 0]) Try.func46 (by kernel_rfl) (.c (show decide ((↑(List.map nodC x.n).length : Int) > 8) = false by (simp; omega)) <| .c oz1 <| .c (Weak.int (k := .i64) (show (((↑(List.map nodC x.n).length : Int)) : Int) = ((↑x.n.length : Int)) from (by (simp; done)))) <| .c (Weak.int (k := .i64) (show ((0) : Int) = ((↑0 : Int)) from (by omega))) <| .c (show BlkW (Blk.slc 5 1 (List.map (row1 IntKind.u8) ([] ++ L (↑(List.map nodC x.n).length : Int)))) (Blk.slc 5 1 (List.map (row1 IntKind.u8) (accB x.n ([] ++ L (↑(List.map nodC x.n).length : Int)) 0))) from (BlkW.rows (e := 5) (z := 1) (rows_to (row1 IntKind.u8) (r := List.map (row1 IntKind.u8) ([] ++ L (↑(List.map nodC x.n).length : Int))) (l := [] ++ L (↑(List.map nodC x.n).length : Int)) (m := accB x.n ([] ++ L (↑(List.map nodC x.n).length : Int)) 0) rfl (show ([] ++ L (↑(List.map nodC x.n).length : Int)) = (accB x.n ([] ++ L (↑(List.map nodC x.n).length : Int)) 0) from (by rfl))))) <| .c oz5 <| .c oz6 <| .c (show (headX x != 0) = false by (simp; omega)) <| .c oz8 <| .n)).weak (WeakL.refl _) (Weak.tup (.cons (Weak.rows (rows_to (row1 IntKind.u8) (r := List.map (row1 IntKind.u8) (accB x.n ([] ++ L (↑(List.map nodC x.n).length : Int)) x.n.length ++ L 1 ++ L (↑x.w.length : Int) ++ smallL x.w ++ L (↑x.b.length : Int) ++ wideL x.b ++ L x.nd)) (l := accB x.n ([] ++ L (↑(List.map nodC x.n).length : Int)) x.n.length ++ L 1 ++ L (↑x.w.length : Int) ++ smallL x.w ++ L (↑x.b.length : Int) ++ wideL x.b ++ L x.nd) (m := accB x.n ([] ++ L (↑x.n.length : Int)) x.n.length ++ L 1 ++ L (↑x.w.length : Int) ++ smallL x.w ++ L (↑x.b.length : Int) ++ wideL x.b ++ L x.nd) rfl (show (accB x.n ([] ++ L (↑(List.map nodC x.n).length : Int)) x.n.length ++ L 1 ++ L (↑x.w.length : Int) ++ smallL x.w ++ L (↑x.b.length : Int) ++ wideL x.b ++ L x.nd) = (accB x.n ([] ++ L (↑x.n.length : Int)) x.n.length ++ L 1 ++ L (↑x.w.length : Int) ++ smallL x.w ++ L (↑x.b.length : Int) ++ wideL x.b ++ L x.nd) from (by (simp; done))))) (.cons (.refl _) .nil)))
theorem rblock_f (x : Blc) (h : 8 < x.n.length) : VC Try.prog 47 ([blc x]) (.tup [.sl 1 (([] : List Int).map (row1 .u8)), i64 4]) := by
  exact (VC.run (fn := Try.f47) (W := [.r [] [], .r [] [], .br true, .r [] []]) (r := AV.tup [AV.lit (Value.slice none 0 0), i64 4]) Try.func47 (by kernel_rfl) (.c (show decide ((↑(List.map nodC x.n).length : Int) > 8) = true by (simp; omega)) <| .n)).weak (WeakL.refl _) (Weak.tup (.cons (Weak.nil _) (.cons (.refl _) .nil)))
theorem rblock_n (L : Int → List Int) (x : Blc) (m : Nat) (hL : RPuts L) (hn : Nods x.n) (hl : x.n.length ≤ 8) (hm : m < x.n.length) (hf : (nodeR (x.n.getD m default)).2 ≠ 0) (h : ∀ k, k < m → (nodeR (x.n.getD k default)).2 = 0) : VC Try.prog 47 ([blc x]) (.tup [.sl 1 (([] : List Int).map (row1 .u8)), i64 (nodeR (x.n.getD m default)).2]) := by
  have hB : ([] ++ L (x.n.length : Int)).length ≤ 10 := hL.l _
  have oz1 := @VM.pre _ _ ([AV.lit (Value.slice none 0 0), i64 (↑(List.map nodC x.n).length : Int)]) _ ([]) _ _ _ ([GI.nils 0 950 5 1, GI.sort]) _ (@rput_1 ([]) (L) ((↑(List.map nodC x.n).length : Int)) (by (simp; done)) hL) (by kernel_rfl) (.n)
  have oz4 := @rblk_n (x) ([] ++ L (↑(List.map nodC x.n).length : Int)) (m) hn hl (by (simp only [List.length_map] at *; omega)) hm hf h
  exact (VC.run (fn := Try.f47) (W := [.r [] [], .r [] [], .br false, .r [] [.callm [] [(951, 20000)] (rM oz1) (oM oz1)], .r [] [], .code [.any (rg [(0, 1), (2, 2), (9, 8)]), .ren 20000 900, .weak 5 (i64 (↑0 : Int)), .blk 900 (Blk.slc 5 1 (List.map (row1 IntKind.u8) (accB x.n ([] ++ L (↑(List.map nodC x.n).length : Int)) 0))), .sort] (Exit.ret) (zO oz4)]) (r := AV.tup [AV.lit (Value.slice none 0 0), i64 (nodeR (x.n.getD m default)).snd]) Try.func47 (by kernel_rfl) (.c (show decide ((↑(List.map nodC x.n).length : Int) > 8) = false by (simp; omega)) <| .c oz1 <| .c (Weak.int (k := .i64) (show ((0) : Int) = ((↑0 : Int)) from (by omega))) <| .c (show BlkW (Blk.slc 5 1 (List.map (row1 IntKind.u8) ([] ++ L (↑(List.map nodC x.n).length : Int)))) (Blk.slc 5 1 (List.map (row1 IntKind.u8) (accB x.n ([] ++ L (↑(List.map nodC x.n).length : Int)) 0))) from (BlkW.rows (e := 5) (z := 1) (rows_to (row1 IntKind.u8) (r := List.map (row1 IntKind.u8) ([] ++ L (↑(List.map nodC x.n).length : Int))) (l := [] ++ L (↑(List.map nodC x.n).length : Int)) (m := accB x.n ([] ++ L (↑(List.map nodC x.n).length : Int)) 0) rfl (show ([] ++ L (↑(List.map nodC x.n).length : Int)) = (accB x.n ([] ++ L (↑(List.map nodC x.n).length : Int)) 0) from (by rfl))))) <| .c oz4 <| .n)).weak (WeakL.refl _) (Weak.tup (.cons (Weak.nil _) (.cons (.refl _) .nil)))
theorem rblock_ha (L : Int → List Int) (x : Blc) (hL : RPuts L) (hn : Nods x.n) (hl : x.n.length ≤ 8) (h : ∀ k, k < x.n.length → (nodeR (x.n.getD k default)).2 = 0) (hx : x.ex = false) (h2 : 0 < x.w.length ∨ 0 < x.b.length ∨ x.nd ≠ 0) : VC Try.prog 47 ([blc x]) (.tup [.sl 1 (([] : List Int).map (row1 .u8)), i64 11]) := by
  have hB : ([] ++ L (x.n.length : Int)).length ≤ 10 := hL.l _
  have hA : (accB x.n ([] ++ L (x.n.length : Int)) x.n.length).length ≤ 1000000 := by
    have := accB_le hn ([] ++ L (x.n.length : Int)) (Nat.le_refl _)
    omega
  have oz0 := (show decide ((↑(List.map nodC x.n).length : Int) > 8) = false by (simp; omega))
  have oz1 := @VM.pre _ _ ([AV.lit (Value.slice none 0 0), i64 (↑(List.map nodC x.n).length : Int)]) _ ([]) _ _ _ ([GI.nils 0 950 5 1, GI.sort]) _ (@rput_1 ([]) (L) ((↑(List.map nodC x.n).length : Int)) (by (simp; done)) hL) (by kernel_rfl) (.n)
  have oz2 := (Weak.int (k := .i64) (show ((0) : Int) = ((↑0 : Int)) from (by omega)))
  rcases Bool.eq_false_or_eq_true (!x.ex && (decide ((↑(List.map (row1 IntKind.i8) x.w).length : Int) > 0) || decide ((↑(List.map (row1 IntKind.i32) x.b).length : Int) > 0) || x.nd != 0)) with hc0 | hc0
  · have gc0 : x.ex = false ∧ (((↑(List.map (row1 IntKind.i8) x.w).length : Int) > 0 ∨ (↑(List.map (row1 IntKind.i32) x.b).length : Int) > 0) ∨ ¬x.nd = 0) := by first | (simp only [Bool.or_eq_true, Bool.or_eq_false_iff, Bool.and_eq_true, Bool.and_eq_false_iff, Bool.not_eq_true', Bool.not_eq_false', decide_eq_true_eq, decide_eq_false_iff_not, beq_iff_eq, bne_iff_ne, ne_eq, beq_eq_false_iff_ne, bne_eq_false_iff_eq, eqNums, Bool.and_true] at hc0; first | exact hc0 | omega) | simpa using hc0 | (simp at hc0 ⊢; omega) | (apply Classical.byContradiction; intro hn; simp_all [eqNums]; done) | (apply Classical.byContradiction; intro hn; simp [eqNums] at hc0 hn; omega)
    have oz4 := @rblk_y (x) ([] ++ L (↑(List.map nodC x.n).length : Int)) hn hl (by (simp only [List.length_map] at *; omega)) h
    exact (VC.run (fn := Try.f47) (W := [.r [] [], .r [] [], .br false, .r [] [.callm [] [(951, 20000)] (rM oz1) (oM oz1)], .r [] [], .code [.any (rg [(0, 1), (2, 2), (9, 8)]), .ren 20000 900, .weak 5 (wO oz2), .blk 900 (Blk.slc 5 1 (List.map (row1 IntKind.u8) (accB x.n ([] ++ L (↑(List.map nodC x.n).length : Int)) 0))), .sort] (Exit.exit 0) (zO oz4), .r [] [], .r [] [.op false, .op false, .op false, .op false, .op false, .op false, .op false, .op false, .op false, .op false, .sel 1, .op false, .op false, .op false, .op false, .op false, .sel 1, .sel 2], .br true, .r [] []]) (r := AV.tup [AV.lit (Value.slice none 0 0), i64 11]) Try.func47 (by kernel_rfl) (.c oz0 <| .c oz1 <| .c oz2 <| .c (show BlkW (Blk.slc 5 1 (List.map (row1 IntKind.u8) ([] ++ L (↑(List.map nodC x.n).length : Int)))) (Blk.slc 5 1 (List.map (row1 IntKind.u8) (accB x.n ([] ++ L (↑(List.map nodC x.n).length : Int)) 0))) from (BlkW.rows (e := 5) (z := 1) (rows_to (row1 IntKind.u8) (r := List.map (row1 IntKind.u8) ([] ++ L (↑(List.map nodC x.n).length : Int))) (l := [] ++ L (↑(List.map nodC x.n).length : Int)) (m := accB x.n ([] ++ L (↑(List.map nodC x.n).length : Int)) 0) rfl (show ([] ++ L (↑(List.map nodC x.n).length : Int)) = (accB x.n ([] ++ L (↑(List.map nodC x.n).length : Int)) 0) from (by rfl))))) <| .c oz4 <| .c hc0 <| .n)).weak (WeakL.refl _) (Weak.tup (.cons (Weak.nil _) (.cons (.refl _) .nil)))
  · have gc0 : x.ex = true ∨ (¬(↑(List.map (row1 IntKind.i8) x.w).length : Int) > 0 ∧ ¬(↑(List.map (row1 IntKind.i32) x.b).length : Int) > 0) ∧ x.nd = 0 := by first | (simp only [Bool.or_eq_true, Bool.or_eq_false_iff, Bool.and_eq_true, Bool.and_eq_false_iff, Bool.not_eq_true', Bool.not_eq_false', decide_eq_true_eq, decide_eq_false_iff_not, beq_iff_eq, bne_iff_ne, ne_eq, beq_eq_false_iff_ne, bne_eq_false_iff_eq, eqNums, Bool.and_true] at hc0; first | exact hc0 | omega) | simpa using hc0 | (simp at hc0 ⊢; omega) | (apply Classical.byContradiction; intro hn; simp_all [eqNums]; done) | (apply Classical.byContradiction; intro hn; simp [eqNums] at hc0 hn; omega)
    have oz3 := (show BlkW (Blk.slc 5 1 (List.map (row1 IntKind.u8) ([] ++ L (↑(List.map nodC x.n).length : Int)))) (Blk.slc 5 1 (List.map (row1 IntKind.u8) (accB x.n ([] ++ L (↑(List.map nodC x.n).length : Int)) 0))) from (BlkW.rows (e := 5) (z := 1) (rows_to (row1 IntKind.u8) (r := List.map (row1 IntKind.u8) ([] ++ L (↑(List.map nodC x.n).length : Int))) (l := [] ++ L (↑(List.map nodC x.n).length : Int)) (m := accB x.n ([] ++ L (↑(List.map nodC x.n).length : Int)) 0) rfl (show ([] ++ L (↑(List.map nodC x.n).length : Int)) = (accB x.n ([] ++ L (↑(List.map nodC x.n).length : Int)) 0) from (by (simp_all; done))))))
    have oz4 := @rblk_y (x) ([] ++ L (↑(List.map nodC x.n).length : Int)) hn hl (by (simp only [List.length_map] at *; omega)) h
    rcases Bool.eq_false_or_eq_true (decide (x.nd < 0) || decide ((↑(List.map (row1 IntKind.i8) x.w).length : Int) > 16384) || decide ((↑(List.map (row1 IntKind.i32) x.b).length : Int) > 16384)) with hc1 | hc1
    · have gc1 : (x.nd < 0 ∨ (↑(List.map (row1 IntKind.i8) x.w).length : Int) > 16384) ∨ (↑(List.map (row1 IntKind.i32) x.b).length : Int) > 16384 := by first | (simp only [Bool.or_eq_true, Bool.or_eq_false_iff, Bool.and_eq_true, Bool.and_eq_false_iff, Bool.not_eq_true', Bool.not_eq_false', decide_eq_true_eq, decide_eq_false_iff_not, beq_iff_eq, bne_iff_ne, ne_eq, beq_eq_false_iff_ne, bne_eq_false_iff_eq, eqNums, Bool.and_true] at hc1; first | exact hc1 | omega) | simpa using hc1 | (simp at hc1 ⊢; omega) | (apply Classical.byContradiction; intro hn; simp_all [eqNums]; done) | (apply Classical.byContradiction; intro hn; simp [eqNums] at hc1 hn; omega)
      exact (VC.run (fn := Try.f47) (W := [.r [] [], .r [] [], .br false, .r [] [.callm [] [(951, 20000)] (rM oz1) (oM oz1)], .r [] [], .code [.any (rg [(0, 1), (2, 2), (9, 8)]), .ren 20000 900, .weak 5 (wO oz2), .blk 900 (Blk.slc 5 1 (List.map (row1 IntKind.u8) (accB x.n ([] ++ L (↑(List.map nodC x.n).length : Int)) 0))), .sort] (Exit.exit 0) (zO oz4), .r [] [], .r [] [.op false, .op false, .op false, .op false, .op false, .op false, .op false, .op false, .op false, .op false, .sel 1, .op false, .op false, .op false, .op false, .op false, .sel 1, .sel 2], .br false, .r [] [.op false, .op false, .op false, .op false, .sel 1, .op false, .op false, .op false, .op false, .sel 1], .br true, .r [] []]) (r := AV.tup [AV.lit (Value.slice none 0 0), i64 3]) Try.func47 (by kernel_rfl) (.c oz0 <| .c oz1 <| .c oz2 <| .c oz3 <| .c oz4 <| .c hc0 <| .c hc1 <| .n)).weak (WeakL.refl _) (Weak.tup (.cons (Weak.nil _) (.cons (Weak.int (show ((3) : Int) = (11) from (by (simp_all; done)))) .nil)))
    · have gc1 : (¬x.nd < 0 ∧ ¬(↑(List.map (row1 IntKind.i8) x.w).length : Int) > 16384) ∧ ¬(↑(List.map (row1 IntKind.i32) x.b).length : Int) > 16384 := by first | (simp only [Bool.or_eq_true, Bool.or_eq_false_iff, Bool.and_eq_true, Bool.and_eq_false_iff, Bool.not_eq_true', Bool.not_eq_false', decide_eq_true_eq, decide_eq_false_iff_not, beq_iff_eq, bne_iff_ne, ne_eq, beq_eq_false_iff_ne, bne_eq_false_iff_eq, eqNums, Bool.and_true] at hc1; first | exact hc1 | omega) | simpa using hc1 | (simp at hc1 ⊢; omega) | (apply Classical.byContradiction; intro hn; simp_all [eqNums]; done) | (apply Classical.byContradiction; intro hn; simp [eqNums] at hc1 hn; omega)
      have oz8 := @rput_1 (accB x.n ([] ++ L (↑(List.map nodC x.n).length : Int)) x.n.length) (L) (0) (by (simp only [List.length_map] at *; omega)) hL
      exact (VC.run (fn := Try.f47) (W := [.r [] [], .r [] [], .br false, .r [] [.callm [] [(951, 20000)] (rM oz1) (oM oz1)], .r [] [], .code [.any (rg [(0, 1), (2, 2), (9, 8)]), .ren 20000 900, .weak 5 (wO oz2), .blk 900 (Blk.slc 5 1 (List.map (row1 IntKind.u8) (accB x.n ([] ++ L (↑(List.map nodC x.n).length : Int)) 0))), .sort] (Exit.exit 0) (zO oz4), .r [] [], .r [] [.op false, .op false, .op false, .op false, .op false, .op false, .op false, .op false, .op false, .op false, .sel 1, .op false, .op false, .op false, .op false, .op false, .sel 1, .sel 2], .br false, .r [] [.op false, .op false, .op false, .op false, .sel 1, .op false, .op false, .op false, .op false, .sel 1], .br false, .r [] [], .br true, .r [] [.callm [(900, 950)] [(951, 20001)] (rM oz8) (oM oz8)]]) (r := AV.tup [AV.sl 1 (List.map (row1 IntKind.u8) (accB x.n ([] ++ L (↑(List.map nodC x.n).length : Int)) x.n.length ++ L 0)), i64 0]) Try.func47 (by kernel_rfl) (.c oz0 <| .c oz1 <| .c oz2 <| .c oz3 <| .c oz4 <| .c hc0 <| .c hc1 <| .c (show (!x.ex) = true by (simp; omega)) <| .c oz8 <| .n)).weak (WeakL.refl _) (Weak.tup (.cons (Weak.rows (show (List.map (row1 IntKind.u8) (accB x.n ([] ++ L (↑(List.map nodC x.n).length : Int)) x.n.length ++ L 0)) = ([]) from (by (simp_all; done)))) (.cons (Weak.int (show ((0) : Int) = (11) from (by (simp_all; done)))) .nil)))
theorem rblock_hb (L : Int → List Int) (x : Blc) (hL : RPuts L) (hn : Nods x.n) (hl : x.n.length ≤ 8) (h : ∀ k, k < x.n.length → (nodeR (x.n.getD k default)).2 = 0) (hx : ¬ (x.ex = false ∧ (0 < x.w.length ∨ 0 < x.b.length ∨ x.nd ≠ 0))) (h2 : x.nd < 0 ∨ 16384 < x.w.length ∨ 16384 < x.b.length) : VC Try.prog 47 ([blc x]) (.tup [.sl 1 (([] : List Int).map (row1 .u8)), i64 3]) := by
  have hB : ([] ++ L (x.n.length : Int)).length ≤ 10 := hL.l _
  have hA : (accB x.n ([] ++ L (x.n.length : Int)) x.n.length).length ≤ 1000000 := by
    have := accB_le hn ([] ++ L (x.n.length : Int)) (Nat.le_refl _)
    omega
  have oz0 := (show decide ((↑(List.map nodC x.n).length : Int) > 8) = false by (simp; omega))
  have oz1 := @VM.pre _ _ ([AV.lit (Value.slice none 0 0), i64 (↑(List.map nodC x.n).length : Int)]) _ ([]) _ _ _ ([GI.nils 0 950 5 1, GI.sort]) _ (@rput_1 ([]) (L) ((↑(List.map nodC x.n).length : Int)) (by (simp; done)) hL) (by kernel_rfl) (.n)
  have oz2 := (Weak.int (k := .i64) (show ((0) : Int) = ((↑0 : Int)) from (by omega)))
  rcases Bool.eq_false_or_eq_true (!x.ex && (decide ((↑(List.map (row1 IntKind.i8) x.w).length : Int) > 0) || decide ((↑(List.map (row1 IntKind.i32) x.b).length : Int) > 0) || x.nd != 0)) with hc0 | hc0
  · have gc0 : x.ex = false ∧ (((↑(List.map (row1 IntKind.i8) x.w).length : Int) > 0 ∨ (↑(List.map (row1 IntKind.i32) x.b).length : Int) > 0) ∨ ¬x.nd = 0) := by first | (simp only [Bool.or_eq_true, Bool.or_eq_false_iff, Bool.and_eq_true, Bool.and_eq_false_iff, Bool.not_eq_true', Bool.not_eq_false', decide_eq_true_eq, decide_eq_false_iff_not, beq_iff_eq, bne_iff_ne, ne_eq, beq_eq_false_iff_ne, bne_eq_false_iff_eq, eqNums, Bool.and_true] at hc0; first | exact hc0 | omega) | simpa using hc0 | (simp at hc0 ⊢; omega) | (apply Classical.byContradiction; intro hn; simp_all [eqNums]; done) | (apply Classical.byContradiction; intro hn; simp [eqNums] at hc0 hn; omega)
    have oz4 := @rblk_y (x) ([] ++ L (↑(List.map nodC x.n).length : Int)) hn hl (by (simp only [List.length_map] at *; omega)) h
    exact (VC.run (fn := Try.f47) (W := [.r [] [], .r [] [], .br false, .r [] [.callm [] [(951, 20000)] (rM oz1) (oM oz1)], .r [] [], .code [.any (rg [(0, 1), (2, 2), (9, 8)]), .ren 20000 900, .weak 5 (wO oz2), .blk 900 (Blk.slc 5 1 (List.map (row1 IntKind.u8) (accB x.n ([] ++ L (↑(List.map nodC x.n).length : Int)) 0))), .sort] (Exit.exit 0) (zO oz4), .r [] [], .r [] [.op false, .op false, .op false, .op false, .op false, .op false, .op false, .op false, .op false, .op false, .sel 1, .op false, .op false, .op false, .op false, .op false, .sel 1, .sel 2], .br true, .r [] []]) (r := AV.tup [AV.lit (Value.slice none 0 0), i64 11]) Try.func47 (by kernel_rfl) (.c oz0 <| .c oz1 <| .c oz2 <| .c (show BlkW (Blk.slc 5 1 (List.map (row1 IntKind.u8) ([] ++ L (↑(List.map nodC x.n).length : Int)))) (Blk.slc 5 1 (List.map (row1 IntKind.u8) (accB x.n ([] ++ L (↑(List.map nodC x.n).length : Int)) 0))) from (BlkW.rows (e := 5) (z := 1) (rows_to (row1 IntKind.u8) (r := List.map (row1 IntKind.u8) ([] ++ L (↑(List.map nodC x.n).length : Int))) (l := [] ++ L (↑(List.map nodC x.n).length : Int)) (m := accB x.n ([] ++ L (↑(List.map nodC x.n).length : Int)) 0) rfl (show ([] ++ L (↑(List.map nodC x.n).length : Int)) = (accB x.n ([] ++ L (↑(List.map nodC x.n).length : Int)) 0) from (by (simp_all; done)))))) <| .c oz4 <| .c hc0 <| .n)).weak (WeakL.refl _) (Weak.tup (.cons (Weak.nil _) (.cons (Weak.int (show ((11) : Int) = (3) from (by (simp_all; done)))) .nil)))
  · have gc0 : x.ex = true ∨ (¬(↑(List.map (row1 IntKind.i8) x.w).length : Int) > 0 ∧ ¬(↑(List.map (row1 IntKind.i32) x.b).length : Int) > 0) ∧ x.nd = 0 := by first | (simp only [Bool.or_eq_true, Bool.or_eq_false_iff, Bool.and_eq_true, Bool.and_eq_false_iff, Bool.not_eq_true', Bool.not_eq_false', decide_eq_true_eq, decide_eq_false_iff_not, beq_iff_eq, bne_iff_ne, ne_eq, beq_eq_false_iff_ne, bne_eq_false_iff_eq, eqNums, Bool.and_true] at hc0; first | exact hc0 | omega) | simpa using hc0 | (simp at hc0 ⊢; omega) | (apply Classical.byContradiction; intro hn; simp_all [eqNums]; done) | (apply Classical.byContradiction; intro hn; simp [eqNums] at hc0 hn; omega)
    have oz4 := @rblk_y (x) ([] ++ L (↑(List.map nodC x.n).length : Int)) hn hl (by (simp only [List.length_map] at *; omega)) h
    exact (VC.run (fn := Try.f47) (W := [.r [] [], .r [] [], .br false, .r [] [.callm [] [(951, 20000)] (rM oz1) (oM oz1)], .r [] [], .code [.any (rg [(0, 1), (2, 2), (9, 8)]), .ren 20000 900, .weak 5 (wO oz2), .blk 900 (Blk.slc 5 1 (List.map (row1 IntKind.u8) (accB x.n ([] ++ L (↑(List.map nodC x.n).length : Int)) 0))), .sort] (Exit.exit 0) (zO oz4), .r [] [], .r [] [.op false, .op false, .op false, .op false, .op false, .op false, .op false, .op false, .op false, .op false, .sel 1, .op false, .op false, .op false, .op false, .op false, .sel 1, .sel 2], .br false, .r [] [.op false, .op false, .op false, .op false, .sel 1, .op false, .op false, .op false, .op false, .sel 1], .br true, .r [] []]) (r := AV.tup [AV.lit (Value.slice none 0 0), i64 3]) Try.func47 (by kernel_rfl) (.c oz0 <| .c oz1 <| .c oz2 <| .c (show BlkW (Blk.slc 5 1 (List.map (row1 IntKind.u8) ([] ++ L (↑(List.map nodC x.n).length : Int)))) (Blk.slc 5 1 (List.map (row1 IntKind.u8) (accB x.n ([] ++ L (↑(List.map nodC x.n).length : Int)) 0))) from (BlkW.rows (e := 5) (z := 1) (rows_to (row1 IntKind.u8) (r := List.map (row1 IntKind.u8) ([] ++ L (↑(List.map nodC x.n).length : Int))) (l := [] ++ L (↑(List.map nodC x.n).length : Int)) (m := accB x.n ([] ++ L (↑(List.map nodC x.n).length : Int)) 0) rfl (show ([] ++ L (↑(List.map nodC x.n).length : Int)) = (accB x.n ([] ++ L (↑(List.map nodC x.n).length : Int)) 0) from (by rfl))))) <| .c oz4 <| .c hc0 <| .c (show (decide (x.nd < 0) || decide ((↑(List.map (row1 IntKind.i8) x.w).length : Int) > 16384) || decide ((↑(List.map (row1 IntKind.i32) x.b).length : Int) > 16384)) = true by (simp; omega)) <| .n)).weak (WeakL.refl _) (Weak.tup (.cons (Weak.nil _) (.cons (.refl _) .nil)))
theorem rblock_xn (L : Int → List Int) (x : Blc) (hL : RPuts L) (hn : Nods x.n) (hl : x.n.length ≤ 8) (h : ∀ k, k < x.n.length → (nodeR (x.n.getD k default)).2 = 0) (he : x.ex = false) (h2 : ¬ (0 < x.w.length ∨ 0 < x.b.length ∨ x.nd ≠ 0)) : VC Try.prog 47 ([blc x]) (.tup [.sl 1 ((accB x.n ([] ++ L (x.n.length : Int)) x.n.length ++ L 0).map (row1 .u8)), i64 0]) := by
  have hB : ([] ++ L (x.n.length : Int)).length ≤ 10 := hL.l _
  have hA : (accB x.n ([] ++ L (x.n.length : Int)) x.n.length).length ≤ 400000 := by
    have := accB_le hn ([] ++ L (x.n.length : Int)) (Nat.le_refl _)
    omega
  have oz1 := @VM.pre _ _ ([AV.lit (Value.slice none 0 0), i64 (↑(List.map nodC x.n).length : Int)]) _ ([]) _ _ _ ([GI.nils 0 950 5 1, GI.sort]) _ (@rput_1 ([]) (L) ((↑(List.map nodC x.n).length : Int)) (by (simp; done)) hL) (by kernel_rfl) (.n)
  have oz4 := @rblk_y (x) ([] ++ L (↑(List.map nodC x.n).length : Int)) hn hl (by (simp only [List.length_map] at *; omega)) h
  have oz6 := (decide_eq_false (p := (x.nd < 0)) (by omega))
  have oz13 := @rput_1 (accB x.n ([] ++ L (↑(List.map nodC x.n).length : Int)) x.n.length) (L) (0) (by (simp only [List.length_map] at *; omega)) hL
  exact (VC.run (fn := Try.f47) (W := [.r [] [], .r [] [], .br false, .r [] [.callm [] [(951, 20000)] (rM oz1) (oM oz1)], .r [] [], .code [.any (rg [(0, 1), (2, 2), (9, 8)]), .ren 20000 900, .weak 5 (i64 (↑0 : Int)), .blk 900 (Blk.slc 5 1 (List.map (row1 IntKind.u8) (accB x.n ([] ++ L (↑(List.map nodC x.n).length : Int)) 0))), .sort] (Exit.exit 0) (zO oz4), .r [] [], .r [] [.op false, .op false, .op false, .op false, .op false, .op false, .op false, .op false, .op false, .op false, .sel 1, .op false, .op false, .op false, .op false, .op false, .sel 1, .sel 2], .br false, .r [] [.br true, .br true, .br true, .br true, .br false, .op false, .op false, .op false, .op false, .sel 1], .br false, .r [] [], .br true, .r [] [.callm [(900, 950)] [(951, 20001)] (rM oz13) (oM oz13)]]) (r := AV.tup [AV.sl 1 (List.map (row1 IntKind.u8) (accB x.n ([] ++ L (↑(List.map nodC x.n).length : Int)) x.n.length ++ L 0)), i64 0]) Try.func47 (by kernel_rfl) (.c (show decide ((↑(List.map nodC x.n).length : Int) > 8) = false by (simp; omega)) <| .c oz1 <| .c (Weak.int (k := .i64) (show ((0) : Int) = ((↑0 : Int)) from (by omega))) <| .c (show BlkW (Blk.slc 5 1 (List.map (row1 IntKind.u8) ([] ++ L (↑(List.map nodC x.n).length : Int)))) (Blk.slc 5 1 (List.map (row1 IntKind.u8) (accB x.n ([] ++ L (↑(List.map nodC x.n).length : Int)) 0))) from (BlkW.rows (e := 5) (z := 1) (rows_to (row1 IntKind.u8) (r := List.map (row1 IntKind.u8) ([] ++ L (↑(List.map nodC x.n).length : Int))) (l := [] ++ L (↑(List.map nodC x.n).length : Int)) (m := accB x.n ([] ++ L (↑(List.map nodC x.n).length : Int)) 0) rfl (show ([] ++ L (↑(List.map nodC x.n).length : Int)) = (accB x.n ([] ++ L (↑(List.map nodC x.n).length : Int)) 0) from (by rfl))))) <| .c oz4 <| .c (show (!x.ex && (decide ((↑(List.map (row1 IntKind.i8) x.w).length : Int) > 0) || decide ((↑(List.map (row1 IntKind.i32) x.b).length : Int) > 0) || x.nd != 0)) = false by (simp only [decide_eq_true_eq, decide_eq_false_iff_not, beq_iff_eq, bne_iff_ne, ne_eq, beq_eq_false_iff_ne, bne_eq_false_iff_eq, Bool.not_eq_true', Bool.not_eq_false', Bool.not_eq_eq_eq_not, Bool.not_true, Bool.not_false, Classical.not_not, Int.not_lt, Int.not_le, Bool.and_eq_true, Bool.and_eq_false_iff, Bool.or_eq_true, Bool.or_eq_false_iff, Bool.and_true, Bool.true_and, Bool.and_false, Bool.false_and, Bool.or_false, Bool.false_or, eqNums, List.length_map, List.length_append, List.length_cons, List.length_nil, List.length_set, List.length_replicate, List.length_take, List.length_drop, List.length_range, Int.toNat_natCast, Nat.zero_add, List.map_eq_nil_iff]; (first | done | with_reducible assumption | omega | contradiction))) <| .c oz6 <| .c oz6 <| .c oz6 <| .c oz6 <| .c oz6 <| .c (show (decide ((↑(List.map (row1 IntKind.i8) x.w).length : Int) > 16384) || decide ((↑(List.map (row1 IntKind.i32) x.b).length : Int) > 16384)) = false by (simp; omega)) <| .c (show (!x.ex) = true by (simp; omega)) <| .c oz13 <| .n)).weak (WeakL.refl _) (Weak.tup (.cons (Weak.rows (rows_to (row1 IntKind.u8) (r := List.map (row1 IntKind.u8) (accB x.n ([] ++ L (↑(List.map nodC x.n).length : Int)) x.n.length ++ L 0)) (l := accB x.n ([] ++ L (↑(List.map nodC x.n).length : Int)) x.n.length ++ L 0) (m := accB x.n ([] ++ L (↑x.n.length : Int)) x.n.length ++ L 0) rfl (show (accB x.n ([] ++ L (↑(List.map nodC x.n).length : Int)) x.n.length ++ L 0) = (accB x.n ([] ++ L (↑x.n.length : Int)) x.n.length ++ L 0) from (by (simp; done))))) (.cons (.refl _) .nil)))
theorem rblock_xy (L : Int → List Int) (x : Blc) (hL : RPuts L) (ok : x.Ok) (hn : Nods x.n) (hl : x.n.length ≤ 8) (h : ∀ k, k < x.n.length → (nodeR (x.n.getD k default)).2 = 0) (he : x.ex = true) (hw : x.w.length ≤ 16384) (hb : x.b.length ≤ 16384) (h0 : 0 ≤ x.nd) : VC Try.prog 47 ([blc x]) (.tup [.sl 1 ((accB x.n ([] ++ L (x.n.length : Int)) x.n.length ++ L 1 ++ L (x.w.length : Int) ++ smallL x.w ++ L (x.b.length : Int) ++ wideL x.b ++ L x.nd).map (row1 .u8)), i64 0]) := by
  have hB : ([] ++ L (x.n.length : Int)).length ≤ 10 := hL.l _
  have h32 := ok.b
  have hnd := ok.nd
  have q1 := hL.l 1
  have q2 := hL.l (x.w.length : Int)
  have q3 := hL.l (x.b.length : Int)
  have q4 : (smallL x.w).length = x.w.length := List.length_map _
  have q5 := wideL_len x.b h32
  have hA : (accB x.n ([] ++ L (x.n.length : Int)) x.n.length).length ≤ 1000000 := by
    have := accB_le hn ([] ++ L (x.n.length : Int)) (Nat.le_refl _)
    omega
  have hC : (accB x.n ([] ++ L (x.n.length : Int)) x.n.length ++ L 1).length ≤ 500000 := by
    have := accB_le hn ([] ++ L (x.n.length : Int)) (Nat.le_refl _)
    rw [List.length_append]; omega
  have hD : (accB x.n ([] ++ L (x.n.length : Int)) x.n.length ++ L 1 ++ L (x.w.length : Int) ++ smallL x.w ++ L (x.b.length : Int) ++ wideL x.b).length ≤ 1000000 := by
    have := accB_le hn ([] ++ L (x.n.length : Int)) (Nat.le_refl _)
    simp only [List.length_append] at *; omega
  have w5 : x.w.length ≤ 100000 := by omega
  clear q1 q2 q3 q4 q5
  have oz0 := (show decide ((↑(List.map nodC x.n).length : Int) > 8) = false by (simp; omega))
  have oz1 := @VM.pre _ _ ([AV.lit (Value.slice none 0 0), i64 (↑(List.map nodC x.n).length : Int)]) _ ([]) _ _ _ ([GI.nils 0 950 5 1, GI.sort]) _ (@rput_1 ([]) (L) ((↑(List.map nodC x.n).length : Int)) (by (simp; done)) hL) (by kernel_rfl) (.n)
  have oz2 := (Weak.int (k := .i64) (show ((0) : Int) = ((↑0 : Int)) from (by omega)))
  rcases Bool.eq_false_or_eq_true (!x.ex && (decide ((↑(List.map (row1 IntKind.i8) x.w).length : Int) > 0) || decide ((↑(List.map (row1 IntKind.i32) x.b).length : Int) > 0) || x.nd != 0)) with hc0 | hc0
  · have gc0 : x.ex = false ∧ (((↑(List.map (row1 IntKind.i8) x.w).length : Int) > 0 ∨ (↑(List.map (row1 IntKind.i32) x.b).length : Int) > 0) ∨ ¬x.nd = 0) := by first | (simp only [Bool.or_eq_true, Bool.or_eq_false_iff, Bool.and_eq_true, Bool.and_eq_false_iff, Bool.not_eq_true', Bool.not_eq_false', decide_eq_true_eq, decide_eq_false_iff_not, beq_iff_eq, bne_iff_ne, ne_eq, beq_eq_false_iff_ne, bne_eq_false_iff_eq, eqNums, Bool.and_true] at hc0; first | exact hc0 | omega) | simpa using hc0 | (simp at hc0 ⊢; omega) | (apply Classical.byContradiction; intro hn; simp_all [eqNums]; done) | (apply Classical.byContradiction; intro hn; simp [eqNums] at hc0 hn; omega)
    have oz4 := @rblk_y (x) ([] ++ L (↑(List.map nodC x.n).length : Int)) hn hl (by (simp only [List.length_map] at *; omega)) h
    exact (VC.run (fn := Try.f47) (W := [.r [] [], .r [] [], .br false, .r [] [.callm [] [(951, 20000)] (rM oz1) (oM oz1)], .r [] [], .code [.any (rg [(0, 1), (2, 2), (9, 8)]), .ren 20000 900, .weak 5 (wO oz2), .blk 900 (Blk.slc 5 1 (List.map (row1 IntKind.u8) (accB x.n ([] ++ L (↑(List.map nodC x.n).length : Int)) 0))), .sort] (Exit.exit 0) (zO oz4), .r [] [], .r [] [.op false, .op false, .op false, .op false, .op false, .op false, .op false, .op false, .op false, .op false, .sel 1, .op false, .op false, .op false, .op false, .op false, .sel 1, .sel 2], .br true, .r [] []]) (r := AV.tup [AV.lit (Value.slice none 0 0), i64 11]) Try.func47 (by kernel_rfl) (.c oz0 <| .c oz1 <| .c oz2 <| .c (show BlkW (Blk.slc 5 1 (List.map (row1 IntKind.u8) ([] ++ L (↑(List.map nodC x.n).length : Int)))) (Blk.slc 5 1 (List.map (row1 IntKind.u8) (accB x.n ([] ++ L (↑(List.map nodC x.n).length : Int)) 0))) from (BlkW.rows (e := 5) (z := 1) (rows_to (row1 IntKind.u8) (r := List.map (row1 IntKind.u8) ([] ++ L (↑(List.map nodC x.n).length : Int))) (l := [] ++ L (↑(List.map nodC x.n).length : Int)) (m := accB x.n ([] ++ L (↑(List.map nodC x.n).length : Int)) 0) rfl (show ([] ++ L (↑(List.map nodC x.n).length : Int)) = (accB x.n ([] ++ L (↑(List.map nodC x.n).length : Int)) 0) from (by (simp_all; done)))))) <| .c oz4 <| .c hc0 <| .n)).weak (WeakL.refl _) (Weak.tup (.cons (Weak.nilr (show [] = (List.map (row1 IntKind.u8) (accB x.n ([] ++ L (↑x.n.length : Int)) x.n.length ++ L 1 ++ L (↑x.w.length : Int) ++ smallL x.w ++ L (↑x.b.length : Int) ++ wideL x.b ++ L x.nd)) from (by (simp_all; done)))) (.cons (Weak.int (show ((11) : Int) = (0) from (by (simp_all; done)))) .nil)))
  · have gc0 : x.ex = true ∨ (¬(↑(List.map (row1 IntKind.i8) x.w).length : Int) > 0 ∧ ¬(↑(List.map (row1 IntKind.i32) x.b).length : Int) > 0) ∧ x.nd = 0 := by first | (simp only [Bool.or_eq_true, Bool.or_eq_false_iff, Bool.and_eq_true, Bool.and_eq_false_iff, Bool.not_eq_true', Bool.not_eq_false', decide_eq_true_eq, decide_eq_false_iff_not, beq_iff_eq, bne_iff_ne, ne_eq, beq_eq_false_iff_ne, bne_eq_false_iff_eq, eqNums, Bool.and_true] at hc0; first | exact hc0 | omega) | simpa using hc0 | (simp at hc0 ⊢; omega) | (apply Classical.byContradiction; intro hn; simp_all [eqNums]; done) | (apply Classical.byContradiction; intro hn; simp [eqNums] at hc0 hn; omega)
    have oz4 := @rblk_y (x) ([] ++ L (↑(List.map nodC x.n).length : Int)) hn hl (by (simp only [List.length_map] at *; omega)) h
    have oz6 := (decide_eq_false (p := (x.nd < 0)) (by omega))
    have oz13 := @rput_1 (accB x.n ([] ++ L (↑(List.map nodC x.n).length : Int)) x.n.length) (L) (1) (by (simp only [List.length_map] at *; omega)) hL
    have oz14 := @rlists_v (accB x.n ([] ++ L (↑(List.map nodC x.n).length : Int)) x.n.length ++ L 1) (L) (x.w) (x.b) (by (simp only [List.length_map] at *; omega)) hL w5 hb h32
    have oz16 := @rput_1 (accB x.n ([] ++ L (↑(List.map nodC x.n).length : Int)) x.n.length ++ L 1 ++ L (↑x.w.length : Int) ++ smallL x.w ++ L (↑x.b.length : Int) ++ wideL x.b) (L) (x.nd) (by (simp only [List.length_map] at *; omega)) hL
    exact (VC.run (fn := Try.f47) (W := [.r [] [], .r [] [], .br false, .r [] [.callm [] [(951, 20000)] (rM oz1) (oM oz1)], .r [] [], .code [.any (rg [(0, 1), (2, 2), (9, 8)]), .ren 20000 900, .weak 5 (wO oz2), .blk 900 (Blk.slc 5 1 (List.map (row1 IntKind.u8) (accB x.n ([] ++ L (↑(List.map nodC x.n).length : Int)) 0))), .sort] (Exit.exit 0) (zO oz4), .r [] [], .r [] [.op false, .op false, .op false, .op false, .op false, .op false, .op false, .op false, .op false, .op false, .sel 1, .op false, .op false, .op false, .op false, .op false, .sel 1, .sel 2], .br false, .r [] [.br true, .br true, .br true, .br true, .br false, .op false, .op false, .op false, .op false, .sel 1], .br false, .r [] [], .br false, .r [] [.callm [(900, 950)] [(951, 20001)] (rM oz13) (oM oz13), .callm [(20001, 950)] [(951, 20002)] (rM oz14) (oM oz14), .n x.nd, .callm [(20002, 950)] [(951, 20003)] (rM oz16) (oM oz16)]]) (r := AV.tup [AV.sl 1 (List.map (row1 IntKind.u8) (accB x.n ([] ++ L (↑(List.map nodC x.n).length : Int)) x.n.length ++ L 1 ++ L (↑x.w.length : Int) ++ smallL x.w ++ L (↑x.b.length : Int) ++ wideL x.b ++ L x.nd)), i64 0]) Try.func47 (by kernel_rfl) (.c oz0 <| .c oz1 <| .c oz2 <| .c (show BlkW (Blk.slc 5 1 (List.map (row1 IntKind.u8) ([] ++ L (↑(List.map nodC x.n).length : Int)))) (Blk.slc 5 1 (List.map (row1 IntKind.u8) (accB x.n ([] ++ L (↑(List.map nodC x.n).length : Int)) 0))) from (BlkW.rows (e := 5) (z := 1) (rows_to (row1 IntKind.u8) (r := List.map (row1 IntKind.u8) ([] ++ L (↑(List.map nodC x.n).length : Int))) (l := [] ++ L (↑(List.map nodC x.n).length : Int)) (m := accB x.n ([] ++ L (↑(List.map nodC x.n).length : Int)) 0) rfl (show ([] ++ L (↑(List.map nodC x.n).length : Int)) = (accB x.n ([] ++ L (↑(List.map nodC x.n).length : Int)) 0) from (by rfl))))) <| .c oz4 <| .c hc0 <| .c oz6 <| .c oz6 <| .c oz6 <| .c oz6 <| .c oz6 <| .c (show (decide ((↑(List.map (row1 IntKind.i8) x.w).length : Int) > 16384) || decide ((↑(List.map (row1 IntKind.i32) x.b).length : Int) > 16384)) = false by (simp; omega)) <| .c (show (!x.ex) = false by (simp; omega)) <| .c oz13 <| .c oz14 <| .c (IntWalk.i64_in x.nd (by omega)) <| .c oz16 <| .n)).weak (WeakL.refl _) (Weak.tup (.cons (Weak.rows (rows_to (row1 IntKind.u8) (r := List.map (row1 IntKind.u8) (accB x.n ([] ++ L (↑(List.map nodC x.n).length : Int)) x.n.length ++ L 1 ++ L (↑x.w.length : Int) ++ smallL x.w ++ L (↑x.b.length : Int) ++ wideL x.b ++ L x.nd)) (l := accB x.n ([] ++ L (↑(List.map nodC x.n).length : Int)) x.n.length ++ L 1 ++ L (↑x.w.length : Int) ++ smallL x.w ++ L (↑x.b.length : Int) ++ wideL x.b ++ L x.nd) (m := accB x.n ([] ++ L (↑x.n.length : Int)) x.n.length ++ L 1 ++ L (↑x.w.length : Int) ++ smallL x.w ++ L (↑x.b.length : Int) ++ wideL x.b ++ L x.nd) rfl (show (accB x.n ([] ++ L (↑(List.map nodC x.n).length : Int)) x.n.length ++ L 1 ++ L (↑x.w.length : Int) ++ smallL x.w ++ L (↑x.b.length : Int) ++ wideL x.b ++ L x.nd) = (accB x.n ([] ++ L (↑x.n.length : Int)) x.n.length ++ L 1 ++ L (↑x.w.length : Int) ++ smallL x.w ++ L (↑x.b.length : Int) ++ wideL x.b ++ L x.nd) from (by (simp; done))))) (.cons (.refl _) .nil)))
theorem nodes_first (l : List Nod) : (∀ k, k < l.length → (nodeR (l.getD k default)).2 = 0) ∨ ∃ m, m < l.length ∧ ¬ (nodeR (l.getD m default)).2 = 0 ∧ ∀ k, k < m → (nodeR (l.getD k default)).2 = 0 := first_of
theorem mem_of_getD {l : List Nod} {p : Nod → Prop} (h : ∀ k, k < l.length → p (l.getD k default)) : ∀ n ∈ l, p n := by
  intro n hn
  obtain ⟨k, hk, e⟩ := List.mem_iff_getElem.1 hn
  have := h k hk
  rwa [List.getD_eq_getElem?_getD, List.getElem?_eq_getElem hk, Option.getD_some, e] at this
theorem headX_ex {x : Blc} (h : headX x = 0) (he : x.ex = true) : 0 ≤ x.nd ∧ x.w.length ≤ 16384 ∧ x.b.length ≤ 16384 := by
  unfold headX at h
  rw [if_neg (by rw [he]; simp)] at h
  by_cases q : x.nd < 0 ∨ 16384 < x.w.length ∨ 16384 < x.b.length
  · rw [if_pos q] at h; cases h
  · omega
theorem headX_n {x : Blc} (h : headX x = 0) (he : x.ex = false) : ¬ (0 < x.w.length ∨ 0 < x.b.length ∨ x.nd ≠ 0) := fun q => by
  unfold headX at h; rw [if_pos ⟨he, q⟩] at h; cases h
theorem pblock_v (x : Blc) (ok : x.Ok) (hw : ∀ n ∈ x.n, n.w.length ≤ 3000 ∧ n.b.length ≤ 3000) : VC Try.prog 46 [blc x] (.tup [.sl 1 ((blockR x).1.map (row1 .u8)), i64 (blockR x).2]) := by
  have hn : Nods x.n := ⟨ok.n, hw⟩
  by_cases h1 : 8 < x.n.length
  · rw [show blockR x = ([], 4) from by unfold blockR; rw [if_pos h1]]; exact pblock_f x h1
  rcases nodes_first x.n with h | ⟨m, hm, hf, h⟩
  · have hE := nodesE_y (mem_of_getD h)
    by_cases h3 : headX x = 0
    · rw [show blockR x = (exitL (accB x.n (putN (x.n.length : Int)) x.n.length) x, 0) from by unfold blockR; rw [if_neg h1, if_neg (by simpa using hE), if_neg (by simpa using h3)]]
      unfold exitL
      cases he : x.ex with
      | true =>
        rw [if_pos rfl]
        have q := headX_ex h3 he
        exact pblock_xy putN x puts ok hn (by omega) h h3 he q.2.1 q.2.2
      | false =>
        rw [if_neg (by simp)]
        exact pblock_xn putN x puts hn (by omega) h h3 he
    · rw [show blockR x = ([], headX x) from by unfold blockR; rw [if_neg h1, if_neg (by simpa using hE), if_pos h3]]
      exact pblock_h putN x puts hn (by omega) h h3
  · have hE := nodesE_n hm hf h
    rw [show blockR x = ([], (nodeR (x.n.getD m default)).2) from by unfold blockR; rw [if_neg h1, hE, if_pos hf]]
    exact pblock_n putN x m puts hn (by omega) hm hf h
theorem rblock_v (x : Blc) (ok : x.Ok) (hw : ∀ n ∈ x.n, n.w.length ≤ 3000 ∧ n.b.length ≤ 3000) : VC Try.prog 47 [blc x] (.tup [.sl 1 ((blockR x).1.map (row1 .u8)), i64 (blockR x).2]) := by
  have hn : Nods x.n := ⟨ok.n, hw⟩
  by_cases h1 : 8 < x.n.length
  · rw [show blockR x = ([], 4) from by unfold blockR; rw [if_pos h1]]; exact rblock_f x h1
  rcases nodes_first x.n with h | ⟨m, hm, hf, h⟩
  · have hE := nodesE_y (mem_of_getD h)
    by_cases h3 : headX x = 0
    · rw [show blockR x = (exitL (accB x.n (putN (x.n.length : Int)) x.n.length) x, 0) from by unfold blockR; rw [if_neg h1, if_neg (by simpa using hE), if_neg (by simpa using h3)]]
      unfold exitL
      cases he : x.ex with
      | true =>
        rw [if_pos rfl]
        have q := headX_ex h3 he
        exact rblock_xy putN x rputs ok hn (by omega) h he q.2.1 q.2.2 q.1
      | false =>
        rw [if_neg (by simp)]
        exact rblock_xn putN x rputs hn (by omega) h he (headX_n h3 he)
    · rw [show blockR x = ([], headX x) from by unfold blockR; rw [if_neg h1, if_neg (by simpa using hE), if_pos h3]]
      unfold headX
      by_cases ha : x.ex = false ∧ (0 < x.w.length ∨ 0 < x.b.length ∨ x.nd ≠ 0)
      · rw [if_pos ha]; exact rblock_ha putN x rputs hn (by omega) h ha.1 ha.2
      · rw [if_neg ha]
        by_cases hb : x.nd < 0 ∨ 16384 < x.w.length ∨ 16384 < x.b.length
        · rw [if_pos hb]; exact rblock_hb putN x rputs hn (by omega) h ha hb
        · exact absurd (by unfold headX; rw [if_neg ha, if_neg hb]) h3
  · have hE := nodesE_n hm hf h
    rw [show blockR x = ([], (nodeR (x.n.getD m default)).2) from by unfold blockR; rw [if_neg h1, hE, if_pos hf]]
    exact rblock_n putN x m rputs hn (by omega) hm hf h
end Go.Proofs.Ytgecmooedhnenaa
/- What is taken is no larger than the bytes. No condition. (Plain.) -/
namespace Go.Proofs.Ytgecmooedhnenaa
open Go.RowKit
set_option linter.unusedSimpArgs false
set_option linter.unusedVariables false
set_option linter.unnecessarySimpa false
theorem lst_le {s : Rst} {k : Nat} (h : s.1.length ≤ k) : (lstS s).1.length ≤ k := wid_le (cnt_le (sml_le (cnt_le h _) _) _) _
theorem scl_le {s : Rst} {k : Nat} (h : s.1.length ≤ k) : (sclS s).1.length ≤ k := cnt_le (cnt_le h _) _
theorem lstW_sm {s : Rst} {k : Nat} (h : s.1.length ≤ k) : (lstW s).length ≤ k := Nat.le_trans (smlV_len _ _) (cnt_le h _)
theorem lstB_sm {s : Rst} {k : Nat} (h : s.1.length ≤ k) : (lstB s).length ≤ k := Nat.le_trans (widV_len _ _) (cnt_le (sml_le (cnt_le h _) _) _)
theorem takeS_sm {s : Rst} {k : Nat} (h : s.1.length ≤ k) : (takeS s).1.length ≤ k := by
  unfold takeS
  repeat' split
  all_goals (first | unfold ts_1 | unfold ts_2 | unfold ts_3 | unfold ts_4 | unfold ts_6 | unfold ts_7 | unfold ts_8 | unfold ts_9)
  all_goals (repeat first | exact h | apply cnt_le | apply sml_le | apply lst_le | apply scl_le)
theorem takeN_sm {s : Rst} {k : Nat} (h : s.1.length ≤ k) : (takeN s).w.length ≤ k ∧ (takeN s).b.length ≤ k := by
  unfold takeN
  repeat' split
  all_goals (first | unfold tn_1 | unfold tn_2 | unfold tn_3 | unfold tn_4 | unfold tn_6 | unfold tn_7 | unfold tn_8 | unfold tn_9)
  all_goals (constructor <;> first | exact Nat.zero_le _ | (apply lstW_sm; repeat first | exact h | apply cnt_le | apply sml_le | apply lst_le | apply scl_le) | (apply lstB_sm; repeat first | exact h | apply cnt_le | apply sml_le | apply lst_le | apply scl_le))
theorem takeR_sm {s : Rst} {k : Nat} (h : s.1.length ≤ k) : (takeR s).1.w.length ≤ k ∧ (takeR s).1.b.length ≤ k := by
  unfold takeR
  split
  · exact ⟨Nat.zero_le _, Nat.zero_le _⟩
  · split
    · exact ⟨Nat.zero_le _, Nat.zero_le _⟩
    · exact takeN_sm h
theorem tkS_sm {s : Rst} {k : Nat} (h : s.1.length ≤ k) (n : Nat) : (tkS s n).1.length ≤ k := by
  induction n with
  | zero => exact h
  | succ n ih => exact takeS_sm ih
theorem tkL_sm {s : Rst} {k : Nat} (h : s.1.length ≤ k) (n : Nat) : ∀ y ∈ tkL s n, y.w.length ≤ k ∧ y.b.length ≤ k := by
  induction n with
  | zero => intro y hy; cases hy
  | succ n ih =>
    intro y hy
    rw [tkL, List.mem_append] at hy
    rcases hy with hy | hy
    · exact ih y hy
    · rw [List.mem_singleton] at hy; subst hy; exact takeR_sm (tkS_sm h n)
theorem blkT_sm {s : Rst} {k : Nat} (h : s.1.length ≤ k) : ∀ y ∈ (blkT s).1.1.n, y.w.length ≤ k ∧ y.b.length ≤ k := by
  rcases blkT_cases s with ⟨m, hm, hf, hh⟩ | ⟨hh, hb⟩ | ⟨hh, hb⟩
  · rw [blkT_f hm hf hh]; intro y hy; cases hy
  · rw [blkT_b hh hb]; intro y hy; cases hy
  · rw [blkT_y hh hb]
    have : (exN (stB s) (nodesT s)).n = nodesT s := by unfold exN; split <;> rfl
    rw [this]
    exact tkL_sm (cnt_le h 8) _
end Go.Proofs.Ytgecmooedhnenaa
/- Bytes alike; a reader of bytes. No condition. -/
namespace Go.Proofs.Ytgecmooedhnenaa
open Go.RowKit
set_option linter.unusedSimpArgs false
set_option linter.unusedVariables false
set_option linter.unnecessarySimpa false
noncomputable def same06_l_I (l : List Int) (k : Nat) : VS := stt 26 [(0, .sl 1 (l.map (row1 .u8))), (1, .sl 1 (l.map (row1 .u8))), (5, i64 k)] []
noncomputable def same06_l_Z (l : List Int) : VS := same06_l_I l (l.length)
theorem same06_l_s (l : List Int) (hl : l.length ≤ 10000000) (k : Nat) (hk : k < l.length) : VT Try.prog (fnC Try.f42 [1, 1, 0, 1, 0, 0]) (same06_l_I l k) .normal (same06_l_I l (k + 1)) := by
  have oz1 := (show 0 ≤ (↑k : Int) by omega)
  have oz2 := (map_at (row1 IntKind.u8) (0) (l := l) (i := k) hk)
  exact VT.run (W := [.r [] [], .br true, .r [] [.row (sO oz2), .row (sO oz2)], .br false, .r [] [.n ((↑k : Int) + 1)]]) (G := [.any (rg [(11, 15)]), .weak 5 (i64 (↑(k + 1) : Int)), .sort]) (by kernel_rfl) (.c (show decide ((↑k : Int) < (↑(List.map (row1 IntKind.u8) l).length : Int)) = true by (simp; omega)) <| .c oz1 <| .c oz2 <| .c oz1 <| .c oz2 <| .c (show (l.getD k 0 != l.getD k 0) = false by (simp; done)) <| .c (IntWalk.i64_in ((↑k : Int) + 1) (by omega)) <| .c (Weak.int (k := .i64) (show (((↑k : Int) + 1) : Int) = ((↑(k + 1) : Int)) from (by omega))) <| .n)
theorem same06_l_e (l : List Int) (hl : l.length ≤ 10000000) : VT Try.prog (fnC Try.f42 [1, 1, 0, 1, 0, 0]) (same06_l_I l (l.length)) (.exit 0) (same06_l_Z l) := by
  exact VT.run (W := [.r [] [], .br false]) (G := [.any (rg [(11, 4)]), .sort]) (by kernel_rfl) (.c (show decide ((↑l.length : Int) < (↑(List.map (row1 IntKind.u8) l).length : Int)) = false by (simp; done)) <| .n)
theorem same06_l (l : List Int) (hl : l.length ≤ 10000000) : VT Try.prog (fnC Try.f42 [1, 1, 0, 1, 0]) (same06_l_I l 0) (.exit 0) (same06_l_Z l) :=
  VT.loop (fun k => same06_l_I l k) (l.length) (fun k hk => same06_l_s l hl k hk) (same06_l_e l hl) (by intro h; cases h)
theorem same06_v (l : List Int) (hl : l.length ≤ 10000000) : VC Try.prog 42 ([.sl 1 (l.map (row1 .u8)), .sl 1 (l.map (row1 .u8))]) (bv true) := by
  have oz2 := @same06_l (l) hl
  exact VC.run (fn := Try.f42) (W := [.r [] [], .r [] [], .br false, .r [] [], .code [.any [4, 6, 7, 8, 9, 10], .weak 5 (i64 (↑0 : Int)), .sort] (Exit.exit 0) (zO oz2), .r [] []]) Try.func42 (by kernel_rfl) (.c (show ((↑(List.map (row1 IntKind.u8) l).length : Int) != (↑(List.map (row1 IntKind.u8) l).length : Int)) = false by (simp; done)) <| .c (Weak.int (k := .i64) (show ((0) : Int) = ((↑0 : Int)) from (by omega))) <| .c oz2 <| .n)
theorem read_v (d : List Int) (hd : d.length ≤ 1000000) : VM Try.prog 39 ([.sl 1 (d.map (row1 .u8))]) ([]) (.ptr 950 0 0) ([(950, .var (rdC (d, 0)))]) := by
  exact VM.run (fn := Try.f39) (W := [.r [] [], .r [] []]) (G := [.frz 4, .ren 6 950, .sort]) Try.func39 (by kernel_rfl) (.c (show (List.map (row1 IntKind.u8) d).length * 1 ≤ 140737488355328 by (simp only [List.length_map]; omega)) <| .c (show (List.map (row1 IntKind.u8) d).length ≤ 9223372036854775807 by (simp only [List.length_map]; omega)) <| .n)
end Go.Proofs.Ytgecmooedhnenaa
/- Bytes alike; a reader of bytes; what must come of fixed calls. No condition. -/
namespace Go.Proofs.Ytgecmooedhnenaa
open Go.RowKit
set_option linter.unusedSimpArgs false
set_option linter.unusedVariables false
set_option linter.unnecessarySimpa false
theorem putL_9 : putL 9 = [9] := by unfold putL; rfl
theorem putL_0 : putL 0 = [0] := by unfold putL; rfl
theorem nodeR_9 : nodeR ⟨9, 0, 0, 0, 0, 0, 0, 0, 0, [], [], 0, 0, 0, 0, 0, 0, 0, 0⟩ = ([9, 0], 0) := by
  have h : nodeR ⟨9, 0, 0, 0, 0, 0, 0, 0, 0, [], [], 0, 0, 0, 0, 0, 0, 0, 0⟩ = (putN 9 ++ putN 0, 0) := rfl
  rw [h, putN_eq (by decide) (by decide), putN_eq (by decide) (by decide)]
  show (putL 9 ++ putL 0, 0) = _
  rw [putL_9, putL_0]; rfl
theorem pnode9_v : VC Try.prog 37 [.agg [i64 9, i64 0, i64 0, i64 0, i64 0, i64 0, i64 0, i8 0, i8 0, .sl 1 [], .sl 1 [], i32 0, i64 0, i8 0, i32 0, i64 0, i8 0, i8 0, i8 0]] (.tup [.sl 1 (([9, 0] : List Int).map (row1 .u8)), i64 0]) := by
  have h := pnode_v ⟨9, 0, 0, 0, 0, 0, 0, 0, 0, [], [], 0, 0, 0, 0, 0, 0, 0, 0⟩ (by constructor <;> first | (constructor <;> decide) | (intro v hv; cases hv)) (by decide) (by decide)
  rw [nodeR_9] at h
  exact h
theorem known34_v   : VC Try.prog 36 ([]) (bv true) := by
  have oz1 := @pnode9_v
  have oz2 := @take_nil
  have oz3 := (show true = true by with_reducible rfl)
  exact VC.run (fn := Try.f36) (W := [.r [] [], .r [] [.call (aO oz1) (rO oz1)], .r [] [.callr (rO oz2)], .r [] [.br true, .br true, .il [9, 0], .br true, .br true, .br true, .br true, .br true]]) Try.func36 (by kernel_rfl) (.c (show WeakL [AV.agg [i64 9, i64 0, i64 0, i64 0, i64 0, i64 0, i64 0, i8 0, i8 0, AV.lit (Value.slice none 0 0), AV.lit (Value.slice none 0 0), i32 0, i64 0, i8 0, i32 0, i64 0, i8 0, i8 0, i8 0]] [AV.agg [i64 9, i64 0, i64 0, i64 0, i64 0, i64 0, i64 0, i8 0, i8 0, AV.sl 1 [], AV.sl 1 [], i32 0, i64 0, i8 0, i32 0, i64 0, i8 0, i8 0, i8 0]] from (.cons (Weak.agg (.cons (.refl _) (.cons (.refl _) (.cons (.refl _) (.cons (.refl _) (.cons (.refl _) (.cons (.refl _) (.cons (.refl _) (.cons (.refl _) (.cons (.refl _) (.cons (Weak.nil _) (.cons (Weak.nil _) (.cons (.refl _) (.cons (.refl _) (.cons (.refl _) (.cons (.refl _) (.cons (.refl _) (.cons (.refl _) (.cons (.refl _) (.cons (.refl _) .nil)))))))))))))))))))) .nil)) <| .c oz1 <| .c oz2 <| .c oz3 <| .c oz3 <| .c (show [[u8 (9 : Int)], [u8 (0 : Int)]] = List.map (fun (n : Int) => [u8 n]) [(9 : Int), (0 : Int)] from rfl) <| .c oz3 <| .c oz3 <| .c oz3 <| .c oz3 <| .c oz3 <| .n)
end Go.Proofs.Ytgecmooedhnenaa
/- Bytes that are gone through. No condition. -/
namespace Go.Proofs.Ytgecmooedhnenaa
open Go.RowKit
set_option linter.unusedSimpArgs false
set_option linter.unusedVariables false
set_option linter.unnecessarySimpa false
structure Byt (d : List Int) : Prop where
  b : ∀ x ∈ d, 0 ≤ x ∧ x ≤ 255
  l : d.length ≤ 3000
theorem Byt.fit {d : List Int} (h : Byt d) : Rst.Fit (d, 0) := ⟨h.b, by have := h.l; dsimp only; omega, by simp⟩
end Go.Proofs.Ytgecmooedhnenaa
/- A reader of bytes that the caller has made. No condition. -/
namespace Go.Proofs.Ytgecmooedhnenaa
open Go.RowKit
set_option linter.unusedSimpArgs false
set_option linter.unusedVariables false
set_option linter.unnecessarySimpa false
theorem readO_v (d : List Int) (hd : d.length ≤ 1000000) : VM Try.prog 39 ([.own 950]) ([(950, .slc 5 1 (d.map (row1 .u8)))]) (.ptr 951 0 0) ([(951, .var (rdC (d, 0)))]) := by
  exact VM.run (fn := Try.f39) (W := [.r [] [], .r [] []]) (G := [.frz 4, .drop [950], .ren 6 951, .sort]) Try.func39 (by kernel_rfl) (.c (show (List.map (row1 IntKind.u8) d).length * 1 ≤ 140737488355328 by (simp only [List.length_map]; omega)) <| .c (show (List.map (row1 IntKind.u8) d).length ≤ 9223372036854775807 by (simp only [List.length_map]; omega)) <| .n)
end Go.Proofs.Ytgecmooedhnenaa
/- Blocks are bytes, and come back: the law. No condition. -/
namespace Go.Proofs.Ytgecmooedhnenaa
open Go.RowKit
set_option linter.unusedSimpArgs false
set_option linter.unusedVariables false
set_option linter.unnecessarySimpa false
noncomputable def sblk_l_I (x : Blc) (k : Nat) : VS := stt 68 [(2, .ptr 2 0 0), (3, .ptr 3 0 0), (5, i64 k)] [(2, .var (blcC x)), (3, .var (blcC x))]
noncomputable def sblk_l_Z (x : Blc) : VS := sblk_l_I x (x.n.length)
theorem sblk_l_s (x : Blc) (hl : x.n.length ≤ 100) (hw : ∀ n ∈ x.n, n.w.length ≤ 100000 ∧ n.b.length ≤ 100000) (k : Nat) (hk : k < x.n.length) : VT Try.prog (fnC Try.f49 [1, 1, 0, 1, 0, 0]) (sblk_l_I x k) .normal (sblk_l_I x (k + 1)) := by
  obtain ⟨q1, q2⟩ := getD_in hw hk
  have qe : nodEq (x.n.getD k default) (x.n.getD k default) = true := (nodEq_iff _ _).2 rfl
  have oz1 := (show 0 ≤ (↑k : Int) by omega)
  have oz2 := (map_at (nodC) (default) (l := x.n) (i := k) hk)
  have oz5 := @refSame_v (x.n.getD k default) (x.n.getD k default) q1 q2
  exact VT.run (W := [.r [] [], .br true, .r [] [.row (sO oz2), .row (sO oz2), .callr (rO oz5)], .br false, .r [] [.n ((↑k : Int) + 1)]]) (G := [.any (rg [(49, 19)]), .weak 5 (i64 (↑(k + 1) : Int)), .sort]) (by kernel_rfl) (.c (show decide ((↑k : Int) < (↑(List.map nodC x.n).length : Int)) = true by (simp; omega)) <| .c oz1 <| .c oz2 <| .c oz1 <| .c oz2 <| .c oz5 <| .c (show (!nodEq (x.n.getD k default) (x.n.getD k default)) = false by (simp at *; omega)) <| .c (IntWalk.i64_in ((↑k : Int) + 1) (by omega)) <| .c (Weak.int (k := .i64) (show (((↑k : Int) + 1) : Int) = ((↑(k + 1) : Int)) from (by omega))) <| .n)
theorem sblk_l_e (x : Blc) (hl : x.n.length ≤ 100) (hw : ∀ n ∈ x.n, n.w.length ≤ 100000 ∧ n.b.length ≤ 100000) : VT Try.prog (fnC Try.f49 [1, 1, 0, 1, 0, 0]) (sblk_l_I x (x.n.length)) (.exit 0) (sblk_l_Z x) := by
  exact VT.run (W := [.r [] [], .br false]) (G := [.any (rg [(49, 5)]), .sort]) (by kernel_rfl) (.c (show decide ((↑x.n.length : Int) < (↑(List.map nodC x.n).length : Int)) = false by (simp; done)) <| .n)
theorem sblk_l (x : Blc) (hl : x.n.length ≤ 100) (hw : ∀ n ∈ x.n, n.w.length ≤ 100000 ∧ n.b.length ≤ 100000) : VT Try.prog (fnC Try.f49 [1, 1, 0, 1, 0]) (sblk_l_I x 0) (.exit 0) (sblk_l_Z x) :=
  VT.loop (fun k => sblk_l_I x k) (x.n.length) (fun k hk => sblk_l_s x hl hw k hk) (sblk_l_e x hl hw) (by intro h; cases h)
theorem sblk_v (x : Blc) (hl : x.n.length ≤ 100) (hw : ∀ n ∈ x.n, n.w.length ≤ 100000 ∧ n.b.length ≤ 100000) (h1 : x.w.length ≤ 100000) (h2 : x.b.length ≤ 100000) : VC Try.prog 49 ([blc x, blc x]) (bv true) := by
  have z1 : (x.ex != x.ex) = false := by simp
  have z2 : decide (x.w = x.w) = true := by simp
  have z3 : decide (x.b = x.b) = true := by simp
  have oz0 := @rsame8_v (x.w) (x.w) (by omega)
  have oz1 := @rsame32_v (x.b) (x.b) (by omega)
  have oz4 := @sblk_l (x) hl hw
  exact VC.run (fn := Try.f49) (W := [.r [] [], .r [] [.op false, .op false, .op false, .op false, .op false, .sel 1, .op false, .op false, .op false, .op false, .op false, .op false, .op false, .sel 1, .op false, .op false, .op false, .op false, .op false, .op false, .op false, .callr (rO oz0), .op false, .sel 1, .op false, .op false, .op false, .op false, .op false, .op false, .op false, .callr (rO oz1), .op false, .sel 1], .br false, .r [] [], .code [.any [0, 1, 4, 6, 7, 8, 9, 10, 11, 12, 13, 19, 20, 28, 29, 38, 39, 48], .weak 5 (i64 (↑0 : Int)), .sort] (Exit.exit 0) (zO oz4), .r [] []]) Try.func49 (by kernel_rfl) (.c oz0 <| .c oz1 <| .c (show ((↑(List.map nodC x.n).length : Int) != (↑(List.map nodC x.n).length : Int) || !x.ex == x.ex || x.nd != x.nd || !decide (x.w = x.w) || !decide (x.b = x.b)) = false by (simp; done)) <| .c (Weak.int (k := .i64) (show ((0) : Int) = ((↑0 : Int)) from (by omega))) <| .c oz4 <| .n)
def ByR (l : List Int) : Prop := ∀ x ∈ l, 0 ≤ x ∧ x ≤ 255
theorem ByR.app {a b : List Int} (h : ByR a) (g : ByR b) : ByR (a ++ b) := fun x hx => by
  rcases List.mem_append.1 hx with q | q
  · exact h x q
  · exact g x q
theorem ByR.nil : ByR [] := fun x hx => by cases hx
theorem ByR.put (x : Int) : ByR (putN x) := putL_rng _
theorem ByR.sml (l : List Int) : ByR (smallL l) := fun x hx => by
  obtain ⟨y, _, rfl⟩ := List.mem_map.1 hx; omega
theorem ByR.wid (l : List Int) : ByR (wideL l) := wideL_rng l
theorem ByR.one (x : Int) : ByR [IntKind.u8.wrap x] := by rw [← small1]; exact ByR.sml _
theorem nodeL_rng (n : Nod) : ByR (nodeL putN n) := by
  unfold nodeL
  repeat' split
  all_goals (first | unfold lb_1 | unfold lb_2 | unfold lb_3 | unfold lb_4 | unfold lb_6 | unfold lb_7 | unfold lb_8 | unfold lb_9)
  all_goals (repeat first | with_reducible exact ByR.put _ | with_reducible exact ByR.sml _ | with_reducible exact ByR.wid _ | with_reducible exact ByR.one _ | with_reducible apply ByR.app)
theorem nodeR_rng (n : Nod) : ByR (nodeR n).1 := by
  unfold nodeR
  split
  · exact ByR.nil
  · split
    · exact ByR.nil
    · split
      · exact ByR.nil
      · exact nodeL_rng n
theorem accB_rng (l : List Nod) {B : List Int} (h : ByR B) (k : Nat) : ByR (accB l B k) := by
  induction k with
  | zero => exact h
  | succ k ih => exact ih.app (nodeR_rng _)
theorem exitL_rng {B : List Int} (h : ByR B) (x : Blc) : ByR (exitL B x) := by
  unfold exitL
  split <;> (repeat first | with_reducible exact h | with_reducible exact ByR.put _ | with_reducible exact ByR.sml _ | with_reducible exact ByR.wid _ | with_reducible apply ByR.app)
theorem blockR_rng (x : Blc) : ByR (blockR x).1 := by
  unfold blockR
  split
  · exact ByR.nil
  · split
    · exact ByR.nil
    · split
      · exact ByR.nil
      · exact exitL_rng (accB_rng _ (ByR.put _) _) x
structure Blc.Fw (x : Blc) : Prop where
  ok : x.Ok
  n : ∀ n ∈ x.n, n.w.length ≤ 1000 ∧ n.b.length ≤ 100
  l : x.n.length ≤ 12
  w : x.w.length ≤ 4000
  b : x.b.length ≤ 100
theorem Blc.fw {x : Blc} (ok : x.Ok) (h : blcS x = true) : x.Fw := by
  obtain ⟨a, b, c⟩ := blcS_iff.1 h
  obtain ⟨d, _, e⟩ := few_facts a
  exact ⟨ok, e, d, b, c⟩
theorem accB_few {x : Blc} (h : x.Fw) (B : List Int) {k : Nat} (hk : k ≤ x.n.length) : (accB x.n B k).length ≤ B.length + 2200 * k := by
  induction k with
  | zero => exact Nat.le_refl _
  | succ k ih =>
    have a := ih (by omega)
    have b := nodeR_le _ (getD_in h.ok.n (show k < x.n.length by omega))
    have c := getD_in h.n (show k < x.n.length by omega)
    rw [accB, List.length_append]; omega
theorem blockR_few {x : Blc} (h : x.Fw) : (blockR x).1.length ≤ 50000 := by
  unfold blockR
  split
  · exact Nat.zero_le _
  · split
    · exact Nat.zero_le _
    · split
      · exact Nat.zero_le _
      · have a := accB_few h (putN (x.n.length : Int)) (Nat.le_refl _)
        have p := putN_len
        have p1 := p (x.n.length : Int); have p2 := p 1; have p3 := p (x.w.length : Int); have p4 := p (x.b.length : Int); have p5 := p x.nd; have p6 := p 0
        have w := wideL_len x.b h.ok.b
        have s : (smallL x.w).length = x.w.length := List.length_map _
        have h1 := h.l; have h2 := h.w; have h3 := h.b
        dsimp only
        unfold exitL
        split <;> simp only [List.length_append] <;> omega
theorem ptakeX_v (x : Blc) (d : List Int) (h : x.Fw) (e : (blockR x).2 = 0) (hd : Byt d) : VM Try.prog 48 [.ptr 100000 0 0] [(100000, .var (rdC ((blockR x).1 ++ d, 0)))] (.tup [blc x, i64 0]) [(100000, .var (rdC (d, 0)))] := by
  have l1 := blockR_few h
  have l2 := hd.l
  have q := ptake_v ((blockR x).1 ++ d, 0) ⟨ByR.app (blockR_rng x) hd.b, by dsimp only; rw [List.length_append]; omega, by simp⟩
  rw [blk_there h.ok e d] at q
  exact q
theorem ptakeD_v (d : List Int) (hd : Byt d) : VM Try.prog 48 [.ptr 100000 0 0] [(100000, .var (rdC (d, 0)))] (.tup [blc (blkT (d, 0)).1.1, i64 (blkT (d, 0)).1.2]) [(100000, .var (rdC (blkT (d, 0)).2))] := ptake_v (d, 0) hd.fit
theorem blkT_0 {s : Rst} (h : (blkT s).1.2 ≠ 0) : (blkT s).1.1.n = [] := by
  rcases blkT_cases s with ⟨m, hm, hf, hh⟩ | ⟨hh, hb⟩ | ⟨hh, hb⟩
  · rw [blkT_f hm hf hh]; rfl
  · rw [blkT_b hh hb]; rfl
  · rw [blkT_y hh hb] at h; exact absurd rfl h
theorem take_eq {d q r : List Int} (h : d = q ++ r) : d.take q.length = q := by rw [h, List.take_left]
theorem packBlocks_fa (x : Blc) (d : List Int) (few : blcS x = false) : VC Try.prog 10 ([blc x, .sl 1 (d.map (row1 .u8))]) (bv true) := by
  have oz0 := @few31_1 (x)
  have oz2 := @known34_v
  exact VC.run (fn := Try.f10) (W := [.r [] [], .r [] [.frz 0, .callr (rO oz0), .op false, .op false, .op false, .sel 1], .br true, .r [] [.callr (rO oz2)]]) Try.func10 (by kernel_rfl) (.c oz0 <| .c (show (!blcS x || decide ((↑(List.map (row1 IntKind.u8) d).length : Int) > 3000)) = true by (rw [few]; rfl)) <| .c oz2 <| .n)
theorem packBlocks_fb (x : Blc) (d : List Int) (few : blcS x = true) (h : d.length > 3000) : VC Try.prog 10 ([blc x, .sl 1 (d.map (row1 .u8))]) (bv true) := by
  have oz0 := @few31_1 (x)
  have oz2 := @known34_v
  exact VC.run (fn := Try.f10) (W := [.r [] [], .r [] [.frz 0, .callr (rO oz0), .op false, .op false, .op false, .sel 1], .br true, .r [] [.callr (rO oz2)]]) Try.func10 (by kernel_rfl) (.c oz0 <| .c (show (!blcS x || decide ((↑(List.map (row1 IntKind.u8) d).length : Int) > 3000)) = true by (rw [few]; simp only [Bool.not_true, Bool.false_or, decide_eq_true_eq, List.length_map]; omega)) <| .c oz2 <| .n)
theorem packBlocks_yy (x : Blc) (d : List Int) (few : blcS x = true) (fw : x.Fw) (hd : Byt d) (he : (blockR x).2 = 0) (hf : (blkT (d, 0)).1.2 = 0) : VC Try.prog 10 ([blc x, .sl 1 (d.map (row1 .u8))]) (bv true) := by
  have ql := hd.l
  have qi := hd.fit
  have ok := fw.ok
  have z1 : ((blockR x).2 != (blockR x).2) = false := by simp
  have z2 : ((blockR x).2 == 0) = true := by simpa using he
  have z3 : ((blkT (d, 0)).1.2 != 0) = false := by simpa using hf
  have b1 := blockR_few fw
  have b2 : (blockR x).1.length ≤ 10000000 := by omega
  have n1 : ∀ n ∈ x.n, n.w.length ≤ 3000 ∧ n.b.length ≤ 3000 := fun n hn => by have := fw.n n hn; omega
  have n2 : ∀ n ∈ x.n, n.w.length ≤ 100000 ∧ n.b.length ≤ 100000 := fun n hn => by have := fw.n n hn; omega
  have n3 := fw.l
  have b3 : ((blockR x).1 ++ d).length ≤ 1000000 := by rw [List.length_append]; omega
  have z7 : ((d.length : Int) != (d.length : Int)) = false := by simp
  have n4 : x.n.length ≤ 100 := by omega
  have n5 : x.w.length ≤ 100000 := by have := fw.w; omega
  have n6 : x.b.length ≤ 100000 := by have := fw.b; omega
  obtain ⟨t1, t2, t3, t4, t5, t6⟩ := blk_back qi.i hf
  have z4 : ((blockR (blkT (d, 0)).1.1).2 == 0) = true := by rw [t1]; rfl
  have t7 : d = (blockR (blkT (d, 0)).1.1).1 ++ (blkT (d, 0)).2.1 := t2
  have t8 : d.length = (blockR (blkT (d, 0)).1.1).1.length + (blkT (d, 0)).2.1.length := by have := congrArg List.length t7; rwa [List.length_append] at this
  have t9 := take_eq t7
  have z5 : decide ((((blockR (blkT (d, 0)).1.1).1.map (row1 .u8)).length : Int) ≤ ((d.map (row1 .u8)).length : Int)) = true := by simp only [List.length_map, decide_eq_true_eq]; omega
  have z6 : (((blkT (d, 0)).2.1.length : Int) == ((d.map (row1 .u8)).length : Int) - (((blockR (blkT (d, 0)).1.1).1.map (row1 .u8)).length : Int)) = true := by simp only [List.length_map, beq_iff_eq]; omega
  have z8 : (((blkT (d, 0)).2.1.length : Int) == IntKind.i64.wrap (((d.map (row1 .u8)).length : Int) - (((blockR (blkT (d, 0)).1.1).1.map (row1 .u8)).length : Int))) = true := by rw [IntWalk.i64_in _ (by simp only [List.length_map]; omega)]; exact z6
  have z9 : ((strOfNums (blockR (blkT (d, 0)).1.1).1).toList == (strOfNums (List.take (((blockR (blkT (d, 0)).1.1).1.map (row1 .u8)).length - 0) (List.drop 0 d))).toList) = true := by rw [List.length_map, Nat.sub_zero, List.drop_zero, t9]; exact beq_self_eq_true _
  have ta := blkT_sm (s := (d, 0)) ql
  have oz0 := @few31_1 (x)
  have oz2 := @pblock_v (x) ok n1
  have oz3 := @rblock_v (x) ok n1
  have oz7 := @same06_v ((blockR x).fst) b2
  have oz10 := (show false = false by with_reducible rfl)
  have oz16 := @VM.pre _ _ ([AV.own 950]) _ ([(950, Blk.slc 5 1 ([] ++ List.map (row1 IntKind.u8) (blockR x).fst ++ List.map (row1 IntKind.u8) d))]) _ _ _ ([GI.blk 950 (Blk.slc 5 1 (List.map (row1 IntKind.u8) ([] ++ (blockR x).fst ++ d))), GI.sort]) _ (@readO_v ([] ++ (blockR x).fst ++ d) (by (simp; omega))) (by kernel_rfl) (.c (BlkW.rows (e := 5) (z := 1) (rows_to (row1 IntKind.u8) (r := [] ++ List.map (row1 IntKind.u8) (blockR x).fst ++ List.map (row1 IntKind.u8) d) (l := [] ++ (blockR x).fst ++ d) (m := [] ++ (blockR x).fst ++ d) (by first | (simp only [List.map_append, List.map_cons, List.map_nil, List.map_set, List.map_replicate, List.map_take, List.map_drop]; done) | rfl | (simp only [List.map_append, List.map_cons, List.map_nil, List.map_set, List.map_replicate, List.map_take, List.map_drop]; rfl)) rfl)) <| .n)
  have oz17 := @VM.pre _ _ ([AV.ptr 100000 0 0]) _ ([(100000, Blk.var [AV.sl 1 (List.map (row1 IntKind.u8) ([] ++ (blockR x).fst ++ d)), i64 0])]) _ _ _ ([GI.blk 100000 (Blk.var [AV.sl 1 (List.map (row1 IntKind.u8) ((blockR x).fst ++ d)), i64 0]), GI.sort]) _ (@ptakeX_v (x) (d) fw he hd) (by kernel_rfl) (.c (BlkW.var (m := [AV.sl 1 (List.map (row1 IntKind.u8) ((blockR x).fst ++ d)), i64 0]) (.cons (Weak.rows (rows_to (row1 IntKind.u8) (r := List.map (row1 IntKind.u8) ([] ++ (blockR x).fst ++ d)) (l := [] ++ (blockR x).fst ++ d) (m := (blockR x).fst ++ d) rfl (show ([] ++ (blockR x).fst ++ d) = ((blockR x).fst ++ d) from (by (simp; done))))) (.cons (.refl _) .nil))) <| .n)
  have oz21 := @sblk_v (x) n4 n2 n5 n6
  have oz26 := @left_v ((d, 0))
  have oz32 := @read_v (d) (by omega)
  have oz33 := @ptakeD_v (d) hd
  have oz35 := @pblock_v ((blkT (d, 0)).fst.fst) t4 ta
  have oz44 := @left_v ((blkT (d, 0)).snd)
  have oz50 := (show IntKind.i64.wrap ((↑(List.map (row1 IntKind.u8) d).length : Int) - (↑(List.map (row1 IntKind.u8) (blockR (blkT (d, 0)).fst.fst).fst).length : Int)) = (↑(List.map (row1 IntKind.u8) d).length : Int) - (↑(List.map (row1 IntKind.u8) (blockR (blkT (d, 0)).fst.fst).fst).length : Int) by (simp at *; omega))
  have oz69 := @known34_v
  exact VC.run (fn := Try.f10) (W := [.r [] [], .r [] [.frz 0, .callr (rO oz0), .op false, .op false, .op false, .sel 1], .br false, .r [] [.callr (rO oz2)], .r [] [.callr (rO oz3)], .r [] [.br true, .br true, .br true, .callr (rO oz7), .br true, .br false], .br false, .r [] [], .br true, .r [] [.callm [(55, 950)] [(951, 20000)] (rM oz16) (oM oz16)], .r [] [.callm [(20000, 100000)] [] (rM oz17) (oM oz17)], .r [] [.br true, .br true, .br true, .callr (rO oz21), .br true, .br false, .br true, .br true, .callm [(20000, 100000)] [] (rM oz26) (oM oz26), .br true, .br true, .br true, .br false], .br false, .r [] [.callm [] [(950, 20001)] (rM oz32) (oM oz32)], .r [] [.callm [(20001, 100000)] [] (rM oz33) (oM oz33)], .r [] [], .br false, .r [] [.callr (rO oz35)], .r [] [.br true, .br true, .br true, .br true, .br true, .br true, .br true, .br true, .callm [(20001, 100000)] [] (rM oz44) (oM oz44), .br true, .br true, .br true, .br true, .br true, .n (nO oz50), .br true, .br true, .br true, .br true, .il (blockR (blkT (d, 0)).fst.fst).fst, .br true, .br true, .br true, .br true, .nats 0 (List.map (row1 IntKind.u8) (blockR (blkT (d, 0)).fst.fst).fst).length, .br true, .il (List.take ((List.map (row1 IntKind.u8) (blockR (blkT (d, 0)).fst.fst).fst).length - 0) (List.drop 0 d)), .br true, .br true, .br true, .callr (rO oz69), .br true]]) Try.func10 (by kernel_rfl) (.c oz0 <| .c (show (!blcS x || decide ((↑(List.map (row1 IntKind.u8) d).length : Int) > 3000)) = false by (rw [few]; simp only [Bool.not_true, Bool.false_or, decide_eq_false_iff_not, List.length_map]; omega)) <| .c oz2 <| .c oz3 <| .c z1 <| .c z1 <| .c z1 <| .c oz7 <| .c z1 <| .c z1 <| .c oz10 <| .c z2 <| .c (show (0 + (List.map (row1 IntKind.u8) (blockR x).fst).length) * 1 ≤ 140737488355328 by (simp; omega)) <| .c (show 0 + (List.map (row1 IntKind.u8) (blockR x).fst).length ≤ 9223372036854775807 by (simp; omega)) <| .c (show (([] ++ List.map (row1 IntKind.u8) (blockR x).fst).length + (List.map (row1 IntKind.u8) d).length) * 1 ≤ 140737488355328 by (simp; omega)) <| .c (show ([] ++ List.map (row1 IntKind.u8) (blockR x).fst).length + (List.map (row1 IntKind.u8) d).length ≤ 9223372036854775807 by (simp; omega)) <| .c oz16 <| .c oz17 <| .c oz10 <| .c oz10 <| .c oz10 <| .c oz21 <| .c oz10 <| .c oz10 <| .c oz10 <| .c oz10 <| .c oz26 <| .c oz10 <| .c oz10 <| .c oz10 <| .c oz10 <| .c (show ((↑d.length : Int) != (↑(List.map (row1 IntKind.u8) d).length : Int)) = false by (simp; done)) <| .c oz32 <| .c oz33 <| .c z3 <| .c oz35 <| .c z4 <| .c z4 <| .c z4 <| .c z4 <| .c z4 <| .c z4 <| .c z5 <| .c z5 <| .c oz44 <| .c z5 <| .c z5 <| .c z5 <| .c z5 <| .c z5 <| .c oz50 <| .c z5 <| .c z5 <| .c z6 <| .c z6 <| .c (show List.map (row1 IntKind.u8) (blockR (blkT (d, 0)).fst.fst).fst = List.map (fun (n : Int) => [u8 n]) (blockR (blkT (d, 0)).fst.fst).fst from rfl) <| .c z6 <| .c z6 <| .c z6 <| .c z6 <| .c (show (0 : Nat) = (0 : Nat) by with_reducible rfl) <| .c (show (↑(List.map (row1 IntKind.u8) (blockR (blkT (d, 0)).fst.fst).fst).length : Int) = (↑(List.map (row1 IntKind.u8) (blockR (blkT (d, 0)).fst.fst).fst).length : Int) by with_reducible rfl) <| .c (show 0 ≤ (List.map (row1 IntKind.u8) (blockR (blkT (d, 0)).fst.fst).fst).length by omega) <| .c (show (List.map (row1 IntKind.u8) (blockR (blkT (d, 0)).fst.fst).fst).length ≤ (List.map (row1 IntKind.u8) d).length by (simp; omega)) <| .c z6 <| .c (show List.take ((List.map (row1 IntKind.u8) (blockR (blkT (d, 0)).fst.fst).fst).length - 0) (List.drop 0 (List.map (row1 IntKind.u8) d)) = List.map (fun (n : Int) => [u8 n]) (List.take ((List.map (row1 IntKind.u8) (blockR (blkT (d, 0)).fst.fst).fst).length - 0) (List.drop 0 d)) by (simp; done)) <| .c z6 <| .c z6 <| .c z9 <| .c oz69 <| .c z9 <| .n)
theorem packBlocks_yn (x : Blc) (d : List Int) (few : blcS x = true) (fw : x.Fw) (hd : Byt d) (he : (blockR x).2 = 0) (hf : (blkT (d, 0)).1.2 ≠ 0) : VC Try.prog 10 ([blc x, .sl 1 (d.map (row1 .u8))]) (bv true) := by
  have ql := hd.l
  have qi := hd.fit
  have ok := fw.ok
  have z1 : ((blockR x).2 != (blockR x).2) = false := by simp
  have z2 : ((blockR x).2 == 0) = true := by simpa using he
  have z3 : ((blkT (d, 0)).1.2 != 0) = true := by simpa using hf
  have b1 := blockR_few fw
  have b2 : (blockR x).1.length ≤ 10000000 := by omega
  have n1 : ∀ n ∈ x.n, n.w.length ≤ 3000 ∧ n.b.length ≤ 3000 := fun n hn => by have := fw.n n hn; omega
  have n2 : ∀ n ∈ x.n, n.w.length ≤ 100000 ∧ n.b.length ≤ 100000 := fun n hn => by have := fw.n n hn; omega
  have n3 := fw.l
  have b3 : ((blockR x).1 ++ d).length ≤ 1000000 := by rw [List.length_append]; omega
  have z7 : ((d.length : Int) != (d.length : Int)) = false := by simp
  have n4 : x.n.length ≤ 100 := by omega
  have n5 : x.w.length ≤ 100000 := by have := fw.w; omega
  have n6 : x.b.length ≤ 100000 := by have := fw.b; omega
  have t0 := blkT_0 hf
  have oz0 := @few31_1 (x)
  have oz2 := @pblock_v (x) ok n1
  have oz3 := @rblock_v (x) ok n1
  have oz7 := @same06_v ((blockR x).fst) b2
  have oz10 := (show false = false by with_reducible rfl)
  have oz16 := @VM.pre _ _ ([AV.own 950]) _ ([(950, Blk.slc 5 1 ([] ++ List.map (row1 IntKind.u8) (blockR x).fst ++ List.map (row1 IntKind.u8) d))]) _ _ _ ([GI.blk 950 (Blk.slc 5 1 (List.map (row1 IntKind.u8) ([] ++ (blockR x).fst ++ d))), GI.sort]) _ (@readO_v ([] ++ (blockR x).fst ++ d) (by (simp; omega))) (by kernel_rfl) (.c (BlkW.rows (e := 5) (z := 1) (rows_to (row1 IntKind.u8) (r := [] ++ List.map (row1 IntKind.u8) (blockR x).fst ++ List.map (row1 IntKind.u8) d) (l := [] ++ (blockR x).fst ++ d) (m := [] ++ (blockR x).fst ++ d) (by first | (simp only [List.map_append, List.map_cons, List.map_nil, List.map_set, List.map_replicate, List.map_take, List.map_drop]; done) | rfl | (simp only [List.map_append, List.map_cons, List.map_nil, List.map_set, List.map_replicate, List.map_take, List.map_drop]; rfl)) rfl)) <| .n)
  have oz17 := @VM.pre _ _ ([AV.ptr 100000 0 0]) _ ([(100000, Blk.var [AV.sl 1 (List.map (row1 IntKind.u8) ([] ++ (blockR x).fst ++ d)), i64 0])]) _ _ _ ([GI.blk 100000 (Blk.var [AV.sl 1 (List.map (row1 IntKind.u8) ((blockR x).fst ++ d)), i64 0]), GI.sort]) _ (@ptakeX_v (x) (d) fw he hd) (by kernel_rfl) (.c (BlkW.var (m := [AV.sl 1 (List.map (row1 IntKind.u8) ((blockR x).fst ++ d)), i64 0]) (.cons (Weak.rows (rows_to (row1 IntKind.u8) (r := List.map (row1 IntKind.u8) ([] ++ (blockR x).fst ++ d)) (l := [] ++ (blockR x).fst ++ d) (m := (blockR x).fst ++ d) rfl (show ([] ++ (blockR x).fst ++ d) = ((blockR x).fst ++ d) from (by (simp; done))))) (.cons (.refl _) .nil))) <| .n)
  have oz21 := @sblk_v (x) n4 n2 n5 n6
  have oz26 := @left_v ((d, 0))
  have oz32 := @read_v (d) (by omega)
  have oz33 := @ptakeD_v (d) hd
  have oz35 := @known34_v
  exact (VC.run (fn := Try.f10) (W := [.r [] [], .r [] [.frz 0, .callr (rO oz0), .op false, .op false, .op false, .sel 1], .br false, .r [] [.callr (rO oz2)], .r [] [.callr (rO oz3)], .r [] [.br true, .br true, .br true, .callr (rO oz7), .br true, .br false], .br false, .r [] [], .br true, .r [] [.callm [(55, 950)] [(951, 20000)] (rM oz16) (oM oz16)], .r [] [.callm [(20000, 100000)] [] (rM oz17) (oM oz17)], .r [] [.br true, .br true, .br true, .callr (rO oz21), .br true, .br false, .br true, .br true, .callm [(20000, 100000)] [] (rM oz26) (oM oz26), .br true, .br true, .br true, .br false], .br false, .r [] [.callm [] [(950, 20001)] (rM oz32) (oM oz32)], .r [] [.callm [(20001, 100000)] [] (rM oz33) (oM oz33)], .r [] [], .br true, .r [] [.op false, .callr (rO oz35), .sel 1]]) (r := bv ((↑(List.map nodC (blkT (d, 0)).fst.fst.n).length : Int) == 0 || false)) Try.func10 (by kernel_rfl) (.c oz0 <| .c (show (!blcS x || decide ((↑(List.map (row1 IntKind.u8) d).length : Int) > 3000)) = false by (rw [few]; simp only [Bool.not_true, Bool.false_or, decide_eq_false_iff_not, List.length_map]; omega)) <| .c oz2 <| .c oz3 <| .c z1 <| .c z1 <| .c z1 <| .c oz7 <| .c z1 <| .c z1 <| .c oz10 <| .c z2 <| .c (show (0 + (List.map (row1 IntKind.u8) (blockR x).fst).length) * 1 ≤ 140737488355328 by (simp; omega)) <| .c (show 0 + (List.map (row1 IntKind.u8) (blockR x).fst).length ≤ 9223372036854775807 by (simp; omega)) <| .c (show (([] ++ List.map (row1 IntKind.u8) (blockR x).fst).length + (List.map (row1 IntKind.u8) d).length) * 1 ≤ 140737488355328 by (simp; omega)) <| .c (show ([] ++ List.map (row1 IntKind.u8) (blockR x).fst).length + (List.map (row1 IntKind.u8) d).length ≤ 9223372036854775807 by (simp; omega)) <| .c oz16 <| .c oz17 <| .c oz10 <| .c oz10 <| .c oz10 <| .c oz21 <| .c oz10 <| .c oz10 <| .c oz10 <| .c oz10 <| .c oz26 <| .c oz10 <| .c oz10 <| .c oz10 <| .c oz10 <| .c (show ((↑d.length : Int) != (↑(List.map (row1 IntKind.u8) d).length : Int)) = false by (simp; done)) <| .c oz32 <| .c oz33 <| .c z3 <| .c oz35 <| .n)).weak (WeakL.refl _) (Weak.bool (show (((↑(List.map nodC (blkT (d, 0)).fst.fst.n).length : Int) == 0 || false) : Bool) = (true) from (by (rw [t0]; rfl))))
theorem packBlocks_ny (x : Blc) (d : List Int) (few : blcS x = true) (fw : x.Fw) (hd : Byt d) (he : (blockR x).2 ≠ 0) (hf : (blkT (d, 0)).1.2 = 0) : VC Try.prog 10 ([blc x, .sl 1 (d.map (row1 .u8))]) (bv true) := by
  have ql := hd.l
  have qi := hd.fit
  have ok := fw.ok
  have z1 : ((blockR x).2 != (blockR x).2) = false := by simp
  have z2 : ((blockR x).2 == 0) = false := by simpa using he
  have z3 : ((blkT (d, 0)).1.2 != 0) = false := by simpa using hf
  have b1 := blockR_few fw
  have b2 : (blockR x).1.length ≤ 10000000 := by omega
  have n1 : ∀ n ∈ x.n, n.w.length ≤ 3000 ∧ n.b.length ≤ 3000 := fun n hn => by have := fw.n n hn; omega
  have n2 : ∀ n ∈ x.n, n.w.length ≤ 100000 ∧ n.b.length ≤ 100000 := fun n hn => by have := fw.n n hn; omega
  have n3 := fw.l
  have n4 : x.n.length ≤ 100 := by omega
  have n5 : x.w.length ≤ 100000 := by have := fw.w; omega
  have n6 : x.b.length ≤ 100000 := by have := fw.b; omega
  obtain ⟨t1, t2, t3, t4, t5, t6⟩ := blk_back qi.i hf
  have z4 : ((blockR (blkT (d, 0)).1.1).2 == 0) = true := by rw [t1]; rfl
  have t7 : d = (blockR (blkT (d, 0)).1.1).1 ++ (blkT (d, 0)).2.1 := t2
  have t8 : d.length = (blockR (blkT (d, 0)).1.1).1.length + (blkT (d, 0)).2.1.length := by have := congrArg List.length t7; rwa [List.length_append] at this
  have t9 := take_eq t7
  have z5 : decide ((((blockR (blkT (d, 0)).1.1).1.map (row1 .u8)).length : Int) ≤ ((d.map (row1 .u8)).length : Int)) = true := by simp only [List.length_map, decide_eq_true_eq]; omega
  have z6 : (((blkT (d, 0)).2.1.length : Int) == ((d.map (row1 .u8)).length : Int) - (((blockR (blkT (d, 0)).1.1).1.map (row1 .u8)).length : Int)) = true := by simp only [List.length_map, beq_iff_eq]; omega
  have z8 : (((blkT (d, 0)).2.1.length : Int) == IntKind.i64.wrap (((d.map (row1 .u8)).length : Int) - (((blockR (blkT (d, 0)).1.1).1.map (row1 .u8)).length : Int))) = true := by rw [IntWalk.i64_in _ (by simp only [List.length_map]; omega)]; exact z6
  have z9 : ((strOfNums (blockR (blkT (d, 0)).1.1).1).toList == (strOfNums (List.take (((blockR (blkT (d, 0)).1.1).1.map (row1 .u8)).length - 0) (List.drop 0 d))).toList) = true := by rw [List.length_map, Nat.sub_zero, List.drop_zero, t9]; exact beq_self_eq_true _
  have ta := blkT_sm (s := (d, 0)) ql
  have oz0 := @few31_1 (x)
  have oz2 := @pblock_v (x) ok n1
  have oz3 := @rblock_v (x) ok n1
  have oz7 := @same06_v ((blockR x).fst) b2
  have oz12 := @read_v (d) (by omega)
  have oz13 := @ptakeD_v (d) hd
  have oz15 := @pblock_v ((blkT (d, 0)).fst.fst) t4 ta
  have oz24 := @left_v ((blkT (d, 0)).snd)
  have oz30 := (show IntKind.i64.wrap ((↑(List.map (row1 IntKind.u8) d).length : Int) - (↑(List.map (row1 IntKind.u8) (blockR (blkT (d, 0)).fst.fst).fst).length : Int)) = (↑(List.map (row1 IntKind.u8) d).length : Int) - (↑(List.map (row1 IntKind.u8) (blockR (blkT (d, 0)).fst.fst).fst).length : Int) by (simp at *; omega))
  have oz49 := @known34_v
  exact VC.run (fn := Try.f10) (W := [.r [] [], .r [] [.frz 0, .callr (rO oz0), .op false, .op false, .op false, .sel 1], .br false, .r [] [.callr (rO oz2)], .r [] [.callr (rO oz3)], .r [] [.br true, .br true, .br true, .callr (rO oz7), .br true, .br false], .br false, .r [] [], .br false, .r [] [.callm [] [(950, 20000)] (rM oz12) (oM oz12)], .r [] [.callm [(20000, 100000)] [] (rM oz13) (oM oz13)], .r [] [], .br false, .r [] [.callr (rO oz15)], .r [] [.br true, .br true, .br true, .br true, .br true, .br true, .br true, .br true, .callm [(20000, 100000)] [] (rM oz24) (oM oz24), .br true, .br true, .br true, .br true, .br true, .n (nO oz30), .br true, .br true, .br true, .br true, .il (blockR (blkT (d, 0)).fst.fst).fst, .br true, .br true, .br true, .br true, .nats 0 (List.map (row1 IntKind.u8) (blockR (blkT (d, 0)).fst.fst).fst).length, .br true, .il (List.take ((List.map (row1 IntKind.u8) (blockR (blkT (d, 0)).fst.fst).fst).length - 0) (List.drop 0 d)), .br true, .br true, .br true, .callr (rO oz49), .br true]]) Try.func10 (by kernel_rfl) (.c oz0 <| .c (show (!blcS x || decide ((↑(List.map (row1 IntKind.u8) d).length : Int) > 3000)) = false by (rw [few]; simp only [Bool.not_true, Bool.false_or, decide_eq_false_iff_not, List.length_map]; omega)) <| .c oz2 <| .c oz3 <| .c z1 <| .c z1 <| .c z1 <| .c oz7 <| .c z1 <| .c z1 <| .c (show false = false by with_reducible rfl) <| .c z2 <| .c oz12 <| .c oz13 <| .c z3 <| .c oz15 <| .c z4 <| .c z4 <| .c z4 <| .c z4 <| .c z4 <| .c z4 <| .c z5 <| .c z5 <| .c oz24 <| .c z5 <| .c z5 <| .c z5 <| .c z5 <| .c z5 <| .c oz30 <| .c z5 <| .c z5 <| .c z6 <| .c z6 <| .c (show List.map (row1 IntKind.u8) (blockR (blkT (d, 0)).fst.fst).fst = List.map (fun (n : Int) => [u8 n]) (blockR (blkT (d, 0)).fst.fst).fst from rfl) <| .c z6 <| .c z6 <| .c z6 <| .c z6 <| .c (show (0 : Nat) = (0 : Nat) by with_reducible rfl) <| .c (show (↑(List.map (row1 IntKind.u8) (blockR (blkT (d, 0)).fst.fst).fst).length : Int) = (↑(List.map (row1 IntKind.u8) (blockR (blkT (d, 0)).fst.fst).fst).length : Int) by with_reducible rfl) <| .c (show 0 ≤ (List.map (row1 IntKind.u8) (blockR (blkT (d, 0)).fst.fst).fst).length by omega) <| .c (show (List.map (row1 IntKind.u8) (blockR (blkT (d, 0)).fst.fst).fst).length ≤ (List.map (row1 IntKind.u8) d).length by (simp; omega)) <| .c z6 <| .c (show List.take ((List.map (row1 IntKind.u8) (blockR (blkT (d, 0)).fst.fst).fst).length - 0) (List.drop 0 (List.map (row1 IntKind.u8) d)) = List.map (fun (n : Int) => [u8 n]) (List.take ((List.map (row1 IntKind.u8) (blockR (blkT (d, 0)).fst.fst).fst).length - 0) (List.drop 0 d)) by (simp; done)) <| .c z6 <| .c z6 <| .c z9 <| .c oz49 <| .c z9 <| .n)
theorem packBlocks_nn (x : Blc) (d : List Int) (few : blcS x = true) (fw : x.Fw) (hd : Byt d) (he : (blockR x).2 ≠ 0) (hf : (blkT (d, 0)).1.2 ≠ 0) : VC Try.prog 10 ([blc x, .sl 1 (d.map (row1 .u8))]) (bv true) := by
  have ql := hd.l
  have qi := hd.fit
  have ok := fw.ok
  have z1 : ((blockR x).2 != (blockR x).2) = false := by simp
  have z2 : ((blockR x).2 == 0) = false := by simpa using he
  have z3 : ((blkT (d, 0)).1.2 != 0) = true := by simpa using hf
  have b1 := blockR_few fw
  have b2 : (blockR x).1.length ≤ 10000000 := by omega
  have n1 : ∀ n ∈ x.n, n.w.length ≤ 3000 ∧ n.b.length ≤ 3000 := fun n hn => by have := fw.n n hn; omega
  have n2 : ∀ n ∈ x.n, n.w.length ≤ 100000 ∧ n.b.length ≤ 100000 := fun n hn => by have := fw.n n hn; omega
  have n3 := fw.l
  have n4 : x.n.length ≤ 100 := by omega
  have n5 : x.w.length ≤ 100000 := by have := fw.w; omega
  have n6 : x.b.length ≤ 100000 := by have := fw.b; omega
  have t0 := blkT_0 hf
  have oz0 := @few31_1 (x)
  have oz2 := @pblock_v (x) ok n1
  have oz3 := @rblock_v (x) ok n1
  have oz7 := @same06_v ((blockR x).fst) b2
  have oz12 := @read_v (d) (by omega)
  have oz13 := @ptakeD_v (d) hd
  have oz15 := @known34_v
  exact (VC.run (fn := Try.f10) (W := [.r [] [], .r [] [.frz 0, .callr (rO oz0), .op false, .op false, .op false, .sel 1], .br false, .r [] [.callr (rO oz2)], .r [] [.callr (rO oz3)], .r [] [.br true, .br true, .br true, .callr (rO oz7), .br true, .br false], .br false, .r [] [], .br false, .r [] [.callm [] [(950, 20000)] (rM oz12) (oM oz12)], .r [] [.callm [(20000, 100000)] [] (rM oz13) (oM oz13)], .r [] [], .br true, .r [] [.op false, .callr (rO oz15), .sel 1]]) (r := bv ((↑(List.map nodC (blkT (d, 0)).fst.fst.n).length : Int) == 0 || false)) Try.func10 (by kernel_rfl) (.c oz0 <| .c (show (!blcS x || decide ((↑(List.map (row1 IntKind.u8) d).length : Int) > 3000)) = false by (rw [few]; simp only [Bool.not_true, Bool.false_or, decide_eq_false_iff_not, List.length_map]; omega)) <| .c oz2 <| .c oz3 <| .c z1 <| .c z1 <| .c z1 <| .c oz7 <| .c z1 <| .c z1 <| .c (show false = false by with_reducible rfl) <| .c z2 <| .c oz12 <| .c oz13 <| .c z3 <| .c oz15 <| .n)).weak (WeakL.refl _) (Weak.bool (show (((↑(List.map nodC (blkT (d, 0)).fst.fst.n).length : Int) == 0 || false) : Bool) = (true) from (by (rw [t0]; rfl))))
theorem packBlocks_v (x : Blc) (d : List Int) (ok : x.Ok) (hd : ∀ v ∈ d, 0 ≤ v ∧ v ≤ 255) : VC Try.prog 10 [blc x, .sl 1 (d.map (row1 .u8))] (bv true) := by
  cases few : blcS x with
  | false => exact packBlocks_fa x d few
  | true =>
    by_cases h : d.length > 3000
    · exact packBlocks_fb x d few h
    · have fw := Blc.fw ok few
      have hB : Byt d := ⟨hd, by omega⟩
      by_cases he : (blockR x).2 = 0
      · by_cases hf : (blkT (d, 0)).1.2 = 0
        · exact packBlocks_yy x d few fw hB he hf
        · exact packBlocks_yn x d few fw hB he hf
      · by_cases hf : (blkT (d, 0)).1.2 = 0
        · exact packBlocks_ny x d few fw hB he hf
        · exact packBlocks_nn x d few fw hB he hf
end Go.Proofs.Ytgecmooedhnenaa
