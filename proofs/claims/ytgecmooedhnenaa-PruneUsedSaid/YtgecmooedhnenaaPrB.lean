/- What is left of a block without what nobody takes, by the program and by the document. No condition. -/
import Derived.Test.YtgecmooedhnenaaPrA
namespace Go.Proofs.Ytgecmooedhnenaa
open Go.RowKit
set_option linter.unusedSimpArgs false
set_option linter.unusedVariables false
set_option linter.unnecessarySimpa false

/-- How many numbers of a list lie below one. -/
def numI (L : List Int) (v : Int) : Int := ((L.filter fun u => decide (u < v)).length : Int)
theorem numI_le (L : List Int) (v : Int) : 0 ≤ numI L v ∧ numI L v ≤ L.length := by unfold numI; have := List.length_filter_le (fun u : Int => decide (u < v)) L; omega
theorem numI_step {L : List Int} {k : Nat} (hk : k < L.length) (v : Int) : numI (L.take (k + 1)) v = numI (L.take k) v + (if L.getD k 0 < v then 1 else 0) := by
  unfold numI
  rw [List.take_add_one, List.getElem?_eq_getElem hk, List.getD_eq_getElem?_getD, List.getElem?_eq_getElem hk]
  simp only [Option.toList_some, List.filter_append, List.length_append, Option.getD_some]
  by_cases h : L[k] < v <;> simp [h]
theorem numI_yes {L : List Int} {k : Nat} (hk : k < L.length) {v : Int} (h : L.getD k 0 < v) : numI (L.take (k + 1)) v = numI (L.take k) v + 1 := by rw [numI_step hk, if_pos h]
theorem numI_no {L : List Int} {k : Nat} (hk : k < L.length) {v : Int} (h : ¬ L.getD k 0 < v) : numI (L.take (k + 1)) v = numI (L.take k) v := by rw [numI_step hk, if_neg h]; omega
abbrev usI (us : List Nat) : List Int := us.map fun u : Nat => (u : Int)
theorem numI_us (us : List Nat) (v : Int) : numI (usI us) v = numU us v := by
  unfold numI numU usI
  rw [List.filter_map, List.length_map]; rfl
noncomputable def number_l_I (L : List Int) (v : Int) (k : Nat) : VS := stt 22 [(0, ints .i64 L), (1, i64 v), (5, i64 (numI (L.take k) v)), (6, i64 k)] []
noncomputable def number_l_Z (L : List Int) (v : Int) : VS := number_l_I L v (L.length)
set_option maxRecDepth 100000 in
set_option maxHeartbeats 2000000 in
theorem number_l_s (L : List Int) (v : Int) (hl : L.length ≤ 1000) (k : Nat) (hk : k < L.length) : VT Try.prog (fnC Try.f83 [1, 1, 0, 1, 0, 0]) (number_l_I L v k) .normal (number_l_I L v (k + 1)) := by
  have q := numI_le (L.take k) v
  have q2 : (L.take k).length = k := by rw [List.length_take]; omega
  have q3 := @numI_yes L k hk v
  have q4 := @numI_no L k hk v
  have oz0 := (show decide ((↑k : Int) < (↑(List.map (row1 IntKind.i64) L).length : Int)) = true by (simp; omega))
  have oz1 := (show 0 ≤ (↑k : Int) by omega)
  have oz2 := (map_at (row1 IntKind.i64) (0) (l := L) (i := k) hk)
  rcases Bool.eq_false_or_eq_true (decide (L.getD k 0 < v)) with hc0 | hc0
  · have gc0 := of_decide_eq_true hc0
    exact VT.run (W := [.r [] [], .br true, .r [] [.row (sO oz2)], .br true, .r [] [.n (numI (List.take k L) v + 1)], .r [] [.n ((↑k : Int) + 1)]]) (G := [.any (rg [(7, 14)]), .weak 5 (i64 (numI (List.take (k + 1) L) v)), .weak 6 (i64 (↑(k + 1) : Int)), .sort]) (by kernel_rfl) (.c oz0 <| .c oz1 <| .c oz2 <| .c hc0 <| .c (IntWalk.i64_in (numI (List.take k L) v + 1) (by omega)) <| .c (IntWalk.i64_in ((↑k : Int) + 1) (by omega)) <| .c (Weak.int (k := .i64) (show ((numI (List.take k L) v + 1) : Int) = (numI (List.take (k + 1) L) v) from (by omega))) <| .c (Weak.int (k := .i64) (show (((↑k : Int) + 1) : Int) = ((↑(k + 1) : Int)) from (by omega))) <| .n)
  · have gc0 := of_decide_eq_false hc0
    exact VT.run (W := [.r [] [], .br true, .r [] [.row (sO oz2)], .br false, .r [] [.n ((↑k : Int) + 1)]]) (G := [.any (rg [(7, 12)]), .weak 5 (i64 (numI (List.take (k + 1) L) v)), .weak 6 (i64 (↑(k + 1) : Int)), .sort]) (by kernel_rfl) (.c oz0 <| .c oz1 <| .c oz2 <| .c hc0 <| .c (IntWalk.i64_in ((↑k : Int) + 1) (by omega)) <| .c (Weak.int (k := .i64) (show ((numI (List.take k L) v) : Int) = (numI (List.take (k + 1) L) v) from (by omega))) <| .c (Weak.int (k := .i64) (show (((↑k : Int) + 1) : Int) = ((↑(k + 1) : Int)) from (by omega))) <| .n)
set_option maxRecDepth 100000 in
set_option maxHeartbeats 2000000 in
theorem number_l_e (L : List Int) (v : Int) (hl : L.length ≤ 1000) : VT Try.prog (fnC Try.f83 [1, 1, 0, 1, 0, 0]) (number_l_I L v (L.length)) (.exit 0) (number_l_Z L v) := by
  exact VT.run (W := [.r [] [], .br false]) (G := [.any [7, 8, 9, 10], .sort]) (by kernel_rfl) (.c (show decide ((↑L.length : Int) < (↑(List.map (row1 IntKind.i64) L).length : Int)) = false by (simp; done)) <| .n)
theorem number_l (L : List Int) (v : Int) (hl : L.length ≤ 1000) : VT Try.prog (fnC Try.f83 [1, 1, 0, 1, 0]) (number_l_I L v 0) (.exit 0) (number_l_Z L v) :=
  VT.loop (fun k => number_l_I L v k) (L.length) (fun k hk => number_l_s L v hl k hk) (number_l_e L v hl) (by intro h; cases h)

set_option maxRecDepth 100000 in
set_option maxHeartbeats 2000000 in
theorem number_v (L : List Int) (v : Int) (hl : L.length ≤ 1000) : VC Try.prog 83 ([ints .i64 L, i64 v]) (i64 (numI L v)) := by
  have oz2 := @number_l (L) (v) hl
  exact (VC.run (fn := Try.f83) (W := [.r [] [], .r [] [], .r [] [], .code [.any [4], .weak 5 (i64 (numI (List.take 0 L) v)), .weak 6 (i64 (↑0 : Int)), .sort] (Exit.exit 0) (zO oz2), .r [] []]) (r := i64 (numI (List.take L.length L) v)) Try.func83 (by kernel_rfl) (.c (Weak.int (k := .i64) (show ((0) : Int) = (numI (List.take 0 L) v) from (by rfl))) <| .c (Weak.int (k := .i64) (show ((0) : Int) = ((↑0 : Int)) from (by omega))) <| .c oz2 <| .n)).weak (WeakL.refl _) (Weak.int (show ((numI (List.take L.length L) v) : Int) = (numI L v) from (by (simp; done))))
/-- The places of the used nodes among the first k. -/
def usedI (l : List Nod) (k : Nat) : List Int := usI ((List.range k).filter (usedB l))
theorem usedI_all (l : List Nod) : usedI l l.length = usI (usedL l) := rfl
theorem usedI_len (l : List Nod) (k : Nat) : (usedI l k).length ≤ k := by
  unfold usedI usI; rw [List.length_map]; have := List.length_filter_le (usedB l) (List.range k); rw [List.length_range] at this; exact this
theorem usedI_yes {l : List Nod} {k : Nat} (h : usedB l k = true) : usedI l (k + 1) = usedI l k ++ [(k : Int)] := by
  unfold usedI usI; rw [List.range_succ, List.filter_append, List.map_append]; simp [h]
theorem usedI_no {l : List Nod} {k : Nat} (h : usedB l k = false) : usedI l (k + 1) = usedI l k := by
  unfold usedI usI; rw [List.range_succ, List.filter_append, List.map_append]; simp [h]
noncomputable def rused_l_I (l : List Nod) (k : Nat) : VS := stt 23 [(0, .sl 19 (l.map nodC)), (3, .own 900), (4, i64 k)] [(900, .slc 3 1 ((usedI l k).map (row1 .i64)))]
noncomputable def rused_l_Z (l : List Nod) : VS := rused_l_I l (l.length)
set_option maxRecDepth 100000 in
set_option maxHeartbeats 2000000 in
theorem rused_l_s (l : List Nod) (hl : l.length ≤ 1000) (ho : orderedB l = true) (k : Nat) (hk : k < l.length) : VT Try.prog (fnC Try.f24 [1, 1, 0, 1, 0, 0]) (rused_l_I l k) .normal (rused_l_I l (k + 1)) := by
  have q := usedI_len l k
  have q2 : (List.map (row1 .i64) (usedI l k)).length = (usedI l k).length := List.length_map _
  have q3 := @usedI_yes l k
  have q4 := @usedI_no l k
  have q0 : (List.map nodC l).length = l.length := List.length_map _
  have oz0 := (decide_eq_true (p := ((↑k : Int) < (↑(List.map nodC l).length : Int))) (by omega))
  have oz2 := @rord_v (l) hl
  have oz5 := @rIs_v (l) (k) hl hk
  rcases Bool.eq_false_or_eq_true (usedB l k) with hc0 | hc0
  · have gc0 : usedB l k = true := by first | exact hc0 | exact of_decide_eq_true hc0 | exact of_decide_eq_false hc0 | simpa [eqNums] using hc0 | (simp [eqNums] at hc0 ⊢; first | done | assumption | omega)
    exact VT.run (W := [.r [] [.br true, .br true, .callr (rO oz2), .br true], .br true, .r [] [.callr (rO oz5)], .br true, .r [] [], .r [] [.n ((↑k : Int) + 1)]]) (G := [.any (rg [(5, 17)]), .drop [20], .ren 21 900, .weak 4 (i64 (↑(k + 1) : Int)), .blk 900 (Blk.slc 3 1 (List.map (row1 IntKind.i64) (usedI l (k + 1)))), .sort]) (by kernel_rfl) (.c oz0 <| .c oz0 <| .c oz2 <| .c oz0 <| .c ho <| .c oz5 <| .c hc0 <| .c (show ((List.map (row1 IntKind.i64) (usedI l k)).length + 1) * 8 ≤ 140737488355328 by omega) <| .c (show (List.map (row1 IntKind.i64) (usedI l k)).length + 1 ≤ 9223372036854775807 by omega) <| .c (IntWalk.i64_in ((↑k : Int) + 1) (by omega)) <| .c (Weak.int (k := .i64) (show (((↑k : Int) + 1) : Int) = ((↑(k + 1) : Int)) from (by omega))) <| .c (show BlkW (Blk.slc 3 1 (List.map (row1 IntKind.i64) (usedI l k) ++ [[i64 (↑k : Int)]])) (Blk.slc 3 1 (List.map (row1 IntKind.i64) (usedI l (k + 1)))) from (BlkW.rows (rows_to (row1 IntKind.i64) (r := List.map (row1 IntKind.i64) (usedI l k) ++ [[i64 (↑k : Int)]]) (l := usedI l k ++ [(↑k : Int)]) (m := usedI l (k + 1)) (by first | (simp only [List.map_append, List.map_cons, List.map_nil, List.map_set, List.map_replicate, List.map_take, List.map_drop]; done) | rfl | (simp only [List.map_append, List.map_cons, List.map_nil, List.map_set, List.map_replicate, List.map_take, List.map_drop]; rfl)) (show (usedI l k ++ [(↑k : Int)]) = (usedI l (k + 1)) from (by (rw [q3 (by assumption)])))))) <| .n)
  · have gc0 : usedB l k = false := by first | exact hc0 | exact of_decide_eq_true hc0 | exact of_decide_eq_false hc0 | simpa [eqNums] using hc0 | (simp [eqNums] at hc0 ⊢; first | done | assumption | omega)
    exact VT.run (W := [.r [] [.br true, .br true, .callr (rO oz2), .br true], .br true, .r [] [.callr (rO oz5)], .br false, .r [] [.n ((↑k : Int) + 1)]]) (G := [.any (rg [(5, 13)]), .weak 4 (i64 (↑(k + 1) : Int)), .blk 900 (Blk.slc 3 1 (List.map (row1 IntKind.i64) (usedI l (k + 1)))), .sort]) (by kernel_rfl) (.c oz0 <| .c oz0 <| .c oz2 <| .c oz0 <| .c ho <| .c oz5 <| .c hc0 <| .c (IntWalk.i64_in ((↑k : Int) + 1) (by omega)) <| .c (Weak.int (k := .i64) (show (((↑k : Int) + 1) : Int) = ((↑(k + 1) : Int)) from (by omega))) <| .c (show BlkW (Blk.slc 3 1 (List.map (row1 IntKind.i64) (usedI l k))) (Blk.slc 3 1 (List.map (row1 IntKind.i64) (usedI l (k + 1)))) from (BlkW.rows (rows_to (row1 IntKind.i64) (r := List.map (row1 IntKind.i64) (usedI l k)) (l := usedI l k) (m := usedI l (k + 1)) rfl (show (usedI l k) = (usedI l (k + 1)) from (by (rw [q4 (by assumption)])))))) <| .n)
set_option maxRecDepth 100000 in
set_option maxHeartbeats 2000000 in
theorem rused_l_e (l : List Nod) (hl : l.length ≤ 1000) (ho : orderedB l = true) : VT Try.prog (fnC Try.f24 [1, 1, 0, 1, 0, 0]) (rused_l_I l (l.length)) (.exit 0) (rused_l_Z l) := by
  have q0 : (List.map nodC l).length = l.length := List.length_map _
  have oz0 := (show decide ((↑l.length : Int) < (↑(List.map nodC l).length : Int)) = !true by (refine decide_eq_false ?_; omega))
  exact VT.run (W := [.r [] [.br false, .br false, .br false], .br false]) (G := [.any (rg [(5, 8)]), .sort]) (by kernel_rfl) (.c oz0 <| .c oz0 <| .c (decide_eq_false (p := ((↑l.length : Int) < (↑(List.map nodC l).length : Int))) (by omega)) <| .c (show false = false by with_reducible rfl) <| .n)
theorem rused_l (l : List Nod) (hl : l.length ≤ 1000) (ho : orderedB l = true) : VT Try.prog (fnC Try.f24 [1, 1, 0, 1, 0]) (rused_l_I l 0) (.exit 0) (rused_l_Z l) :=
  VT.loop (fun k => rused_l_I l k) (l.length) (fun k hk => rused_l_s l hl ho k hk) (rused_l_e l hl ho) (by intro h; cases h)

set_option maxRecDepth 100000 in
set_option maxHeartbeats 2000000 in
theorem rused_y (l : List Nod) (hl : l.length ≤ 1000) (ho : orderedB l = true) : VC Try.prog 24 ([.sl 19 (l.map nodC)]) (ints .i64 (usI (usedL l))) := by
  have oz1 := @rused_l (l) hl ho
  exact (VC.run (fn := Try.f24) (W := [.r [] [], .r [] [], .r [] [], .code [.any [2], .weak 4 (i64 (↑0 : Int)), .nils 3 900 3 1, .sort] (Exit.exit 0) (zO oz1), .r [] []]) (r := AV.sl 1 (List.map (row1 IntKind.i64) (usedI l l.length))) Try.func24 (by kernel_rfl) (.c (Weak.int (k := .i64) (show ((0) : Int) = ((↑0 : Int)) from (by omega))) <| .c oz1 <| .n)).weak (WeakL.refl _) (Weak.rows (rows_to (row1 IntKind.i64) (r := List.map (row1 IntKind.i64) (usedI l l.length)) (l := usedI l l.length) (m := usI (usedL l)) rfl (show (usedI l l.length) = (usI (usedL l)) from (by (rw [usedI_all])))))

noncomputable def rused_n_I (l : List Nod) (k : Nat) : VS := stt 23 [(0, .sl 19 (l.map nodC)), (3, .own 900), (4, i64 0)] [(900, .slc 3 1 [])]
noncomputable def rused_n_Z (l : List Nod) : VS := rused_n_I l (0)
set_option maxRecDepth 100000 in
set_option maxHeartbeats 2000000 in
theorem rused_n_s (l : List Nod) (hl : l.length ≤ 1000) (ho : orderedB l = false) (k : Nat) (hk : k < 0) : VT Try.prog (fnC Try.f24 [1, 1, 0, 1, 0, 0]) (rused_n_I l k) .normal (rused_n_I l (k + 1)) := by
  have oz0 := (show decide (0 < (↑(List.map nodC l).length : Int)) = true by omega)
  have oz2 := @rord_y (l) hl (by omega)
  have oz6 := @rIs_v (l) (0) hl (by omega)
  have oz10 := (show IntKind.i64.wrap ((0 : Int) + (1 : Int)) = (1 : Int) by omega)
  exact VT.run (W := [.r [] [.br true, .br true, .callr (rO oz2), .br true], .br true, .r [] [.call (aO oz6) (rO oz6)], .br true, .r [] [], .r [] [.n 1]]) (G := [.any (rg [(5, 17)]), .drop [20], .ren 21 900, .weak 4 (i64 0), .blk 900 (Blk.slc 3 1 []), .sort]) (by kernel_rfl) (.c oz0 <| .c oz0 <| .c oz2 <| .c oz0 <| .c (show true = true by with_reducible rfl) <| .c (show WeakL [AV.sl 19 (List.map nodC l), i64 0] [AV.sl 19 (List.map nodC l), i64 (↑0 : Int)] from (.cons (.refl _) (.cons (Weak.int (show ((0) : Int) = ((↑0 : Int)) from (by omega))) .nil))) <| .c oz6 <| .c (show usedB l 0 = true by omega) <| .c (show ((0 : Nat) + (1 : Nat)) * (8 : Nat) ≤ (140737488355328 : Nat) by omega) <| .c (show (0 : Nat) + (1 : Nat) ≤ (9223372036854775807 : Nat) by omega) <| .c oz10 <| .c (Weak.int (k := .i64) (show ((1) : Int) = (0) from (by omega))) <| .c (show BlkW (Blk.slc (3 : Nat) (1 : Nat) [[i64 (0 : Int)]]) (Blk.slc (3 : Nat) (1 : Nat) []) from (BlkW.rows (show ([[i64 0]]) = ([]) from (by omega)))) <| .n)
set_option maxRecDepth 100000 in
set_option maxHeartbeats 2000000 in
theorem rused_n_e (l : List Nod) (hl : l.length ≤ 1000) (ho : orderedB l = false) : VT Try.prog (fnC Try.f24 [1, 1, 0, 1, 0, 0]) (rused_n_I l (0)) (.exit 0) (rused_n_Z l) := by
  have oz0 := @rord_v (l) hl
  exact VT.run (W := [.r [] [.op false, .op false, .callr (rO oz0), .sel 2], .br false]) (G := [.any (rg [(5, 8)]), .sort]) (by kernel_rfl) (.c oz0 <| .c (show (decide (0 < (↑(List.map nodC l).length : Int)) && orderedB l) = false by (rw [ho, Bool.and_false])) <| .n)
theorem rused_n (l : List Nod) (hl : l.length ≤ 1000) (ho : orderedB l = false) : VT Try.prog (fnC Try.f24 [1, 1, 0, 1, 0]) (rused_n_I l 0) (.exit 0) (rused_n_Z l) :=
  VT.loop (fun k => rused_n_I l k) (0) (fun k hk => rused_n_s l hl ho k hk) (rused_n_e l hl ho) (by intro h; cases h)

set_option maxRecDepth 100000 in
set_option maxHeartbeats 2000000 in
theorem rused_o (l : List Nod) (hl : l.length ≤ 1000) (ho : orderedB l = false) : VC Try.prog 24 ([.sl 19 (l.map nodC)]) (ints .i64 []) := by
  have oz0 := @rused_n (l) hl ho
  exact VC.run (fn := Try.f24) (W := [.r [] [], .r [] [], .r [] [], .code [.any [2], .nils 3 900 3 1, .sort] (Exit.exit 0) (zO oz0), .r [] []]) Try.func24 (by kernel_rfl) (.c oz0 <| .n)
/-- The first k of the nodes that are left. -/
def prunK (l : List Nod) (k : Nat) : List Nod := ((usedL l).take k).map fun i => pruneN (usedL l) (l.getD i default)
theorem prunK_0 (l : List Nod) : prunK l 0 = [] := rfl
theorem prunK_len (l : List Nod) (k : Nat) : (prunK l k).length ≤ k := by unfold prunK; rw [List.length_map, List.length_take]; omega
theorem prunK_step {l : List Nod} {k : Nat} (hk : k < (usedL l).length) : prunK l (k + 1) = prunK l k ++ [pruneN (usedL l) (l.getD ((usedL l).getD k 0) default)] := by
  unfold prunK
  rw [List.take_add_one, List.getElem?_eq_getElem hk, List.getD_eq_getElem?_getD (l := usedL l), List.getElem?_eq_getElem hk]
  simp only [Option.toList_some, List.map_append, List.map_cons, List.map_nil, Option.getD_some]
theorem prunK_all {l : List Nod} (h : orderedB l = true) : prunK l (usedL l).length = pruneL l := by unfold prunK pruneL; rw [List.take_length, if_pos h]
theorem used_len (l : List Nod) : (usedL l).length ≤ l.length := by
  unfold usedL; have := List.length_filter_le (usedB l) (List.range l.length); rw [List.length_range] at this; exact this
theorem usI_at {us : List Nat} {k : Nat} (hk : k < us.length) : (usI us).getD k 0 = ((us.getD k 0 : Nat) : Int) := by
  unfold usI; rw [List.getD_eq_getElem?_getD, List.getElem?_map, List.getElem?_eq_getElem hk, List.getD_eq_getElem?_getD, List.getElem?_eq_getElem hk]; rfl
theorem pruneN_6 {us : List Nat} {n : Nod} (h : n.kd = 6) : nodC (pruneN us n) = [i64 n.kd, i64 (numU us n.na), i64 (numU us n.nb), i64 n.nk, i64 n.ns, i64 n.np, i64 n.no, i8 n.za, i8 n.zb, ints .i8 n.w, ints .i32 n.b, i32 n.qm, i64 n.qs, i8 n.qz, i32 n.rm, i64 n.rs, i8 n.rz, i8 n.lo, i8 n.hi] := by
  unfold pruneN; simp only [if_pos h]
theorem pruneN_o {us : List Nat} {n : Nod} (h : ¬ n.kd = 6) : nodC (pruneN us n) = [i64 n.kd, i64 (numU us n.na), i64 n.nb, i64 n.nk, i64 n.ns, i64 n.np, i64 n.no, i8 n.za, i8 n.zb, ints .i8 n.w, ints .i32 n.b, i32 n.qm, i64 n.qs, i8 n.qz, i32 n.rm, i64 n.rs, i8 n.rz, i8 n.lo, i8 n.hi] := by
  unfold pruneN; simp only [if_neg h]
theorem prunK_6 {l : List Nod} {k : Nat} {n : Nod} (hk : k < (usedL l).length) (e : l.getD ((usedL l).getD k 0) default = n) (h : n.kd = 6) : (prunK l (k + 1)).map nodC = (prunK l k).map nodC ++ [[i64 n.kd, i64 (numU (usedL l) n.na), i64 (numU (usedL l) n.nb), i64 n.nk, i64 n.ns, i64 n.np, i64 n.no, i8 n.za, i8 n.zb, ints .i8 n.w, ints .i32 n.b, i32 n.qm, i64 n.qs, i8 n.qz, i32 n.rm, i64 n.rs, i8 n.rz, i8 n.lo, i8 n.hi]] := by
  rw [prunK_step hk, List.map_append, List.map_singleton, e, pruneN_6 h]
theorem prunK_o {l : List Nod} {k : Nat} {n : Nod} (hk : k < (usedL l).length) (e : l.getD ((usedL l).getD k 0) default = n) (h : ¬ n.kd = 6) : (prunK l (k + 1)).map nodC = (prunK l k).map nodC ++ [[i64 n.kd, i64 (numU (usedL l) n.na), i64 n.nb, i64 n.nk, i64 n.ns, i64 n.np, i64 n.no, i8 n.za, i8 n.zb, ints .i8 n.w, ints .i32 n.b, i32 n.qm, i64 n.qs, i8 n.qz, i32 n.rm, i64 n.rs, i8 n.rz, i8 n.lo, i8 n.hi]] := by
  rw [prunK_step hk, List.map_append, List.map_singleton, e, pruneN_o h]
noncomputable def rblock51_l_I (l : List Nod) (k : Nat) : VS := stt 44 [(0, .sl 19 (l.map nodC)), (3, ints .i64 (usI (usedL l))), (4, .own 900), (5, i64 k)] [(900, .slc 47 19 ((prunK l k).map nodC))]
noncomputable def rblock51_l_Z (l : List Nod) : VS := rblock51_l_I l ((usedL l).length)
set_option maxRecDepth 100000 in
set_option maxHeartbeats 2000000 in
theorem rblock51_l_s (l : List Nod) (hl : l.length ≤ 1000) (k : Nat) (hk : k < (usedL l).length) : VT Try.prog (fnC Try.f21 [1, 1, 1, 1, 0, 1, 0, 0]) (rblock51_l_I l k) .normal (rblock51_l_I l (k + 1)) := by
  have q := prunK_len l k
  have q2 : (List.map nodC (prunK l k)).length = (prunK l k).length := List.length_map _
  have q3 := used_len l
  have q4 := usI_at hk
  have q5 := (mem_used.1 (used_at hk)).1
  have q6 := @prunK_step l k hk
  have q7 : (usI (usedL l)).length = (usedL l).length := List.length_map _
  have q9 : (List.map (row1 .i64) (usI (usedL l))).length = (usI (usedL l)).length := List.length_map _
  have q8 : ((usI (usedL l)).getD k 0).toNat = (usedL l).getD k 0 := by rw [q4]; rfl
  have q10 := fun v => numI_us (usedL l) v
  rw [← q8] at q6
  unfold pruneN at q6
  simp only [← q10] at q6
  have oz0 := (decide_eq_true (p := ((↑k : Int) < (↑(List.map (row1 IntKind.i64) (usI (usedL l))).length : Int))) (by omega))
  have oz1 := (show 0 ≤ (↑k : Int) by omega)
  have oz2 := (map_at (row1 IntKind.i64) (0) (l := usI (usedL l)) (i := k) (by omega))
  have oz3 := (show 0 ≤ (usI (usedL l)).getD k 0 by omega)
  have oz4 := (map_at (nodC) (default) (l := l) (i := ((usI (usedL l)).getD k 0).toNat) (by omega))
  have oz5 := @number_v (usI (usedL l)) ((l.getD ((usI (usedL l)).getD k 0).toNat default).na) (by omega)
  rcases Bool.eq_false_or_eq_true ((l.getD ((usI (usedL l)).getD k 0).toNat default).kd == 6) with hc0 | hc0
  · have gc0 : (l.getD ((usI (usedL l)).getD k 0).toNat default).kd = 6 := bet hc0
    have oz7 := @number_v (usI (usedL l)) ((l.getD ((usI (usedL l)).getD k 0).toNat default).nb) (by omega)
    exact VT.run (W := [.r [] [], .br true, .r [] [.row (sO oz2), .row (sO oz4)], .r [] [.callr (rO oz5)], .r [] [], .br true, .r [] [.callr (rO oz7)], .r [] [], .r [] [.n ((↑k : Int) + 1)]]) (G := [.any (rg [(6, 1), (13, 30)]), .drop [6, 41], .ren 42 900, .weak 5 (i64 (↑(k + 1) : Int)), .blk 900 (Blk.slc 47 19 (List.map nodC (prunK l (k + 1)))), .sort]) (by kernel_rfl) (.c oz0 <| .c oz1 <| .c oz2 <| .c oz3 <| .c oz4 <| .c oz5 <| .c hc0 <| .c oz7 <| .c (show ((List.map nodC (prunK l k)).length + 1) * 168 ≤ 140737488355328 by omega) <| .c (show (List.map nodC (prunK l k)).length + 1 ≤ 9223372036854775807 by omega) <| .c (IntWalk.i64_in ((↑k : Int) + 1) (by omega)) <| .c (Weak.int (k := .i64) (show (((↑k : Int) + 1) : Int) = ((↑(k + 1) : Int)) from (by omega))) <| .c (show BlkW (Blk.slc 47 19 (List.map nodC (prunK l k) ++ [[i64 (l.getD ((usI (usedL l)).getD k 0).toNat default).kd, i64 (numI (usI (usedL l)) (l.getD ((usI (usedL l)).getD k 0).toNat default).na), i64 (numI (usI (usedL l)) (l.getD ((usI (usedL l)).getD k 0).toNat default).nb), i64 (l.getD ((usI (usedL l)).getD k 0).toNat default).nk, i64 (l.getD ((usI (usedL l)).getD k 0).toNat default).ns, i64 (l.getD ((usI (usedL l)).getD k 0).toNat default).np, i64 (l.getD ((usI (usedL l)).getD k 0).toNat default).no, i8 (l.getD ((usI (usedL l)).getD k 0).toNat default).za, i8 (l.getD ((usI (usedL l)).getD k 0).toNat default).zb, AV.sl 1 (List.map (row1 IntKind.i8) (l.getD ((usI (usedL l)).getD k 0).toNat default).w), AV.sl 1 (List.map (row1 IntKind.i32) (l.getD ((usI (usedL l)).getD k 0).toNat default).b), i32 (l.getD ((usI (usedL l)).getD k 0).toNat default).qm, i64 (l.getD ((usI (usedL l)).getD k 0).toNat default).qs, i8 (l.getD ((usI (usedL l)).getD k 0).toNat default).qz, i32 (l.getD ((usI (usedL l)).getD k 0).toNat default).rm, i64 (l.getD ((usI (usedL l)).getD k 0).toNat default).rs, i8 (l.getD ((usI (usedL l)).getD k 0).toNat default).rz, i8 (l.getD ((usI (usedL l)).getD k 0).toNat default).lo, i8 (l.getD ((usI (usedL l)).getD k 0).toNat default).hi]])) (Blk.slc 47 19 (List.map nodC (prunK l (k + 1)))) from (BlkW.rows (rows_to (nodC) (r := List.map nodC (prunK l k) ++ [[i64 (l.getD ((usI (usedL l)).getD k 0).toNat default).kd, i64 (numI (usI (usedL l)) (l.getD ((usI (usedL l)).getD k 0).toNat default).na), i64 (numI (usI (usedL l)) (l.getD ((usI (usedL l)).getD k 0).toNat default).nb), i64 (l.getD ((usI (usedL l)).getD k 0).toNat default).nk, i64 (l.getD ((usI (usedL l)).getD k 0).toNat default).ns, i64 (l.getD ((usI (usedL l)).getD k 0).toNat default).np, i64 (l.getD ((usI (usedL l)).getD k 0).toNat default).no, i8 (l.getD ((usI (usedL l)).getD k 0).toNat default).za, i8 (l.getD ((usI (usedL l)).getD k 0).toNat default).zb, AV.sl 1 (List.map (row1 IntKind.i8) (l.getD ((usI (usedL l)).getD k 0).toNat default).w), AV.sl 1 (List.map (row1 IntKind.i32) (l.getD ((usI (usedL l)).getD k 0).toNat default).b), i32 (l.getD ((usI (usedL l)).getD k 0).toNat default).qm, i64 (l.getD ((usI (usedL l)).getD k 0).toNat default).qs, i8 (l.getD ((usI (usedL l)).getD k 0).toNat default).qz, i32 (l.getD ((usI (usedL l)).getD k 0).toNat default).rm, i64 (l.getD ((usI (usedL l)).getD k 0).toNat default).rs, i8 (l.getD ((usI (usedL l)).getD k 0).toNat default).rz, i8 (l.getD ((usI (usedL l)).getD k 0).toNat default).lo, i8 (l.getD ((usI (usedL l)).getD k 0).toNat default).hi]]) (l := prunK l k ++ [Nod.mk (l.getD ((usI (usedL l)).getD k 0).toNat default).kd (numI (usI (usedL l)) (l.getD ((usI (usedL l)).getD k 0).toNat default).na) (numI (usI (usedL l)) (l.getD ((usI (usedL l)).getD k 0).toNat default).nb) (l.getD ((usI (usedL l)).getD k 0).toNat default).nk (l.getD ((usI (usedL l)).getD k 0).toNat default).ns (l.getD ((usI (usedL l)).getD k 0).toNat default).np (l.getD ((usI (usedL l)).getD k 0).toNat default).no (l.getD ((usI (usedL l)).getD k 0).toNat default).za (l.getD ((usI (usedL l)).getD k 0).toNat default).zb (l.getD ((usI (usedL l)).getD k 0).toNat default).w (l.getD ((usI (usedL l)).getD k 0).toNat default).b (l.getD ((usI (usedL l)).getD k 0).toNat default).qm (l.getD ((usI (usedL l)).getD k 0).toNat default).qs (l.getD ((usI (usedL l)).getD k 0).toNat default).qz (l.getD ((usI (usedL l)).getD k 0).toNat default).rm (l.getD ((usI (usedL l)).getD k 0).toNat default).rs (l.getD ((usI (usedL l)).getD k 0).toNat default).rz (l.getD ((usI (usedL l)).getD k 0).toNat default).lo (l.getD ((usI (usedL l)).getD k 0).toNat default).hi]) (m := prunK l (k + 1)) (by first | (simp only [List.map_append, List.map_cons, List.map_nil, List.map_set, List.map_replicate, List.map_take, List.map_drop]; done) | rfl | (simp only [List.map_append, List.map_cons, List.map_nil, List.map_set, List.map_replicate, List.map_take, List.map_drop]; rfl) | (simp only [List.map_append, List.map_cons, List.map_nil, List.map_set, List.map_replicate, List.map_take, List.map_drop, nodC, ints]; done)) (show (prunK l k ++ [Nod.mk (l.getD ((usI (usedL l)).getD k 0).toNat default).kd (numI (usI (usedL l)) (l.getD ((usI (usedL l)).getD k 0).toNat default).na) (numI (usI (usedL l)) (l.getD ((usI (usedL l)).getD k 0).toNat default).nb) (l.getD ((usI (usedL l)).getD k 0).toNat default).nk (l.getD ((usI (usedL l)).getD k 0).toNat default).ns (l.getD ((usI (usedL l)).getD k 0).toNat default).np (l.getD ((usI (usedL l)).getD k 0).toNat default).no (l.getD ((usI (usedL l)).getD k 0).toNat default).za (l.getD ((usI (usedL l)).getD k 0).toNat default).zb (l.getD ((usI (usedL l)).getD k 0).toNat default).w (l.getD ((usI (usedL l)).getD k 0).toNat default).b (l.getD ((usI (usedL l)).getD k 0).toNat default).qm (l.getD ((usI (usedL l)).getD k 0).toNat default).qs (l.getD ((usI (usedL l)).getD k 0).toNat default).qz (l.getD ((usI (usedL l)).getD k 0).toNat default).rm (l.getD ((usI (usedL l)).getD k 0).toNat default).rs (l.getD ((usI (usedL l)).getD k 0).toNat default).rz (l.getD ((usI (usedL l)).getD k 0).toNat default).lo (l.getD ((usI (usedL l)).getD k 0).toNat default).hi]) = (prunK l (k + 1)) from (by (rw [q6, if_pos (by assumption)])))))) <| .n)
  · have gc0 : ¬(l.getD ((usI (usedL l)).getD k 0).toNat default).kd = 6 := bef hc0
    exact VT.run (W := [.r [] [], .br true, .r [] [.row (sO oz2), .row (sO oz4)], .r [] [.callr (rO oz5)], .r [] [], .br false, .r [] [], .r [] [.n ((↑k : Int) + 1)]]) (G := [.any (rg [(6, 1), (13, 21), (39, 4)]), .drop [6, 41], .ren 42 900, .weak 5 (i64 (↑(k + 1) : Int)), .blk 900 (Blk.slc 47 19 (List.map nodC (prunK l (k + 1)))), .sort]) (by kernel_rfl) (.c oz0 <| .c oz1 <| .c oz2 <| .c oz3 <| .c oz4 <| .c oz5 <| .c hc0 <| .c (show ((List.map nodC (prunK l k)).length + 1) * 168 ≤ 140737488355328 by omega) <| .c (show (List.map nodC (prunK l k)).length + 1 ≤ 9223372036854775807 by omega) <| .c (IntWalk.i64_in ((↑k : Int) + 1) (by omega)) <| .c (Weak.int (k := .i64) (show (((↑k : Int) + 1) : Int) = ((↑(k + 1) : Int)) from (by omega))) <| .c (show BlkW (Blk.slc 47 19 (List.map nodC (prunK l k) ++ [[i64 (l.getD ((usI (usedL l)).getD k 0).toNat default).kd, i64 (numI (usI (usedL l)) (l.getD ((usI (usedL l)).getD k 0).toNat default).na), i64 (l.getD ((usI (usedL l)).getD k 0).toNat default).nb, i64 (l.getD ((usI (usedL l)).getD k 0).toNat default).nk, i64 (l.getD ((usI (usedL l)).getD k 0).toNat default).ns, i64 (l.getD ((usI (usedL l)).getD k 0).toNat default).np, i64 (l.getD ((usI (usedL l)).getD k 0).toNat default).no, i8 (l.getD ((usI (usedL l)).getD k 0).toNat default).za, i8 (l.getD ((usI (usedL l)).getD k 0).toNat default).zb, AV.sl 1 (List.map (row1 IntKind.i8) (l.getD ((usI (usedL l)).getD k 0).toNat default).w), AV.sl 1 (List.map (row1 IntKind.i32) (l.getD ((usI (usedL l)).getD k 0).toNat default).b), i32 (l.getD ((usI (usedL l)).getD k 0).toNat default).qm, i64 (l.getD ((usI (usedL l)).getD k 0).toNat default).qs, i8 (l.getD ((usI (usedL l)).getD k 0).toNat default).qz, i32 (l.getD ((usI (usedL l)).getD k 0).toNat default).rm, i64 (l.getD ((usI (usedL l)).getD k 0).toNat default).rs, i8 (l.getD ((usI (usedL l)).getD k 0).toNat default).rz, i8 (l.getD ((usI (usedL l)).getD k 0).toNat default).lo, i8 (l.getD ((usI (usedL l)).getD k 0).toNat default).hi]])) (Blk.slc 47 19 (List.map nodC (prunK l (k + 1)))) from (BlkW.rows (rows_to (nodC) (r := List.map nodC (prunK l k) ++ [[i64 (l.getD ((usI (usedL l)).getD k 0).toNat default).kd, i64 (numI (usI (usedL l)) (l.getD ((usI (usedL l)).getD k 0).toNat default).na), i64 (l.getD ((usI (usedL l)).getD k 0).toNat default).nb, i64 (l.getD ((usI (usedL l)).getD k 0).toNat default).nk, i64 (l.getD ((usI (usedL l)).getD k 0).toNat default).ns, i64 (l.getD ((usI (usedL l)).getD k 0).toNat default).np, i64 (l.getD ((usI (usedL l)).getD k 0).toNat default).no, i8 (l.getD ((usI (usedL l)).getD k 0).toNat default).za, i8 (l.getD ((usI (usedL l)).getD k 0).toNat default).zb, AV.sl 1 (List.map (row1 IntKind.i8) (l.getD ((usI (usedL l)).getD k 0).toNat default).w), AV.sl 1 (List.map (row1 IntKind.i32) (l.getD ((usI (usedL l)).getD k 0).toNat default).b), i32 (l.getD ((usI (usedL l)).getD k 0).toNat default).qm, i64 (l.getD ((usI (usedL l)).getD k 0).toNat default).qs, i8 (l.getD ((usI (usedL l)).getD k 0).toNat default).qz, i32 (l.getD ((usI (usedL l)).getD k 0).toNat default).rm, i64 (l.getD ((usI (usedL l)).getD k 0).toNat default).rs, i8 (l.getD ((usI (usedL l)).getD k 0).toNat default).rz, i8 (l.getD ((usI (usedL l)).getD k 0).toNat default).lo, i8 (l.getD ((usI (usedL l)).getD k 0).toNat default).hi]]) (l := prunK l k ++ [Nod.mk (l.getD ((usI (usedL l)).getD k 0).toNat default).kd (numI (usI (usedL l)) (l.getD ((usI (usedL l)).getD k 0).toNat default).na) (l.getD ((usI (usedL l)).getD k 0).toNat default).nb (l.getD ((usI (usedL l)).getD k 0).toNat default).nk (l.getD ((usI (usedL l)).getD k 0).toNat default).ns (l.getD ((usI (usedL l)).getD k 0).toNat default).np (l.getD ((usI (usedL l)).getD k 0).toNat default).no (l.getD ((usI (usedL l)).getD k 0).toNat default).za (l.getD ((usI (usedL l)).getD k 0).toNat default).zb (l.getD ((usI (usedL l)).getD k 0).toNat default).w (l.getD ((usI (usedL l)).getD k 0).toNat default).b (l.getD ((usI (usedL l)).getD k 0).toNat default).qm (l.getD ((usI (usedL l)).getD k 0).toNat default).qs (l.getD ((usI (usedL l)).getD k 0).toNat default).qz (l.getD ((usI (usedL l)).getD k 0).toNat default).rm (l.getD ((usI (usedL l)).getD k 0).toNat default).rs (l.getD ((usI (usedL l)).getD k 0).toNat default).rz (l.getD ((usI (usedL l)).getD k 0).toNat default).lo (l.getD ((usI (usedL l)).getD k 0).toNat default).hi]) (m := prunK l (k + 1)) (by first | (simp only [List.map_append, List.map_cons, List.map_nil, List.map_set, List.map_replicate, List.map_take, List.map_drop]; done) | rfl | (simp only [List.map_append, List.map_cons, List.map_nil, List.map_set, List.map_replicate, List.map_take, List.map_drop]; rfl) | (simp only [List.map_append, List.map_cons, List.map_nil, List.map_set, List.map_replicate, List.map_take, List.map_drop, nodC, ints]; done)) (show (prunK l k ++ [Nod.mk (l.getD ((usI (usedL l)).getD k 0).toNat default).kd (numI (usI (usedL l)) (l.getD ((usI (usedL l)).getD k 0).toNat default).na) (l.getD ((usI (usedL l)).getD k 0).toNat default).nb (l.getD ((usI (usedL l)).getD k 0).toNat default).nk (l.getD ((usI (usedL l)).getD k 0).toNat default).ns (l.getD ((usI (usedL l)).getD k 0).toNat default).np (l.getD ((usI (usedL l)).getD k 0).toNat default).no (l.getD ((usI (usedL l)).getD k 0).toNat default).za (l.getD ((usI (usedL l)).getD k 0).toNat default).zb (l.getD ((usI (usedL l)).getD k 0).toNat default).w (l.getD ((usI (usedL l)).getD k 0).toNat default).b (l.getD ((usI (usedL l)).getD k 0).toNat default).qm (l.getD ((usI (usedL l)).getD k 0).toNat default).qs (l.getD ((usI (usedL l)).getD k 0).toNat default).qz (l.getD ((usI (usedL l)).getD k 0).toNat default).rm (l.getD ((usI (usedL l)).getD k 0).toNat default).rs (l.getD ((usI (usedL l)).getD k 0).toNat default).rz (l.getD ((usI (usedL l)).getD k 0).toNat default).lo (l.getD ((usI (usedL l)).getD k 0).toNat default).hi]) = (prunK l (k + 1)) from (by (rw [q6, if_neg (by assumption)])))))) <| .n)
set_option maxRecDepth 100000 in
set_option maxHeartbeats 2000000 in
theorem rblock51_l_e (l : List Nod) (hl : l.length ≤ 1000) : VT Try.prog (fnC Try.f21 [1, 1, 1, 1, 0, 1, 0, 0]) (rblock51_l_I l ((usedL l).length)) (.exit 0) (rblock51_l_Z l) := by
  exact VT.run (W := [.r [] [], .br false]) (G := [.any (rg [(13, 4)]), .sort]) (by kernel_rfl) (.c (show decide ((↑(usedL l).length : Int) < (↑(List.map (row1 IntKind.i64) (usI (usedL l))).length : Int)) = false by (simp; done)) <| .n)
theorem rblock51_l (l : List Nod) (hl : l.length ≤ 1000) : VT Try.prog (fnC Try.f21 [1, 1, 1, 1, 0, 1, 0]) (rblock51_l_I l 0) (.exit 0) (rblock51_l_Z l) :=
  VT.loop (fun k => rblock51_l_I l k) ((usedL l).length) (fun k hk => rblock51_l_s l hl k hk) (rblock51_l_e l hl) (by intro h; cases h)

set_option maxRecDepth 100000 in
set_option maxHeartbeats 2000000 in
theorem rblock51_y (l : List Nod) (hl : l.length ≤ 1000) (ho : orderedB l = true) : VC Try.prog 21 ([.sl 19 (l.map nodC)]) (.sl 19 ((pruneL l).map nodC)) := by
  have oz0 := @rord_v (l) hl
  have oz2 := @rused_y (l) hl ho
  have oz4 := @rblock51_l (l) hl
  exact (VC.run (fn := Try.f21) (W := [.r [] [], .r [] [.callr (rO oz0)], .br false, .r [] [.callr (rO oz2)], .r [] [], .r [] [], .code [.any [2, 7, 8, 9, 11, 12], .weak 5 (i64 (↑0 : Int)), .nils 4 900 47 19, .sort] (Exit.exit 0) (zO oz4), .r [] []]) (r := AV.sl 19 (List.map nodC (prunK l (usedL l).length))) Try.func21 (by kernel_rfl) (.c oz0 <| .c (show (!orderedB l) = false by (simp; omega)) <| .c oz2 <| .c (Weak.int (k := .i64) (show ((0) : Int) = ((↑0 : Int)) from (by omega))) <| .c oz4 <| .n)).weak (WeakL.refl _) (Weak.rows (rows_to (nodC) (r := List.map nodC (prunK l (usedL l).length)) (l := prunK l (usedL l).length) (m := pruneL l) rfl (show (prunK l (usedL l).length) = (pruneL l) from (by (rw [← prunK_all ho])))))

set_option maxRecDepth 100000 in
set_option maxHeartbeats 2000000 in
theorem rblock51_n (l : List Nod) (hl : l.length ≤ 1000) (ho : orderedB l = false) : VC Try.prog 21 ([.sl 19 (l.map nodC)]) (.sl 19 (l.map nodC)) := by
  have oz0 := @rord_v (l) hl
  exact VC.run (fn := Try.f21) (W := [.r [] [], .r [] [.callr (rO oz0)], .br true, .r [] []]) Try.func21 (by kernel_rfl) (.c oz0 <| .c (show (!orderedB l) = true by (simp; omega)) <| .n)
theorem rblock51_v (l : List Nod) (hl : l.length ≤ 1000) : VC Try.prog 21 [.sl 19 (l.map nodC)] (.sl 19 ((pruneL l).map nodC)) := by
  cases e : orderedB l with
  | true => exact rblock51_y l hl e
  | false => have : pruneL l = l := by unfold pruneL; rw [if_neg (by simp [e])]
             rw [this]; exact rblock51_n l hl e
end Go.Proofs.Ytgecmooedhnenaa

