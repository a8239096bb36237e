/- What each block of a bundle costs: the law. No condition. -/
import Derived.Test.YtdmomnaoegkpiaaCtC
namespace Go.Proofs.Ytdmomnaoegkpiaa
open Go.RowKit
set_option linter.unusedSimpArgs false
set_option linter.unusedVariables false
set_option linter.unnecessarySimpa false

abbrev ints32C (l : List Int) : List AV := [ints .i32 l]
theorem cutT_len (T : List (List Int)) : (cutT T).length = T.length := List.length_map _
theorem cutT_get {T : List (List Int)} {i : Nat} (h : i < T.length) : (cutT T).getD i default = (T.getD i default).take 50 := by
  unfold cutT
  rw [List.getD_eq_getElem?_getD, List.getElem?_map, List.getElem?_eq_getElem h, List.getD_eq_getElem?_getD, List.getElem?_eq_getElem h]; rfl
theorem take_getD {l : List Int} {n k : Nat} (h : k < n) : (l.take n).getD k 0 = l.getD k 0 := by
  rw [List.getD_eq_getElem?_getD, List.getD_eq_getElem?_getD, List.getElem?_take, if_pos h]
theorem take_snoc {α : Type} [Inhabited α] {l : List α} {k : Nat} (h : k < l.length) (d : α) : l.take k ++ [l.getD k d] = l.take (k + 1) := by
  rw [List.take_succ_eq_append_getElem h, List.getD_eq_getElem?_getD, List.getElem?_eq_getElem h]; rfl
theorem cutT_in {T : List (List Int)} (h : ∀ l ∈ T, ∀ v ∈ l, In32 v) : ∀ l ∈ cutT T, l.length ≤ 50 ∧ ∀ v ∈ l, In32 v := fun l hl => by
  obtain ⟨m, hm, rfl⟩ := List.mem_map.1 hl
  exact ⟨by rw [List.length_take]; omega, fun v hv => h m hm v (List.mem_of_mem_take hv)⟩
theorem endT_c {T : List (List Int)} (h : ∀ l ∈ T, l.length ≤ 50 ∧ ∀ v ∈ l, In32 v) : ∀ k, k ≤ T.length → (endT T k).c ≤ 50 * k
  | 0, _ => by simp [endT]
  | k + 1, hk => by
    have ih := endT_c h k (by omega)
    have q := (getD_in h (show k < T.length by omega)).1
    have e : ∀ j, (endK (endT T k) (T.getD k default) j).c = (endT T k).c + j := by
      intro j
      induction j with
      | zero => rfl
      | succ j ih => simp only [endK, stepN, ih]; omega
    rw [endT, e]; omega
theorem endK_c (s : EndS) (l : List Int) : ∀ j, (endK s l j).c = s.c + j
  | 0 => rfl
  | j + 1 => by simp only [endK, stepN, endK_c s l j]; omega
theorem step_lo0 {s : EndS} {v : Int} (h : s.c = 0) : (stepN s v).lo = v := if_pos h
theorem step_hi0 {s : EndS} {v : Int} (h : s.c = 0) : (stepN s v).hi = v := if_pos h
theorem step_lo1 {s : EndS} {v : Int} (h : ¬ s.c = 0) : (stepN s v).lo = min s.lo v := if_neg h
theorem step_hi1 {s : EndS} {v : Int} (h : ¬ s.c = 0) : (stepN s v).hi = max s.hi v := if_neg h
noncomputable def ctl_i_I (T : List (List Int)) (i n : Nat) (k : Nat) : VS := stt 139 [(1, .sl 1 (T.map ints32C)), (10, .own 900), (11, i64 (endK (endT (cutT T) i) ((cutT T).getD i default) k).lo), (12, i64 (endK (endT (cutT T) i) ((cutT T).getD i default) k).hi), (13, i64 (endK (endT (cutT T) i) ((cutT T).getD i default) k).al), (14, i64 (endK (endT (cutT T) i) ((cutT T).getD i default) k).c), (15, i64 i), (16, .own 903), (17, i64 k)] [(900, .slc 85 1 ((List.take i (cutT T)).map intsC)), (903, .slc 3 1 ((List.take k (T.getD i default)).map (row1 .i64)))]
noncomputable def ctl_i_Z (T : List (List Int)) (i n : Nat) : VS := ctl_i_I T i n (n)
set_option maxRecDepth 100000 in
set_option maxHeartbeats 2000000 in
theorem ctl_i_s (T : List (List Int)) (i n : Nat) (hl : T.length ≤ 20) (h : ∀ l ∈ T, ∀ v ∈ l, In32 v) (hi : i < T.length) (hn : n ≤ (T.getD i default).length ∧ n ≤ 50 ∧ (n = (T.getD i default).length ∨ n = 50)) (k : Nat) (hk : k < n) : VT Try.prog (fnC Try.f7 [1, 1, 1, 1, 1, 1, 1, 1, 0, 1, 0, 0, 1, 0, 0, 1, 0, 1, 0, 0]) (ctl_i_I T i n k) .normal (ctl_i_I T i n (k + 1)) := by
  have q1 := gt32 (getD_in h hi) k
  have q2 := endK_bd (s := endT (cutT T) i) (getD_in (cutT_in h) (show i < (cutT T).length by rw [cutT_len]; exact hi)).2 k
  have q3 := endT_bd (cutT_in h) i (by rw [cutT_len]; omega)
  have q4 := cutT_get hi
  have qv : ((cutT T).getD i default).getD k 0 = (T.getD i default).getD k 0 := by rw [q4, take_getD (by omega)]
  have q5 := endK_c (endT (cutT T) i) ((cutT T).getD i default) k
  have q6 := endT_c (cutT_in h) i (by rw [cutT_len]; omega)
  have lb : (List.map (row1 .i32) (T.getD i default)).length = (T.getD i default).length := List.length_map _
  have lc : (List.take k (T.getD i default)).length = k := by rw [List.length_take]; omega
  have oz0 := (show 0 ≤ (↑i : Int) by omega)
  have oz1 := (map_at (ints32C) (default) (l := T) (i := i) hi)
  have oz2 := (decide_eq_true (p := ((↑k : Int) < (↑(List.map (row1 IntKind.i32) (T.getD i default)).length : Int))) (by omega))
  have oz5 := (decide_eq_true (p := ((↑k : Int) < 50)) (by omega))
  have oz8 := (show 0 ≤ (↑k : Int) by omega)
  have oz9 := (map_at (row1 IntKind.i32) (0) (l := T.getD i default) (i := k) (by omega))
  have oz10 := (IntWalk.i64_in ((T.getD i default).getD k 0) (by omega))
  have oz11 := (show ((List.map (row1 IntKind.i64) (List.take k (T.getD i default))).length + 1) * 8 ≤ 140737488355328 by (simp; omega))
  have oz12 := (show (List.map (row1 IntKind.i64) (List.take k (T.getD i default))).length + 1 ≤ 9223372036854775807 by (simp; omega))
  rcases Bool.eq_false_or_eq_true ((↑(endK (endT (cutT T) i) ((cutT T).getD i default) k).c : Int) == 0) with hc0 | hc0
  · have gc0 : (↑(endK (endT (cutT T) i) ((cutT T).getD i default) k).c : Int) = 0 := bet hc0
    have oz14 := (IntWalk.i64_in ((↑(endK (endT (cutT T) i) ((cutT T).getD i default) k).c : Int) + 1) (by omega))
    have oz15 := (IntWalk.i64_in ((endK (endT (cutT T) i) ((cutT T).getD i default) k).al + (T.getD i default).getD k 0) (by omega))
    have oz17 := (Weak.int (k := .i64) (show ((if (T.getD i default).getD k 0 < (T.getD i default).getD k 0 then (T.getD i default).getD k 0 else (T.getD i default).getD k 0) : Int) = ((endK (endT (cutT T) i) ((cutT T).getD i default) (k + 1)).lo) from (by (rw [endK, qv, step_lo0 (by omega)]; simp; done))))
    have oz18 := (Weak.int (k := .i64) (show ((if (T.getD i default).getD k 0 > (T.getD i default).getD k 0 then (T.getD i default).getD k 0 else (T.getD i default).getD k 0) : Int) = ((endK (endT (cutT T) i) ((cutT T).getD i default) (k + 1)).hi) from (by (rw [endK, qv, step_hi0 (by omega)]; simp; done))))
    have oz19 := (Weak.int (k := .i64) (show (((endK (endT (cutT T) i) ((cutT T).getD i default) k).al + (T.getD i default).getD k 0) : Int) = ((endK (endT (cutT T) i) ((cutT T).getD i default) (k + 1)).al) from (by (rw [endK, qv]; rfl))))
    have oz20 := (Weak.int (k := .i64) (show (((↑(endK (endT (cutT T) i) ((cutT T).getD i default) k).c : Int) + 1) : Int) = ((↑(endK (endT (cutT T) i) ((cutT T).getD i default) (k + 1)).c : Int)) from (by (rw [endK, qv]; rfl))))
    exact VT.run (W := [.r [] [.row (sO oz1), .br true, .br true, .br true], .br true, .r [] [.row (sO oz1), .row (sO oz9), .n (nO oz10)], .r [] [], .r [] [], .br true, .r [] [], .r [] [.n (nO oz14)], .r [] [.n (nO oz15)], .r [] [.n ((↑k : Int) + 1)]]) (G := [.any (rg [(18, 1), (73, 40)]), .drop [96], .ren 97 903, .weak 11 (wO oz17), .weak 12 (wO oz18), .weak 13 (wO oz19), .weak 14 (wO oz20), .weak 17 (i64 (↑(k + 1) : Int)), .blk 903 (Blk.slc 3 1 (List.map (row1 IntKind.i64) (List.take (k + 1) (T.getD i default)))), .sort]) (by kernel_rfl) (.c oz0 <| .c oz1 <| .c oz2 <| .c oz2 <| .c oz2 <| .c oz5 <| .c oz0 <| .c oz1 <| .c oz8 <| .c oz9 <| .c oz10 <| .c oz11 <| .c oz12 <| .c hc0 <| .c oz14 <| .c oz15 <| .c (IntWalk.i64_in ((↑k : Int) + 1) (by omega)) <| .c oz17 <| .c oz18 <| .c oz19 <| .c oz20 <| .c (Weak.int (k := .i64) (show (((↑k : Int) + 1) : Int) = ((↑(k + 1) : Int)) from (by omega))) <| .c (show BlkW (Blk.slc 3 1 (List.map (row1 IntKind.i64) (List.take k (T.getD i default)) ++ [[i64 ((T.getD i default).getD k 0)]])) (Blk.slc 3 1 (List.map (row1 IntKind.i64) (List.take (k + 1) (T.getD i default)))) from (BlkW.rows (rows_to (row1 IntKind.i64) (r := List.map (row1 IntKind.i64) (List.take k (T.getD i default)) ++ [[i64 ((T.getD i default).getD k 0)]]) (l := List.take k (T.getD i default) ++ [(T.getD i default).getD k 0]) (m := List.take (k + 1) (T.getD i default)) (by first | (simp only [List.map_append, List.map_cons, List.map_nil, List.map_set, List.map_replicate, List.map_take, List.map_drop]; done) | rfl | (simp only [List.map_append, List.map_cons, List.map_nil, List.map_set, List.map_replicate, List.map_take, List.map_drop]; rfl)) (show (List.take k (T.getD i default) ++ [(T.getD i default).getD k 0]) = (List.take (k + 1) (T.getD i default)) from (by (exact take_snoc (by omega) 0)))))) <| .n)
  · have gc0 : ¬(↑(endK (endT (cutT T) i) ((cutT T).getD i default) k).c : Int) = 0 := bef hc0
    have oz14 := (IntWalk.i64_in ((↑(endK (endT (cutT T) i) ((cutT T).getD i default) k).c : Int) + 1) (by omega))
    have oz15 := (IntWalk.i64_in ((endK (endT (cutT T) i) ((cutT T).getD i default) k).al + (T.getD i default).getD k 0) (by omega))
    have oz17 := (Weak.int (k := .i64) (show ((if (T.getD i default).getD k 0 < (endK (endT (cutT T) i) ((cutT T).getD i default) k).lo then (T.getD i default).getD k 0 else (endK (endT (cutT T) i) ((cutT T).getD i default) k).lo) : Int) = ((endK (endT (cutT T) i) ((cutT T).getD i default) (k + 1)).lo) from (by (rw [endK, qv, step_lo1 (by omega)]; exact min_if _ _))))
    have oz18 := (Weak.int (k := .i64) (show ((if (T.getD i default).getD k 0 > (endK (endT (cutT T) i) ((cutT T).getD i default) k).hi then (T.getD i default).getD k 0 else (endK (endT (cutT T) i) ((cutT T).getD i default) k).hi) : Int) = ((endK (endT (cutT T) i) ((cutT T).getD i default) (k + 1)).hi) from (by (rw [endK, qv, step_hi1 (by omega)]; exact max_if _ _))))
    have oz19 := (Weak.int (k := .i64) (show (((endK (endT (cutT T) i) ((cutT T).getD i default) k).al + (T.getD i default).getD k 0) : Int) = ((endK (endT (cutT T) i) ((cutT T).getD i default) (k + 1)).al) from (by (rw [endK, qv]; rfl))))
    have oz20 := (Weak.int (k := .i64) (show (((↑(endK (endT (cutT T) i) ((cutT T).getD i default) k).c : Int) + 1) : Int) = ((↑(endK (endT (cutT T) i) ((cutT T).getD i default) (k + 1)).c : Int)) from (by (rw [endK, qv]; rfl))))
    exact VT.run (W := [.r [] [.row (sO oz1), .br true, .br true, .br true], .br true, .r [] [.row (sO oz1), .row (sO oz9), .n (nO oz10)], .r [] [], .r [] [], .br false, .r [] [.n (nO oz14)], .r [] [.n (nO oz15)], .r [] [.n ((↑k : Int) + 1)]]) (G := [.any (rg [(18, 1), (73, 27), (102, 11)]), .drop [96], .ren 97 903, .weak 11 (wO oz17), .weak 12 (wO oz18), .weak 13 (wO oz19), .weak 14 (wO oz20), .weak 17 (i64 (↑(k + 1) : Int)), .blk 903 (Blk.slc 3 1 (List.map (row1 IntKind.i64) (List.take (k + 1) (T.getD i default)))), .sort]) (by kernel_rfl) (.c oz0 <| .c oz1 <| .c oz2 <| .c oz2 <| .c oz2 <| .c oz5 <| .c oz0 <| .c oz1 <| .c oz8 <| .c oz9 <| .c oz10 <| .c oz11 <| .c oz12 <| .c hc0 <| .c oz14 <| .c oz15 <| .c (IntWalk.i64_in ((↑k : Int) + 1) (by omega)) <| .c oz17 <| .c oz18 <| .c oz19 <| .c oz20 <| .c (Weak.int (k := .i64) (show (((↑k : Int) + 1) : Int) = ((↑(k + 1) : Int)) from (by omega))) <| .c (show BlkW (Blk.slc 3 1 (List.map (row1 IntKind.i64) (List.take k (T.getD i default)) ++ [[i64 ((T.getD i default).getD k 0)]])) (Blk.slc 3 1 (List.map (row1 IntKind.i64) (List.take (k + 1) (T.getD i default)))) from (BlkW.rows (rows_to (row1 IntKind.i64) (r := List.map (row1 IntKind.i64) (List.take k (T.getD i default)) ++ [[i64 ((T.getD i default).getD k 0)]]) (l := List.take k (T.getD i default) ++ [(T.getD i default).getD k 0]) (m := List.take (k + 1) (T.getD i default)) (by first | (simp only [List.map_append, List.map_cons, List.map_nil, List.map_set, List.map_replicate, List.map_take, List.map_drop]; done) | rfl | (simp only [List.map_append, List.map_cons, List.map_nil, List.map_set, List.map_replicate, List.map_take, List.map_drop]; rfl)) (show (List.take k (T.getD i default) ++ [(T.getD i default).getD k 0]) = (List.take (k + 1) (T.getD i default)) from (by (exact take_snoc (by omega) 0)))))) <| .n)
set_option maxRecDepth 100000 in
set_option maxHeartbeats 2000000 in
theorem ctl_i_e (T : List (List Int)) (i n : Nat) (hl : T.length ≤ 20) (h : ∀ l ∈ T, ∀ v ∈ l, In32 v) (hi : i < T.length) (hn : n ≤ (T.getD i default).length ∧ n ≤ 50 ∧ (n = (T.getD i default).length ∨ n = 50)) : VT Try.prog (fnC Try.f7 [1, 1, 1, 1, 1, 1, 1, 1, 0, 1, 0, 0, 1, 0, 0, 1, 0, 1, 0, 0]) (ctl_i_I T i n (n)) (.exit 4) (ctl_i_Z T i n) := by
  have lb : (List.map (row1 .i32) (T.getD i default)).length = (T.getD i default).length := List.length_map _
  have oz1 := (map_at (ints32C) (default) (l := T) (i := i) hi)
  exact VT.run (W := [.r [] [.row (sO oz1), .op false, .op false, .sel 2], .br false]) (G := [.any (rg [(73, 11)]), .sort]) (by kernel_rfl) (.c (show 0 ≤ (↑i : Int) by omega) <| .c oz1 <| .c (show (decide ((↑n : Int) < (↑(List.map (row1 IntKind.i32) (T.getD i default)).length : Int)) && decide ((↑n : Int) < 50)) = false by (rw [Bool.and_eq_false_iff, decide_eq_false_iff_not, decide_eq_false_iff_not]; omega)) <| .n)
theorem ctl_i (T : List (List Int)) (i n : Nat) (hl : T.length ≤ 20) (h : ∀ l ∈ T, ∀ v ∈ l, In32 v) (hi : i < T.length) (hn : n ≤ (T.getD i default).length ∧ n ≤ 50 ∧ (n = (T.getD i default).length ∨ n = 50)) : VT Try.prog (fnC Try.f7 [1, 1, 1, 1, 1, 1, 1, 1, 0, 1, 0, 0, 1, 0, 0, 1, 0, 1, 0]) (ctl_i_I T i n 0) (.exit 4) (ctl_i_Z T i n) :=
  VT.loop (fun k => ctl_i_I T i n k) (n) (fun k hk => ctl_i_s T i n hl h hi hn k hk) (ctl_i_e T i n hl h hi hn) (by intro h; cases h)

noncomputable def ctl_o_I (T : List (List Int)) (k : Nat) : VS := stt 139 [(1, .sl 1 (T.map ints32C)), (10, .own 900), (11, i64 (endT (cutT T) k).lo), (12, i64 (endT (cutT T) k).hi), (13, i64 (endT (cutT T) k).al), (14, i64 (endT (cutT T) k).c), (15, i64 k)] [(900, .slc 85 1 ((List.take k (cutT T)).map intsC))]
noncomputable def ctl_o_Z (T : List (List Int)) : VS := stt 139 [(1, .sl 1 (T.map ints32C)), (10, .own 900), (11, i64 (endT (cutT T) T.length).lo), (12, i64 (endT (cutT T) T.length).hi), (13, i64 (endT (cutT T) T.length).al)] [(900, .slc 85 1 ((cutT T).map intsC))]
set_option maxRecDepth 100000 in
set_option maxHeartbeats 2000000 in
theorem ctl_o_s (T : List (List Int)) (hl : T.length ≤ 20) (h : ∀ l ∈ T, ∀ v ∈ l, In32 v) (k : Nat) (hk : k < T.length) : VT Try.prog (fnC Try.f7 [1, 1, 1, 1, 1, 1, 1, 1, 0, 1, 0, 0]) (ctl_o_I T k) .normal (ctl_o_I T (k + 1)) := by
  obtain ⟨n, hn⟩ : ∃ n, n ≤ (T.getD k default).length ∧ n ≤ 50 ∧ (n = (T.getD k default).length ∨ n = 50) := ⟨min (T.getD k default).length 50, by omega⟩
  have lc : (List.take k (cutT T)).length = k := by rw [List.length_take, cutT_len]; omega
  have qn : n = ((cutT T).getD k default).length := by rw [cutT_get hk, List.length_take]; omega
  have qr : List.take n (T.getD k default) = (cutT T).getD k default := by
    rw [cutT_get hk]
    rcases hn.2.2 with e | e
    · rw [e, List.take_length, List.take_of_length_le (by omega)]
    · rw [e]
  have oz1 := (Weak.int (k := .i64) (show (((endT (cutT T) k).lo) : Int) = ((endK (endT (cutT T) k) ((cutT T).getD k default) 0).lo) from (by rfl)))
  have oz2 := (Weak.int (k := .i64) (show (((endT (cutT T) k).hi) : Int) = ((endK (endT (cutT T) k) ((cutT T).getD k default) 0).hi) from (by rfl)))
  have oz3 := (Weak.int (k := .i64) (show (((endT (cutT T) k).al) : Int) = ((endK (endT (cutT T) k) ((cutT T).getD k default) 0).al) from (by rfl)))
  have oz4 := (Weak.int (k := .i64) (show (((↑(endT (cutT T) k).c : Int)) : Int) = ((↑(endK (endT (cutT T) k) ((cutT T).getD k default) 0).c : Int)) from (by rfl)))
  have oz6 := @ctl_i (T) (k) (n) hl h hk hn
  have oz10 := (Weak.int (k := .i64) (show (((endK (endT (cutT T) k) ((cutT T).getD k default) n).lo) : Int) = ((endT (cutT T) (k + 1)).lo) from (by (rw [endT, ← qn]))))
  have oz11 := (Weak.int (k := .i64) (show (((endK (endT (cutT T) k) ((cutT T).getD k default) n).hi) : Int) = ((endT (cutT T) (k + 1)).hi) from (by (rw [endT, ← qn]))))
  have oz12 := (Weak.int (k := .i64) (show (((endK (endT (cutT T) k) ((cutT T).getD k default) n).al) : Int) = ((endT (cutT T) (k + 1)).al) from (by (rw [endT, ← qn]))))
  have oz13 := (Weak.int (k := .i64) (show (((↑(endK (endT (cutT T) k) ((cutT T).getD k default) n).c : Int)) : Int) = ((↑(endT (cutT T) (k + 1)).c : Int)) from (by (rw [endT, ← qn]))))
  exact VT.run (W := [.r [] [], .br true, .r [] [], .r [] [], .code [.any (rg [(67, 4)]), .weak 11 (wO oz1), .weak 12 (wO oz2), .weak 13 (wO oz3), .weak 14 (wO oz4), .weak 17 (i64 (↑0 : Int)), .nils 16 903 3 1, .sort] (Exit.exit 4) (zO oz6), .r [.frz 903] [], .r [] [.n ((↑k : Int) + 1)]]) (G := [.any (rg [(16, 2), (71, 2), (113, 4)]), .drop [115], .ren 116 900, .weak 11 (wO oz10), .weak 12 (wO oz11), .weak 13 (wO oz12), .weak 14 (wO oz13), .weak 15 (i64 (↑(k + 1) : Int)), .blk 900 (Blk.slc 85 1 (List.map intsC (List.take (k + 1) (cutT T)))), .sort]) (by kernel_rfl) (.c (show decide ((↑k : Int) < (↑(List.map ints32C T).length : Int)) = true by (simp; omega)) <| .c oz1 <| .c oz2 <| .c oz3 <| .c oz4 <| .c (Weak.int (k := .i64) (show ((0) : Int) = ((↑0 : Int)) from (by omega))) <| .c oz6 <| .c (show ((List.map intsC (List.take k (cutT T))).length + 1) * 24 ≤ 140737488355328 by (simp; omega)) <| .c (show (List.map intsC (List.take k (cutT T))).length + 1 ≤ 9223372036854775807 by (simp; omega)) <| .c (IntWalk.i64_in ((↑k : Int) + 1) (by omega)) <| .c oz10 <| .c oz11 <| .c oz12 <| .c oz13 <| .c (Weak.int (k := .i64) (show (((↑k : Int) + 1) : Int) = ((↑(k + 1) : Int)) from (by omega))) <| .c (show BlkW (Blk.slc 85 1 (List.map intsC (List.take k (cutT T)) ++ [[AV.sl 1 (List.map (row1 IntKind.i64) (List.take n (T.getD k default)))]])) (Blk.slc 85 1 (List.map intsC (List.take (k + 1) (cutT T)))) from (BlkW.rows (rows_to (intsC) (r := List.map intsC (List.take k (cutT T)) ++ [[AV.sl 1 (List.map (row1 IntKind.i64) (List.take n (T.getD k default)))]]) (l := List.take k (cutT T) ++ [List.take n (T.getD k default)]) (m := List.take (k + 1) (cutT T)) (by first | (simp only [List.map_append, List.map_cons, List.map_nil, List.map_set, List.map_replicate, List.map_take, List.map_drop]; done) | rfl | (simp only [List.map_append, List.map_cons, List.map_nil, List.map_set, List.map_replicate, List.map_take, List.map_drop]; rfl) | (simp only [List.map_append, List.map_cons, List.map_nil, List.map_set, List.map_replicate, List.map_take, List.map_drop, intsC, ints]; done)) (show (List.take k (cutT T) ++ [List.take n (T.getD k default)]) = (List.take (k + 1) (cutT T)) from (by (rw [qr]; exact take_snoc (by rw [cutT_len]; omega) default)))))) <| .n)
set_option maxRecDepth 100000 in
set_option maxHeartbeats 2000000 in
theorem ctl_o_e (T : List (List Int)) (hl : T.length ≤ 20) (h : ∀ l ∈ T, ∀ v ∈ l, In32 v) : VT Try.prog (fnC Try.f7 [1, 1, 1, 1, 1, 1, 1, 1, 0, 1, 0, 0]) (ctl_o_I T (T.length)) (.exit 2) (ctl_o_Z T) := by
  exact VT.run (W := [.r [] [], .br false]) (G := [.any (rg [(14, 2), (67, 4)]), .blk 900 (Blk.slc 85 1 (List.map intsC (cutT T))), .sort]) (by kernel_rfl) (.c (show decide ((↑T.length : Int) < (↑(List.map ints32C T).length : Int)) = false by (simp; done)) <| .c (show BlkW (Blk.slc 85 1 (List.map intsC (List.take T.length (cutT T)))) (Blk.slc 85 1 (List.map intsC (cutT T))) from (BlkW.rows (rows_to (intsC) (r := List.map intsC (List.take T.length (cutT T))) (l := List.take T.length (cutT T)) (m := cutT T) rfl (show (List.take T.length (cutT T)) = (cutT T) from (by (exact List.take_of_length_le (by rw [cutT_len]; omega))))))) <| .n)
theorem ctl_o (T : List (List Int)) (hl : T.length ≤ 20) (h : ∀ l ∈ T, ∀ v ∈ l, In32 v) : VT Try.prog (fnC Try.f7 [1, 1, 1, 1, 1, 1, 1, 1, 0, 1, 0]) (ctl_o_I T 0) (.exit 2) (ctl_o_Z T) :=
  VT.loop (fun k => ctl_o_I T k) (T.length) (fun k hk => ctl_o_s T hl h k hk) (ctl_o_e T hl h) (by intro h; cases h)

noncomputable def ctl_a_I (T t : List (List Int)) (k : Nat) : VS := stt 139 [(1, .sl 1 (T.map ints32C)), (5, .sl 1 (t.map intsC)), (7, .sl 1 (t.map intsC)), (9, i64 k)] []
noncomputable def ctl_a_Z (T t : List (List Int)) : VS := ctl_a_I T t (t.length)
set_option maxRecDepth 100000 in
set_option maxHeartbeats 2000000 in
theorem ctl_a_s (T t : List (List Int)) (hl : t.length ≤ 20) (h : ∀ l ∈ t, l.length ≤ 1000) (k : Nat) (hk : k < t.length) : VT Try.prog (fnC Try.f7 [1, 1, 1, 1, 1, 0, 1, 0, 0]) (ctl_a_I T t k) .normal (ctl_a_I T t (k + 1)) := by
  have q := getD_in h hk
  have oz1 := (show 0 ≤ (↑k : Int) by omega)
  have oz2 := (map_at (intsC) (default) (l := t) (i := k) hk)
  have oz5 := @same22_v (t.getD k default) q
  exact VT.run (W := [.r [] [], .br true, .r [] [.row (sO oz2), .row (sO oz2), .callr (rO oz5)], .br false, .r [] [.n ((↑k : Int) + 1)]]) (G := [.any (rg [(51, 16)]), .weak 9 (i64 (↑(k + 1) : Int)), .sort]) (by kernel_rfl) (.c (show decide ((↑k : Int) < (↑(List.map intsC t).length : Int)) = true by (simp; omega)) <| .c oz1 <| .c oz2 <| .c oz1 <| .c oz2 <| .c oz5 <| .c (show false = false by with_reducible rfl) <| .c (IntWalk.i64_in ((↑k : Int) + 1) (by omega)) <| .c (Weak.int (k := .i64) (show (((↑k : Int) + 1) : Int) = ((↑(k + 1) : Int)) from (by omega))) <| .n)
set_option maxRecDepth 100000 in
set_option maxHeartbeats 2000000 in
theorem ctl_a_e (T t : List (List Int)) (hl : t.length ≤ 20) (h : ∀ l ∈ t, l.length ≤ 1000) : VT Try.prog (fnC Try.f7 [1, 1, 1, 1, 1, 0, 1, 0, 0]) (ctl_a_I T t (t.length)) (.exit 0) (ctl_a_Z T t) := by
  exact VT.run (W := [.r [] [], .br false]) (G := [.any (rg [(51, 4)]), .sort]) (by kernel_rfl) (.c (show decide ((↑t.length : Int) < (↑(List.map intsC t).length : Int)) = false by (simp; done)) <| .n)
theorem ctl_a (T t : List (List Int)) (hl : t.length ≤ 20) (h : ∀ l ∈ t, l.length ≤ 1000) : VT Try.prog (fnC Try.f7 [1, 1, 1, 1, 1, 0, 1, 0]) (ctl_a_I T t 0) (.exit 0) (ctl_a_Z T t) :=
  VT.loop (fun k => ctl_a_I T t k) (t.length) (fun k hk => ctl_a_s T t hl h k hk) (ctl_a_e T t hl h) (by intro h; cases h)
theorem tabK_in {u : Bun} (sm : u.Sm) : ∀ k, k ≤ u.m.length → ∀ l ∈ tabK u k, l.length ≤ 1000
  | 0, _ => by intro l hl; cases hl
  | k + 1, hk => by
    intro l hl
    rw [tabK, List.mem_append, List.mem_singleton] at hl
    rcases hl with hl | rfl
    · exact tabK_in sm k (by omega) l hl
    · rw [rowK_len]; have := (getD_in sm.m (show k < u.m.length by omega)).1; omega
set_option maxRecDepth 100000 in
set_option maxHeartbeats 2000000 in
theorem costTables_y (u : Bun) (T : List (List Int)) (ok : u.Ok) (few : bunS u = true) (hT : T.length ≤ 20) (h : ∀ l ∈ T, ∀ v ∈ l, In32 v) (hm : ∀ j, j < u.m.length → MOK (u.m.getD j default).l u.inp) : VC Try.prog 7 ([bun u, .sl 1 (T.map ints32C)]) (bv true) := by
  have sm := Bun.sm few
  have q1 := sm.l
  have q2 := tabK_in sm u.m.length (Nat.le_refl _)
  have q3 := tabK_len u u.m.length
  have q4 := cutT_in h
  have q5 := cutT_len T
  have oz0 := @few31_v (u)
  have oz2 := @ctab_y (u) ok sm hm
  have oz3 := @rtab_y (u) ok sm hm
  have oz4 := (show false = false by with_reducible rfl)
  have oz11 := (Weak.int (k := .i64) (show ((0) : Int) = ((↑0 : Int)) from (by omega)))
  have oz12 := @ctl_a (T) (tabK u u.m.length) (by omega) q2
  have oz18 := @ctl_o (T) hT h
  have oz19 := @ends_v (cutT T) (by omega) q4
  have oz20 := @known31_v
  exact (VC.run (fn := Try.f7) (W := [.r [] [], .r [] [.callr (rO oz0), .op false, .op false, .op false, .sel 1], .br false, .r [] [.callr (rO oz2)], .r [] [.callr (rO oz3)], .r [] [.br true, .br true, .br true, .br true, .br true, .br false], .br false, .r [] [], .code [.any (rg [(0, 1), (2, 1), (4, 1), (6, 1), (8, 1), (22, 4), (29, 1), (31, 20)]), .drop [2], .weak 9 (wO oz11), .sort] (Exit.exit 0) (zO oz12), .r [] [], .r [] [], .r [] [], .code [.any [5, 7, 9], .weak 11 (i64 (endT (cutT T) 0).lo), .weak 12 (i64 (endT (cutT T) 0).hi), .weak 13 (i64 (endT (cutT T) 0).al), .weak 14 (i64 (↑(endT (cutT T) 0).c : Int)), .weak 15 (wO oz11), .nils 10 900 85 1, .sort] (Exit.exit 2) (zO oz18), .r [] [.callr (rO oz19)], .r [] [.op false, .op false, .op false, .sel 2, .op false, .op false, .op false, .sel 2, .op false, .callr (rO oz20), .sel 1]]) (r := bv ((endT (cutT T) (cutT T).length).lo == (endT (cutT T) T.length).lo && (endT (cutT T) (cutT T).length).hi == (endT (cutT T) T.length).hi && (endT (cutT T) (cutT T).length).al == (endT (cutT T) T.length).al || false)) Try.func7 (by kernel_rfl) (.c oz0 <| .c (show (!bunS u || decide ((↑(List.map ints32C T).length : Int) > 20)) = false by (rw [few]; simp; omega)) <| .c oz2 <| .c oz3 <| .c oz4 <| .c oz4 <| .c oz4 <| .c oz4 <| .c oz4 <| .c oz4 <| .c (show ((↑(List.map intsC (tabK u u.m.length)).length : Int) != (↑(List.map intsC (tabK u u.m.length)).length : Int)) = false by (simp; done)) <| .c oz11 <| .c oz12 <| .c (Weak.int (k := .i64) (show ((0) : Int) = ((endT (cutT T) 0).lo) from (by rfl))) <| .c (Weak.int (k := .i64) (show ((0) : Int) = ((endT (cutT T) 0).hi) from (by rfl))) <| .c (Weak.int (k := .i64) (show ((0) : Int) = ((endT (cutT T) 0).al) from (by rfl))) <| .c (Weak.int (k := .i64) (show ((0) : Int) = ((↑(endT (cutT T) 0).c : Int)) from (by rfl))) <| .c oz11 <| .c oz18 <| .c oz19 <| .c oz20 <| .n)).weak (WeakL.refl _) (Weak.bool (show (((endT (cutT T) (cutT T).length).lo == (endT (cutT T) T.length).lo && (endT (cutT T) (cutT T).length).hi == (endT (cutT T) T.length).hi && (endT (cutT T) (cutT T).length).al == (endT (cutT T) T.length).al || false) : Bool) = (true) from (by (rw [q5]; simp; done))))

set_option maxRecDepth 100000 in
set_option maxHeartbeats 2000000 in
theorem costTables_n (u : Bun) (T : List (List Int)) (m i : Nat) (ok : u.Ok) (few : bunS u = true) (hT : T.length ≤ 20) (h : ∀ l ∈ T, ∀ v ∈ l, In32 v) (hm : m < u.m.length) (hi : i < (u.m.getD m default).l.length) (hf : ¬ SOK ((u.m.getD m default).l.getD i default).n (inS (u.m.getD m default).l u.inp i)) (hb : ∀ k, k < i → SOK ((u.m.getD m default).l.getD k default).n (inS (u.m.getD m default).l u.inp k)) (hg : ∀ j, j < m → MOK (u.m.getD j default).l u.inp) : VC Try.prog 7 ([bun u, .sl 1 (T.map ints32C)]) (bv true) := by
  have sm := Bun.sm few
  have q4 := cutT_in h
  have q5 := cutT_len T
  have oz0 := @few31_v (u)
  have oz2 := @ctab_n (u) (m) (i) ok sm hm hi hf hb hg
  have oz3 := @rtab_n (u) (m) (i) ok sm hm hi hf hb hg
  have oz5 := (show Weak (AV.lit (Value.slice none 0 0)) (AV.sl 1 []) from (Weak.nil _))
  have oz7 := (Weak.int (k := .i64) (show ((0) : Int) = ((↑0 : Int)) from (by omega)))
  have oz8 := @ctl_a (T) ([]) (by (simp; done)) (by (simp; done))
  have oz14 := @ctl_o (T) hT h
  have oz15 := @ends_v (cutT T) (by omega) q4
  have oz16 := @known31_v
  exact (VC.run (fn := Try.f7) (W := [.r [] [], .r [] [.callr (rO oz0), .op false, .op false, .op false, .sel 1], .br false, .r [] [.callr (rO oz2)], .r [] [.callr (rO oz3)], .r [] [.op false, .op false, .op false, .op false, .op false, .sel 1], .br false, .r [] [], .code [.any (rg [(0, 1), (2, 1), (4, 1), (6, 1), (8, 1), (22, 4), (29, 1), (31, 14), (50, 1)]), .drop [2], .weak 5 (AV.sl 1 (List.map intsC [])), .weak 7 (AV.sl 1 (List.map intsC [])), .weak 9 (wO oz7), .sort] (Exit.exit 0) (zO oz8), .r [] [], .r [] [], .r [] [], .code [.any [5, 7, 9], .weak 11 (i64 (endT (cutT T) 0).lo), .weak 12 (i64 (endT (cutT T) 0).hi), .weak 13 (i64 (endT (cutT T) 0).al), .weak 14 (i64 (↑(endT (cutT T) 0).c : Int)), .weak 15 (wO oz7), .nils 10 900 85 1, .sort] (Exit.exit 2) (zO oz14), .r [] [.callr (rO oz15)], .r [] [.op false, .op false, .op false, .sel 2, .op false, .op false, .op false, .sel 2, .op false, .callr (rO oz16), .sel 1]]) (r := bv ((endT (cutT T) (cutT T).length).lo == (endT (cutT T) T.length).lo && (endT (cutT T) (cutT T).length).hi == (endT (cutT T) T.length).hi && (endT (cutT T) (cutT T).length).al == (endT (cutT T) T.length).al || false)) Try.func7 (by kernel_rfl) (.c oz0 <| .c (show (!bunS u || decide ((↑(List.map ints32C T).length : Int) > 20)) = false by (rw [few]; simp; omega)) <| .c oz2 <| .c oz3 <| .c (show ((shapesE ((u.m.getD m default).l.getD i default).n (inS (u.m.getD m default).l u.inp i)).snd != (shapesE ((u.m.getD m default).l.getD i default).n (inS (u.m.getD m default).l u.inp i)).snd || false) = false by (simp; done)) <| .c oz5 <| .c oz5 <| .c oz7 <| .c oz8 <| .c (Weak.int (k := .i64) (show ((0) : Int) = ((endT (cutT T) 0).lo) from (by rfl))) <| .c (Weak.int (k := .i64) (show ((0) : Int) = ((endT (cutT T) 0).hi) from (by rfl))) <| .c (Weak.int (k := .i64) (show ((0) : Int) = ((endT (cutT T) 0).al) from (by rfl))) <| .c (Weak.int (k := .i64) (show ((0) : Int) = ((↑(endT (cutT T) 0).c : Int)) from (by rfl))) <| .c oz7 <| .c oz14 <| .c oz15 <| .c oz16 <| .n)).weak (WeakL.refl _) (Weak.bool (show (((endT (cutT T) (cutT T).length).lo == (endT (cutT T) T.length).lo && (endT (cutT T) (cutT T).length).hi == (endT (cutT T) T.length).hi && (endT (cutT T) (cutT T).length).al == (endT (cutT T) T.length).al || false) : Bool) = (true) from (by (rw [q5]; simp; done))))

set_option maxRecDepth 100000 in
set_option maxHeartbeats 2000000 in
theorem costTables_x (u : Bun) (T : List (List Int)) (few : bunS u = false ∨ 20 < T.length) : VC Try.prog 7 ([bun u, .sl 1 (T.map ints32C)]) (bv true) := by
  have lT : (List.map ints32C T).length = T.length := List.length_map _
  have oz0 := @few31_v (u)
  have oz2 := @known31_v
  exact VC.run (fn := Try.f7) (W := [.r [] [], .r [] [.callr (rO oz0), .op false, .op false, .op false, .sel 1], .br true, .r [] [.callr (rO oz2)]]) Try.func7 (by kernel_rfl) (.c oz0 <| .c (show (!bunS u || decide ((↑(List.map ints32C T).length : Int) > 20)) = true by (rw [Bool.or_eq_true]; rcases few with few | few; (left; rw [few]; rfl); (right; exact decide_eq_true (by omega)))) <| .c oz2 <| .n)
theorem costTables_v (u : Bun) (T : List (List Int)) (ok : u.Ok) (h : ∀ l ∈ T, ∀ v ∈ l, In32 v) : VC Try.prog 7 [bun u, .sl 1 (T.map ints32C)] (bv true) := by
  cases few : bunS u with
  | false => exact costTables_x u T (.inl few)
  | true =>
    by_cases hT : T.length ≤ 20
    · have key : ∀ l a, MOK l a ∨ ∃ i, i < l.length ∧ ¬ SOK (l.getD i default).n (inS l a i) ∧ ∀ k, k < i → SOK (l.getD k default).n (inS l a k) := by
        intro l a
        rcases all_or (fun k => (shapesE (l.getD k default).n (inS l a k)).2 == 0) l.length with g | ⟨i, g1, g2, g3⟩
        · refine .inl fun k hk => ?_
          apply Classical.byContradiction
          intro c; have := g k hk; exact shapesE_n c (beq_iff_eq.1 this)
        · refine .inr ⟨i, g1, fun c => ?_, fun k hk => ?_⟩
          · rw [shapesE_y c] at g2; cases g2
          · apply Classical.byContradiction
            intro c; have := g3 k hk; exact shapesE_n c (beq_iff_eq.1 this)
      by_cases hm : ∀ j, j < u.m.length → MOK (u.m.getD j default).l u.inp
      · exact costTables_y u T ok few hT h hm
      · have : ∃ j, j < u.m.length ∧ ¬ MOK (u.m.getD j default).l u.inp := by
          apply Classical.byContradiction
          intro c; exact hm fun j hj => Classical.byContradiction fun d => c ⟨j, hj, d⟩
        have fst : ∀ n, (∃ j, j < n ∧ ¬ MOK (u.m.getD j default).l u.inp) → ∃ m, m < n ∧ ¬ MOK (u.m.getD m default).l u.inp ∧ ∀ j, j < m → MOK (u.m.getD j default).l u.inp := by
          intro n
          induction n with
          | zero => rintro ⟨j, hj, _⟩; omega
          | succ n ih =>
            rintro ⟨j, hj, hn⟩
            by_cases c : ∃ j, j < n ∧ ¬ MOK (u.m.getD j default).l u.inp
            · obtain ⟨m, h1, h2, h3⟩ := ih c; exact ⟨m, by omega, h2, h3⟩
            · have e : j = n := by
                apply Classical.byContradiction; intro e; exact c ⟨j, by omega, hn⟩
              subst e
              exact ⟨j, by omega, hn, fun i hi => Classical.byContradiction fun d => c ⟨i, hi, d⟩⟩
        obtain ⟨m, h1, h2, h3⟩ := fst _ this
        rcases key (u.m.getD m default).l u.inp with g | ⟨i, g1, g2, g3⟩
        · exact absurd g h2
        · exact costTables_n u T m i ok few hT h h1 g1 g2 g3 h3
    · exact costTables_x u T (.inr (by omega))
end Go.Proofs.Ytdmomnaoegkpiaa

