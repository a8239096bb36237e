/- The shapes of all values of a block, by the document. No condition. -/
import Derived.Test.YtdmomnaoegkpiaaGs2
namespace Go.Proofs.Ytdmomnaoegkpiaa
open Go.RowKit
set_option linter.unusedSimpArgs false
set_option linter.unusedVariables false
set_option linter.unnecessarySimpa false

theorem nextE_c {n : Nod} {L : List Shp} (h : checkE n ≠ 0) : nextE n L = (⟨0, 0, 0⟩, checkE n) := if_pos h
theorem nextE_0 {n : Nod} {L : List Shp} (h : checkE n = 0) (g : thereB n ((List.map shpC L).length : Int) = false) : nextE n L = (⟨0, 0, 0⟩, 8) := by
  rw [List.length_map] at g; unfold nextE; rw [if_neg (by simp [h]), if_neg (by simp [g])]
theorem nextE_6 {n : Nod} {L : List Shp} (h : checkE n = 0) (g : thereB n ((List.map shpC L).length : Int) = true) : nextE n L = shapeE n (L.getD n.na.toNat default) (L.getD (secN n).toNat default) := by
  rw [List.length_map] at g; unfold nextE; rw [if_neg (by simp [h]), if_pos g]
theorem nextE_ok {n : Nod} {L : List Shp} (q : (nextE n L).2 = 0) : checkE n = 0 ∧ thereB n ((List.map shpC L).length : Int) = true ∧ nextE n L = shapeE n (L.getD n.na.toNat default) (L.getD (secN n).toNat default) := by
  by_cases h : checkE n = 0
  · cases g : thereB n ((List.map shpC L).length : Int) with
    | false => rw [nextE_0 h g] at q; cases q
    | true => exact ⟨h, rfl, nextE_6 h g⟩
  · rw [nextE_c h] at q; exact absurd q h
theorem there_at {n : Nod} {L : List Shp} (okL : ∀ r ∈ L, r.Ok) (h : thereB n ((List.map shpC L).length : Int) = true) : (0 ≤ n.na ∧ n.na < L.length ∧ n.na.toNat < L.length ∧ 0 ≤ secN n ∧ secN n < L.length ∧ (secN n).toNat < L.length) ∧ (L.getD n.na.toNat default).Ok ∧ (L.getD (secN n).toNat default).Ok := by
  rw [List.length_map] at h
  have h := there_iff.1 h
  exact ⟨⟨by omega, by omega, by omega, by omega, by omega, by omega⟩, getD_in okL (by omega), getD_in okL (by omega)⟩
noncomputable def rshapes_ly_I (l : List Nod) (a : Shp) (k : Nat) : VS := stt 72 [(0, .sl 19 (l.map nodC)), (7, .own 900), (8, i64 k)] [(900, .slc 32 3 ((growL nextE l a k).map shpC))]
noncomputable def rshapes_ly_Z (l : List Nod) (a : Shp) : VS := rshapes_ly_I l a (l.length)
set_option maxRecDepth 100000 in
set_option maxHeartbeats 2000000 in
theorem rshapes_ly_s (l : List Nod) (a : Shp) (okl : ∀ n ∈ l, n.Ok) (wl : ∀ n ∈ l, n.w.length ≤ 100000 ∧ n.b.length ≤ 100000) (i : a.Ok) (f8 : l.length ≤ 8) (h : ∀ k, k < l.length → errL nextE l a k = 0) (k : Nat) (hk : k < l.length) : VT Try.prog (fnC Try.f73 [1, 1, 1, 1, 1, 0, 1, 0, 0]) (rshapes_ly_I l a k) .normal (rshapes_ly_I l a (k + 1)) := by
  have q := h k hk
  have q1 := growL_len nextE l a k
  have q2 := grow_ok (l := l) i k
  have q3 := getD_in okl hk
  have qz := q3.kd
  have q4 := getD_in wl hk
  obtain ⟨q5, q6⟩ := q4
  have q8 : (List.map shpC (growL nextE l a k)).length = (growL nextE l a k).length := List.length_map _
  unfold errL at q
  obtain ⟨c1, c2, c3⟩ := nextE_ok q
  obtain ⟨c4, c5, c6⟩ := there_at q2 c2
  rw [c3] at q
  have oz2 := (map_at (nodC) (default) (l := l) (i := k) hk)
  have oz3 := @refCheck_v (l.getD k default) q5 q6 qz
  have oz5 := @refThere_v (l.getD k default) ((↑(List.map shpC (growL nextE l a k)).length : Int))
  have oz9 := (map_at (shpC) (default) (l := growL nextE l a k) (i := (l.getD k default).na.toNat) (by omega))
  have oz10 := @refSecond_v (l.getD k default)
  have oz13 := (map_at (shpC) (default) (l := growL nextE l a k) (i := (secN (l.getD k default)).toNat) (by omega))
  have oz14 := @refKshape_v (l.getD k default) ((growL nextE l a k).getD (l.getD k default).na.toNat default) ((growL nextE l a k).getD (secN (l.getD k default)).toNat default) c5 c6 q3
  exact VT.run (W := [.r [] [], .br true, .r [] [.row (sO oz2)], .r [] [.callr (rO oz3)], .r [] [], .br false, .r [] [.callr (rO oz5)], .br false, .r [] [.row (sO oz9), .callr (rO oz10), .row (sO oz13), .callr (rO oz14)], .r [] [], .br false, .r [] [], .r [] [.n ((↑k : Int) + 1)]]) (G := [.any (rg [(9, 4), (24, 14), (40, 5), (46, 17), (65, 4)]), .drop [9, 11, 67], .ren 68 900, .weak 8 (i64 (↑(k + 1) : Int)), .blk 900 (Blk.slc 32 3 (List.map shpC (growL nextE l a (k + 1)))), .sort]) (by kernel_rfl) (.c (show decide ((↑k : Int) < (↑(List.map nodC l).length : Int)) = true by (simp; omega)) <| .c (show 0 ≤ (↑k : Int) by omega) <| .c oz2 <| .c oz3 <| .c (show (checkE (l.getD k default) != 0) = false by (rw [c1]; rfl)) <| .c oz5 <| .c (show (!thereB (l.getD k default) (↑(List.map shpC (growL nextE l a k)).length : Int)) = false by (rw [c2]; rfl)) <| .c (show 0 ≤ (l.getD k default).na by omega) <| .c (show (l.getD k default).na < (↑(List.map shpC (growL nextE l a k)).length : Int) by omega) <| .c oz9 <| .c oz10 <| .c (show 0 ≤ secN (l.getD k default) by omega) <| .c (show secN (l.getD k default) < (↑(List.map shpC (growL nextE l a k)).length : Int) by omega) <| .c oz13 <| .c oz14 <| .c (show ((shapeE (l.getD k default) ((growL nextE l a k).getD (l.getD k default).na.toNat default) ((growL nextE l a k).getD (secN (l.getD k default)).toNat default)).snd != 0) = false by (rw [q]; rfl)) <| .c (show ((List.map shpC (growL nextE l a k)).length + 1) * 24 ≤ 140737488355328 by omega) <| .c (show (List.map shpC (growL nextE l a k)).length + 1 ≤ 9223372036854775807 by omega) <| .c (IntWalk.i64_in ((↑k : Int) + 1) (by omega)) <| .c (Weak.int (k := .i64) (show (((↑k : Int) + 1) : Int) = ((↑(k + 1) : Int)) from (by omega))) <| .c (show BlkW (Blk.slc 32 3 (List.map shpC (growL nextE l a k) ++ [[i64 (shapeE (l.getD k default) ((growL nextE l a k).getD (l.getD k default).na.toNat default) ((growL nextE l a k).getD (secN (l.getD k default)).toNat default)).fst.h, i64 (shapeE (l.getD k default) ((growL nextE l a k).getD (l.getD k default).na.toNat default) ((growL nextE l a k).getD (secN (l.getD k default)).toNat default)).fst.x, i64 (shapeE (l.getD k default) ((growL nextE l a k).getD (l.getD k default).na.toNat default) ((growL nextE l a k).getD (secN (l.getD k default)).toNat default)).fst.c]])) (Blk.slc 32 3 (List.map shpC (growL nextE l a (k + 1)))) from (BlkW.rows (rows_to (shpC) (l := growL nextE l a k ++ [Shp.mk (shapeE (l.getD k default) ((growL nextE l a k).getD (l.getD k default).na.toNat default) ((growL nextE l a k).getD (secN (l.getD k default)).toNat default)).1.h (shapeE (l.getD k default) ((growL nextE l a k).getD (l.getD k default).na.toNat default) ((growL nextE l a k).getD (secN (l.getD k default)).toNat default)).1.x (shapeE (l.getD k default) ((growL nextE l a k).getD (l.getD k default).na.toNat default) ((growL nextE l a k).getD (secN (l.getD k default)).toNat default)).1.c]) (m := growL nextE l a (k + 1)) (by first | (simp only [List.map_append, List.map_cons, List.map_nil, List.map_set, List.map_replicate, List.map_take, List.map_drop]; done) | rfl | (simp only [List.map_append, List.map_cons, List.map_nil, List.map_set, List.map_replicate, List.map_take, List.map_drop]; rfl)) (show (growL nextE l a k ++ [Shp.mk (shapeE (l.getD k default) ((growL nextE l a k).getD (l.getD k default).na.toNat default) ((growL nextE l a k).getD (secN (l.getD k default)).toNat default)).1.h (shapeE (l.getD k default) ((growL nextE l a k).getD (l.getD k default).na.toNat default) ((growL nextE l a k).getD (secN (l.getD k default)).toNat default)).1.x (shapeE (l.getD k default) ((growL nextE l a k).getD (l.getD k default).na.toNat default) ((growL nextE l a k).getD (secN (l.getD k default)).toNat default)).1.c]) = (growL nextE l a (k + 1)) from (by (rw [growL, c3])))))) <| .n)
set_option maxRecDepth 100000 in
set_option maxHeartbeats 2000000 in
theorem rshapes_ly_e (l : List Nod) (a : Shp) (okl : ∀ n ∈ l, n.Ok) (wl : ∀ n ∈ l, n.w.length ≤ 100000 ∧ n.b.length ≤ 100000) (i : a.Ok) (f8 : l.length ≤ 8) (h : ∀ k, k < l.length → errL nextE l a k = 0) : VT Try.prog (fnC Try.f73 [1, 1, 1, 1, 1, 0, 1, 0, 0]) (rshapes_ly_I l a (l.length)) (.exit 0) (rshapes_ly_Z l a) := by
  exact VT.run (W := [.r [] [], .br false]) (G := [.any (rg [(24, 4)]), .sort]) (by kernel_rfl) (.c (show decide ((↑l.length : Int) < (↑(List.map nodC l).length : Int)) = false by (simp; done)) <| .n)
theorem rshapes_ly (l : List Nod) (a : Shp) (okl : ∀ n ∈ l, n.Ok) (wl : ∀ n ∈ l, n.w.length ≤ 100000 ∧ n.b.length ≤ 100000) (i : a.Ok) (f8 : l.length ≤ 8) (h : ∀ k, k < l.length → errL nextE l a k = 0) : VT Try.prog (fnC Try.f73 [1, 1, 1, 1, 1, 0, 1, 0]) (rshapes_ly_I l a 0) (.exit 0) (rshapes_ly_Z l a) :=
  VT.loop (fun k => rshapes_ly_I l a k) (l.length) (fun k hk => rshapes_ly_s l a okl wl i f8 h k hk) (rshapes_ly_e l a okl wl i f8 h) (by intro h; cases h)

noncomputable def rshapes_ln_I (l : List Nod) (a : Shp) (m : Nat) (k : Nat) : VS := stt 72 [(0, .sl 19 (l.map nodC)), (7, .own 900), (8, i64 k)] [(900, .slc 32 3 ((growL nextE l a k).map shpC))]
noncomputable def rshapes_ln_Z (l : List Nod) (a : Shp) (m : Nat) : VS := stt 72 [(4, nilv), (5, i64 m), (6, i64 (errL nextE l a m))] []
set_option maxRecDepth 100000 in
set_option maxHeartbeats 2000000 in
theorem rshapes_ln_s (l : List Nod) (a : Shp) (m : Nat) (okl : ∀ n ∈ l, n.Ok) (wl : ∀ n ∈ l, n.w.length ≤ 100000 ∧ n.b.length ≤ 100000) (i : a.Ok) (f8 : l.length ≤ 8) (hm : m < l.length) (hf : errL nextE l a m ≠ 0) (h : ∀ k, k < m → errL nextE l a k = 0) (k : Nat) (hk : k < m) : VT Try.prog (fnC Try.f73 [1, 1, 1, 1, 1, 0, 1, 0, 0]) (rshapes_ln_I l a m k) .normal (rshapes_ln_I l a m (k + 1)) := by
  have q := h k hk
  have q1 := growL_len nextE l a k
  have q2 := grow_ok (l := l) i k
  have q3 := getD_in okl (show k < l.length by omega)
  have qz := q3.kd
  have q4 := getD_in wl (show k < l.length by omega)
  obtain ⟨q5, q6⟩ := q4
  have q8 : (List.map shpC (growL nextE l a k)).length = (growL nextE l a k).length := List.length_map _
  unfold errL at q
  obtain ⟨c1, c2, c3⟩ := nextE_ok q
  obtain ⟨c4, c5, c6⟩ := there_at q2 c2
  rw [c3] at q
  have oz2 := (map_at (nodC) (default) (l := l) (i := k) (by omega))
  have oz3 := @refCheck_v (l.getD k default) q5 q6 qz
  have oz5 := @refThere_v (l.getD k default) ((↑(List.map shpC (growL nextE l a k)).length : Int))
  have oz9 := (map_at (shpC) (default) (l := growL nextE l a k) (i := (l.getD k default).na.toNat) (by omega))
  have oz10 := @refSecond_v (l.getD k default)
  have oz13 := (map_at (shpC) (default) (l := growL nextE l a k) (i := (secN (l.getD k default)).toNat) (by omega))
  have oz14 := @refKshape_v (l.getD k default) ((growL nextE l a k).getD (l.getD k default).na.toNat default) ((growL nextE l a k).getD (secN (l.getD k default)).toNat default) c5 c6 q3
  exact VT.run (W := [.r [] [], .br true, .r [] [.row (sO oz2)], .r [] [.callr (rO oz3)], .r [] [], .br false, .r [] [.callr (rO oz5)], .br false, .r [] [.row (sO oz9), .callr (rO oz10), .row (sO oz13), .callr (rO oz14)], .r [] [], .br false, .r [] [], .r [] [.n ((↑k : Int) + 1)]]) (G := [.any (rg [(9, 4), (24, 14), (40, 5), (46, 17), (65, 4)]), .drop [9, 11, 67], .ren 68 900, .weak 8 (i64 (↑(k + 1) : Int)), .blk 900 (Blk.slc 32 3 (List.map shpC (growL nextE l a (k + 1)))), .sort]) (by kernel_rfl) (.c (show decide ((↑k : Int) < (↑(List.map nodC l).length : Int)) = true by (simp; omega)) <| .c (show 0 ≤ (↑k : Int) by omega) <| .c oz2 <| .c oz3 <| .c (show (checkE (l.getD k default) != 0) = false by (rw [c1]; rfl)) <| .c oz5 <| .c (show (!thereB (l.getD k default) (↑(List.map shpC (growL nextE l a k)).length : Int)) = false by (rw [c2]; rfl)) <| .c (show 0 ≤ (l.getD k default).na by omega) <| .c (show (l.getD k default).na < (↑(List.map shpC (growL nextE l a k)).length : Int) by omega) <| .c oz9 <| .c oz10 <| .c (show 0 ≤ secN (l.getD k default) by omega) <| .c (show secN (l.getD k default) < (↑(List.map shpC (growL nextE l a k)).length : Int) by omega) <| .c oz13 <| .c oz14 <| .c (show ((shapeE (l.getD k default) ((growL nextE l a k).getD (l.getD k default).na.toNat default) ((growL nextE l a k).getD (secN (l.getD k default)).toNat default)).snd != 0) = false by (rw [q]; rfl)) <| .c (show ((List.map shpC (growL nextE l a k)).length + 1) * 24 ≤ 140737488355328 by omega) <| .c (show (List.map shpC (growL nextE l a k)).length + 1 ≤ 9223372036854775807 by omega) <| .c (IntWalk.i64_in ((↑k : Int) + 1) (by omega)) <| .c (Weak.int (k := .i64) (show (((↑k : Int) + 1) : Int) = ((↑(k + 1) : Int)) from (by omega))) <| .c (show BlkW (Blk.slc 32 3 (List.map shpC (growL nextE l a k) ++ [[i64 (shapeE (l.getD k default) ((growL nextE l a k).getD (l.getD k default).na.toNat default) ((growL nextE l a k).getD (secN (l.getD k default)).toNat default)).fst.h, i64 (shapeE (l.getD k default) ((growL nextE l a k).getD (l.getD k default).na.toNat default) ((growL nextE l a k).getD (secN (l.getD k default)).toNat default)).fst.x, i64 (shapeE (l.getD k default) ((growL nextE l a k).getD (l.getD k default).na.toNat default) ((growL nextE l a k).getD (secN (l.getD k default)).toNat default)).fst.c]])) (Blk.slc 32 3 (List.map shpC (growL nextE l a (k + 1)))) from (BlkW.rows (rows_to (shpC) (l := growL nextE l a k ++ [Shp.mk (shapeE (l.getD k default) ((growL nextE l a k).getD (l.getD k default).na.toNat default) ((growL nextE l a k).getD (secN (l.getD k default)).toNat default)).1.h (shapeE (l.getD k default) ((growL nextE l a k).getD (l.getD k default).na.toNat default) ((growL nextE l a k).getD (secN (l.getD k default)).toNat default)).1.x (shapeE (l.getD k default) ((growL nextE l a k).getD (l.getD k default).na.toNat default) ((growL nextE l a k).getD (secN (l.getD k default)).toNat default)).1.c]) (m := growL nextE l a (k + 1)) (by first | (simp only [List.map_append, List.map_cons, List.map_nil, List.map_set, List.map_replicate, List.map_take, List.map_drop]; done) | rfl | (simp only [List.map_append, List.map_cons, List.map_nil, List.map_set, List.map_replicate, List.map_take, List.map_drop]; rfl)) (show (growL nextE l a k ++ [Shp.mk (shapeE (l.getD k default) ((growL nextE l a k).getD (l.getD k default).na.toNat default) ((growL nextE l a k).getD (secN (l.getD k default)).toNat default)).1.h (shapeE (l.getD k default) ((growL nextE l a k).getD (l.getD k default).na.toNat default) ((growL nextE l a k).getD (secN (l.getD k default)).toNat default)).1.x (shapeE (l.getD k default) ((growL nextE l a k).getD (l.getD k default).na.toNat default) ((growL nextE l a k).getD (secN (l.getD k default)).toNat default)).1.c]) = (growL nextE l a (k + 1)) from (by (rw [growL, c3])))))) <| .n)
set_option maxRecDepth 100000 in
set_option maxHeartbeats 2000000 in
theorem rshapes_ln_e (l : List Nod) (a : Shp) (m : Nat) (okl : ∀ n ∈ l, n.Ok) (wl : ∀ n ∈ l, n.w.length ≤ 100000 ∧ n.b.length ≤ 100000) (i : a.Ok) (f8 : l.length ≤ 8) (hm : m < l.length) (hf : errL nextE l a m ≠ 0) (h : ∀ k, k < m → errL nextE l a k = 0) : VT Try.prog (fnC Try.f73 [1, 1, 1, 1, 1, 0, 1, 0, 0]) (rshapes_ln_I l a m (m)) (.ret) (rshapes_ln_Z l a m) := by
  have q1 := growL_len nextE l a m
  have q2 := grow_ok (l := l) i m
  have q3 := getD_in okl hm
  have qz := q3.kd
  have q4 := getD_in wl hm
  obtain ⟨q5, q6⟩ := q4
  have q8 : (List.map shpC (growL nextE l a m)).length = (growL nextE l a m).length := List.length_map _
  have qa := fun h => there_at (n := l.getD m default) q2 h
  have e0 := @nextE_c (l.getD m default) (growL nextE l a m)
  have e1 := @nextE_0 (l.getD m default) (growL nextE l a m)
  have e2 := @nextE_6 (l.getD m default) (growL nextE l a m)
  have q : errL nextE l a m = (nextE (l.getD m default) (growL nextE l a m)).2 := rfl
  unfold errL at hf
  have oz0 := (show decide ((↑m : Int) < (↑(List.map nodC l).length : Int)) = true by (simp; omega))
  have oz1 := (show 0 ≤ (↑m : Int) by omega)
  have oz2 := (map_at (nodC) (default) (l := l) (i := m) hm)
  have oz3 := @refCheck_v (l.getD m default) q5 q6 qz
  rcases Bool.eq_false_or_eq_true (checkE (l.getD m default) != 0) with hc0 | hc0
  · have gc0 : ¬checkE (l.getD m default) = 0 := bdt hc0
    exact VT.run (W := [.r [] [], .br true, .r [] [.row (sO oz2)], .r [] [.callr (rO oz3)], .r [] [], .br true, .r [] []]) (G := [.any (rg [(0, 1), (7, 4), (24, 4), (30, 10)]), .drop [900, 9], .weak 6 (i64 (errL nextE l a m)), .sort]) (by kernel_rfl) (.c oz0 <| .c oz1 <| .c oz2 <| .c oz3 <| .c hc0 <| .c (Weak.int (k := .i64) (show ((checkE (l.getD m default)) : Int) = (errL nextE l a m) from (by (rw [q, e0 (by omega)])))) <| .n)
  · have gc0 : checkE (l.getD m default) = 0 := bdf hc0
    have oz5 := @refThere_v (l.getD m default) ((↑(List.map shpC (growL nextE l a m)).length : Int))
    rcases Bool.eq_false_or_eq_true (!thereB (l.getD m default) (↑(List.map shpC (growL nextE l a m)).length : Int)) with hc1 | hc1
    · have gc1 : thereB (l.getD m default) (↑(List.map shpC (growL nextE l a m)).length : Int) = false := by first | exact hc1 | exact of_decide_eq_true hc1 | exact of_decide_eq_false hc1 | simpa [eqNums] using hc1 | (simp [eqNums] at hc1 ⊢; first | done | assumption | omega)
      exact VT.run (W := [.r [] [], .br true, .r [] [.row (sO oz2)], .r [] [.callr (rO oz3)], .r [] [], .br false, .r [] [.callr (rO oz5)], .br true, .r [] []]) (G := [.any (rg [(0, 1), (7, 4), (24, 4), (30, 8), (40, 6)]), .drop [900, 9], .weak 6 (i64 (errL nextE l a m)), .sort]) (by kernel_rfl) (.c oz0 <| .c oz1 <| .c oz2 <| .c oz3 <| .c hc0 <| .c oz5 <| .c hc1 <| .c (Weak.int (k := .i64) (show ((8) : Int) = (errL nextE l a m) from (by (rw [q, e1 (by omega) (by simp_all)])))) <| .n)
    · have gc1 : thereB (l.getD m default) (↑(List.map shpC (growL nextE l a m)).length : Int) = true := by first | exact hc1 | exact of_decide_eq_true hc1 | exact of_decide_eq_false hc1 | simpa [eqNums] using hc1 | (simp [eqNums] at hc1 ⊢; first | done | assumption | omega)
      have oz9 := (map_at (shpC) (default) (l := growL nextE l a m) (i := (l.getD m default).na.toNat) (by (have := qa (by assumption); omega)))
      have oz10 := @refSecond_v (l.getD m default)
      have oz13 := (map_at (shpC) (default) (l := growL nextE l a m) (i := (secN (l.getD m default)).toNat) (by (have := qa (by assumption); omega)))
      have oz14 := @refKshape_v (l.getD m default) ((growL nextE l a m).getD (l.getD m default).na.toNat default) ((growL nextE l a m).getD (secN (l.getD m default)).toNat default) (by (have := qa (by assumption); exact this.2.1)) (by (have := qa (by assumption); exact this.2.2)) q3
      have oz16 := (Weak.int (k := .i64) (show (((shapeE (l.getD m default) ((growL nextE l a m).getD (l.getD m default).na.toNat default) ((growL nextE l a m).getD (secN (l.getD m default)).toNat default)).snd) : Int) = (errL nextE l a m) from (by (rw [q, e2 (by omega) (by assumption)]))))
      exact VT.run (W := [.r [] [], .br true, .r [] [.row (sO oz2)], .r [] [.callr (rO oz3)], .r [] [], .br false, .r [] [.callr (rO oz5)], .br false, .r [] [.row (sO oz9), .callr (rO oz10), .row (sO oz13), .callr (rO oz14)], .r [] [], .br true, .r [] []]) (G := [.any (rg [(0, 1), (7, 6), (24, 4), (30, 8), (40, 5), (46, 19)]), .drop [900, 9, 11], .weak 6 (wO oz16), .sort]) (by kernel_rfl) (.c oz0 <| .c oz1 <| .c oz2 <| .c oz3 <| .c hc0 <| .c oz5 <| .c hc1 <| .c (show 0 ≤ (l.getD m default).na by (have := qa (by assumption); omega)) <| .c (show (l.getD m default).na < (↑(List.map shpC (growL nextE l a m)).length : Int) by (have := qa (by assumption); omega)) <| .c oz9 <| .c oz10 <| .c (show 0 ≤ secN (l.getD m default) by (have := qa (by assumption); omega)) <| .c (show secN (l.getD m default) < (↑(List.map shpC (growL nextE l a m)).length : Int) by (have := qa (by assumption); omega)) <| .c oz13 <| .c oz14 <| .c (show ((shapeE (l.getD m default) ((growL nextE l a m).getD (l.getD m default).na.toNat default) ((growL nextE l a m).getD (secN (l.getD m default)).toNat default)).snd != 0) = true by (rw [e2 (by omega) (by assumption)] at hf; rw [bne_iff_ne]; exact hf)) <| .c oz16 <| .n)
theorem rshapes_ln (l : List Nod) (a : Shp) (m : Nat) (okl : ∀ n ∈ l, n.Ok) (wl : ∀ n ∈ l, n.w.length ≤ 100000 ∧ n.b.length ≤ 100000) (i : a.Ok) (f8 : l.length ≤ 8) (hm : m < l.length) (hf : errL nextE l a m ≠ 0) (h : ∀ k, k < m → errL nextE l a k = 0) : VT Try.prog (fnC Try.f73 [1, 1, 1, 1, 1, 0, 1, 0]) (rshapes_ln_I l a m 0) (.ret) (rshapes_ln_Z l a m) :=
  VT.loop (fun k => rshapes_ln_I l a m k) (m) (fun k hk => rshapes_ln_s l a m okl wl i f8 hm hf h k hk) (rshapes_ln_e l a m okl wl i f8 hm hf h) (by intro h; cases h)

set_option maxRecDepth 100000 in
set_option maxHeartbeats 2000000 in
theorem rshapes_y (l : List Nod) (a : Shp) (okl : ∀ n ∈ l, n.Ok) (wl : ∀ n ∈ l, n.w.length ≤ 100000 ∧ n.b.length ≤ 100000) (h : SOK l a) : VC Try.prog 73 ([.sl 19 (l.map nodC), shp a]) (.tup [.sl 3 ((growL nextE l a l.length).map shpC), i64 l.length, i64 0]) := by
  have q1 := h.i
  have q2 := h.e
  have q3 := h.f
  have q4 := h.k
  have q5 := q1.ok
  obtain ⟨p1, p2, p3⟩ := id q5
  unfold Shp.Rt at q1
  have oz0 := @refElems_v (a.h) (a.x) (a.c) p1 p2 p3
  have oz5 := @rshapes_ly (l) (a) okl wl q5 q3 q4
  exact (VC.run (fn := Try.f73) (W := [.r [] [], .r [] [.callr (rO oz0)], .br false, .r [] [], .br false, .r [] [], .br false, .r [] [], .r [] [], .code [.any (rg [(1, 1), (3, 4), (13, 11)]), .drop [3], .ren 23 900, .weak 8 (i64 (↑0 : Int)), .sort] (Exit.exit 0) (zO oz5), .r [] []]) (r := AV.tup [AV.sl 3 (List.map shpC (growL nextE l a l.length)), i64 (↑(List.map nodC l).length : Int), i64 0]) Try.func73 (by kernel_rfl) (.c oz0 <| .c (show (elems a.h a.x a.c == 0) = false by (refine decide_eq_false ?_; omega)) <| .c (show ((↑(List.map nodC l).length : Int) == 0) = false by (simp only [decide_eq_true_eq, decide_eq_false_iff_not, beq_iff_eq, bne_iff_ne, ne_eq, beq_eq_false_iff_ne, bne_eq_false_iff_eq, Bool.not_eq_true', Bool.not_eq_false', Bool.not_eq_eq_eq_not, Bool.not_true, Bool.not_false, Classical.not_not, Int.not_lt, Int.not_le, Bool.and_eq_true, Bool.and_eq_false_iff, Bool.or_eq_true, Bool.or_eq_false_iff, Bool.and_true, Bool.true_and, Bool.and_false, Bool.false_and, Bool.or_false, Bool.false_or, eqNums, List.length_map, List.length_append, List.length_cons, List.length_nil, List.length_set, List.length_replicate, List.length_take, List.length_drop, List.length_range, Int.toNat_natCast, Nat.zero_add, List.map_eq_nil_iff]; (first | done | with_reducible assumption | omega | contradiction))) <| .c (show decide ((↑(List.map nodC l).length : Int) > 8) = false by (simp; omega)) <| .c (Weak.int (k := .i64) (show ((0) : Int) = ((↑0 : Int)) from (by omega))) <| .c oz5 <| .n)).weak (WeakL.refl _) (Weak.tup (.cons (.refl _) (.cons (Weak.int (show (((↑(List.map nodC l).length : Int)) : Int) = ((↑l.length : Int)) from (by (simp; done)))) (.cons (.refl _) .nil))))

set_option maxRecDepth 100000 in
set_option maxHeartbeats 2000000 in
theorem rshapes_a (l : List Nod) (a : Shp) (i : a.Ok) (hl : l.length ≤ 1000) (h : ¬ 0 < elems a.h a.x a.c ∨ l.length = 0 ∨ 8 < l.length) : VC Try.prog 73 ([.sl 19 (l.map nodC), shp a]) (.tup [nilv, i64 (shapesE l a).1, i64 (shapesE l a).2]) := by
  have q := elems_in a.h a.x a.c
  obtain ⟨p1, p2, p3⟩ := id i
  have oz0 := @refElems_v (a.h) (a.x) (a.c) p1 p2 p3
  rcases Bool.eq_false_or_eq_true (elems a.h a.x a.c == 0) with hc0 | hc0
  · have gc0 : elems a.h a.x a.c = 0 := bet hc0
    exact (VC.run (fn := Try.f73) (W := [.r [] [], .r [] [.callr (rO oz0)], .br true, .r [] []]) (r := AV.tup [AV.lit (Value.slice none 0 0), i64 (-1), i64 5]) Try.func73 (by kernel_rfl) (.c oz0 <| .c hc0 <| .n)).weak (WeakL.refl _) (Weak.tup (.cons (.refl _) (.cons (Weak.int (show ((-1) : Int) = ((shapesE l a).fst) from (by (unfold shapesE; (try simp only [List.length_map] at *); (repeat first | rw [if_pos (by omega)] | rw [if_neg (by omega)]))))) (.cons (Weak.int (show ((5) : Int) = ((shapesE l a).snd) from (by (unfold shapesE; (try simp only [List.length_map] at *); (repeat first | rw [if_pos (by omega)] | rw [if_neg (by omega)]))))) .nil))))
  · have gc0 : ¬elems a.h a.x a.c = 0 := bef hc0
    rcases Bool.eq_false_or_eq_true ((↑(List.map nodC l).length : Int) == 0) with hc1 | hc1
    · have gc1 : (↑(List.map nodC l).length : Int) = 0 := bet hc1
      exact (VC.run (fn := Try.f73) (W := [.r [] [], .r [] [.callr (rO oz0)], .br false, .r [] [], .br true, .r [] []]) (r := AV.tup [AV.lit (Value.slice none 0 0), i64 (-1), i64 12]) Try.func73 (by kernel_rfl) (.c oz0 <| .c hc0 <| .c hc1 <| .n)).weak (WeakL.refl _) (Weak.tup (.cons (.refl _) (.cons (Weak.int (show ((-1) : Int) = ((shapesE l a).fst) from (by (unfold shapesE; (try simp only [List.length_map] at *); (repeat first | rw [if_pos (by omega)] | rw [if_neg (by omega)]))))) (.cons (Weak.int (show ((12) : Int) = ((shapesE l a).snd) from (by (unfold shapesE; (try simp only [List.length_map] at *); (repeat first | rw [if_pos (by omega)] | rw [if_neg (by omega)]))))) .nil))))
    · have gc1 : ¬(↑(List.map nodC l).length : Int) = 0 := bef hc1
      exact (VC.run (fn := Try.f73) (W := [.r [] [], .r [] [.callr (rO oz0)], .br false, .r [] [], .br false, .r [] [], .br true, .r [] []]) (r := AV.tup [AV.lit (Value.slice none 0 0), i64 (-1), i64 4]) Try.func73 (by kernel_rfl) (.c oz0 <| .c hc0 <| .c hc1 <| .c (show decide ((↑(List.map nodC l).length : Int) > 8) = true by (simp only [decide_eq_true_eq, decide_eq_false_iff_not, beq_iff_eq, bne_iff_ne, ne_eq, beq_eq_false_iff_ne, bne_eq_false_iff_eq, Bool.not_eq_true', Bool.not_eq_false', Bool.not_eq_eq_eq_not, Bool.not_true, Bool.not_false, Classical.not_not, Int.not_lt, Int.not_le, Bool.and_eq_true, Bool.and_eq_false_iff, Bool.or_eq_true, Bool.or_eq_false_iff, Bool.and_true, Bool.true_and, Bool.and_false, Bool.false_and, Bool.or_false, Bool.false_or, eqNums, List.length_map, List.length_append, List.length_cons, List.length_nil, List.length_set, List.length_replicate, List.length_take, List.length_drop, List.length_range, Int.toNat_natCast, Nat.zero_add, List.map_eq_nil_iff] at *; (first | done | with_reducible assumption | omega | contradiction))) <| .n)).weak (WeakL.refl _) (Weak.tup (.cons (.refl _) (.cons (Weak.int (show ((-1) : Int) = ((shapesE l a).fst) from (by (unfold shapesE; (try simp only [List.length_map] at *); (repeat first | rw [if_pos (by omega)] | rw [if_neg (by omega)]))))) (.cons (Weak.int (show ((4) : Int) = ((shapesE l a).snd) from (by (unfold shapesE; (try simp only [List.length_map] at *); (repeat first | rw [if_pos (by omega)] | rw [if_neg (by omega)]))))) .nil))))

set_option maxRecDepth 100000 in
set_option maxHeartbeats 2000000 in
theorem rshapes_m (l : List Nod) (a : Shp) (m : Nat) (okl : ∀ n ∈ l, n.Ok) (wl : ∀ n ∈ l, n.w.length ≤ 100000 ∧ n.b.length ≤ 100000) (i : 0 < elems a.h a.x a.c) (f8 : l.length ≤ 8) (hm : m < l.length) (hf : errL nextE l a m ≠ 0) (h : ∀ k, k < m → errL nextE l a k = 0) : VC Try.prog 73 ([.sl 19 (l.map nodC), shp a]) (.tup [nilv, i64 m, i64 (errL nextE l a m)]) := by
  have q := Shp.Rt.ok i
  obtain ⟨p1, p2, p3⟩ := id q
  have oz0 := @refElems_v (a.h) (a.x) (a.c) p1 p2 p3
  have oz5 := @rshapes_ln (l) (a) (m) okl wl q f8 hm hf h
  exact VC.run (fn := Try.f73) (W := [.r [] [], .r [] [.callr (rO oz0)], .br false, .r [] [], .br false, .r [] [], .br false, .r [] [], .r [] [], .code [.any (rg [(1, 1), (3, 4), (13, 11)]), .drop [3], .ren 23 900, .weak 8 (i64 (↑0 : Int)), .sort] (Exit.ret) (zO oz5)]) Try.func73 (by kernel_rfl) (.c oz0 <| .c (show (elems a.h a.x a.c == 0) = false by (refine decide_eq_false ?_; omega)) <| .c (show ((↑(List.map nodC l).length : Int) == 0) = false by (simp only [decide_eq_true_eq, decide_eq_false_iff_not, beq_iff_eq, bne_iff_ne, ne_eq, beq_eq_false_iff_ne, bne_eq_false_iff_eq, Bool.not_eq_true', Bool.not_eq_false', Bool.not_eq_eq_eq_not, Bool.not_true, Bool.not_false, Classical.not_not, Int.not_lt, Int.not_le, Bool.and_eq_true, Bool.and_eq_false_iff, Bool.or_eq_true, Bool.or_eq_false_iff, Bool.and_true, Bool.true_and, Bool.and_false, Bool.false_and, Bool.or_false, Bool.false_or, eqNums, List.length_map, List.length_append, List.length_cons, List.length_nil, List.length_set, List.length_replicate, List.length_take, List.length_drop, List.length_range, Int.toNat_natCast, Nat.zero_add, List.map_eq_nil_iff]; (first | done | with_reducible assumption | omega | contradiction))) <| .c (show decide ((↑(List.map nodC l).length : Int) > 8) = false by (simp; omega)) <| .c (Weak.int (k := .i64) (show ((0) : Int) = ((↑0 : Int)) from (by omega))) <| .c oz5 <| .n)
theorem rshapes_n (l : List Nod) (a : Shp) (okl : ∀ n ∈ l, n.Ok) (wl : ∀ n ∈ l, n.w.length ≤ 100000 ∧ n.b.length ≤ 100000) (i : a.Ok) (hl : l.length ≤ 1000) (h : ¬ SOK l a) : VC Try.prog 73 [.sl 19 (l.map nodC), shp a] (.tup [nilv, i64 (shapesE l a).1, i64 (shapesE l a).2]) := by
  rcases SOK.cases l a with q | q | q | q | ⟨i', e, f, m, h1, h2, h3⟩
  · exact absurd q h
  · exact rshapes_a l a i hl (.inl q)
  · exact rshapes_a l a i hl (.inr (.inl q))
  · exact rshapes_a l a i hl (.inr (.inr q))
  · rw [shapesE_at i' e f h1 h2 h3]; exact rshapes_m l a m okl wl i' f h1 h2 h3
/-- The shapes of all values; the last one. -/
abbrev shpsL (l : List Nod) (a : Shp) : List Shp := growL nextE l a l.length
def lastS (l : List Nod) (a : Shp) : Shp := (shpsL l a).getD l.length default
theorem shpsL_len (l : List Nod) (a : Shp) : (shpsL l a).length = l.length + 1 := growL_len nextE l a l.length
theorem lastS_ok {l : List Nod} {a : Shp} (h : a.Ok) : (lastS l a).Ok := getD_in (grow_ok (l := l) h l.length) (show l.length < (shpsL l a).length by rw [shpsL_len]; omega)
theorem lastS_i {l : List Nod} {a : Shp} {i : Nat} (hi : i = l.length) : (growL nextE l a l.length).getD i default = lastS l a := by subst hi; rfl
end Go.Proofs.Ytdmomnaoegkpiaa

