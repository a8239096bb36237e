/- Between which numbers all values of a block lie: the law. No condition. -/
import Derived.Test.YtdmomnaoegkpiaaGdF

namespace Go.Proofs.Ytdmomnaoegkpiaa
open Go.RowKit
set_option linter.unusedSimpArgs false
set_option linter.unusedVariables false
set_option linter.unnecessarySimpa false

/-- The reach of the next value. -/
def stepR (n : Nod) (L : List Rng) : Rng × Int := if thereB n L.length = true then nodeR n (L.getD n.na.toNat default) (L.getD (secN n).toNat default) else (⟨0, 0⟩, 8)
set_option maxRecDepth 100000 in
set_option maxHeartbeats 2000000 in
theorem gstep_v (n : Nod) (L : List Rng) (ok : n.Ok) (okL : ∀ r ∈ L, r.In8) (hL : L.length ≤ 100) (wl : n.w.length ≤ 100000) (bl : n.b.length ≤ 100000) : VC Try.prog 60 ([nod n, .sl 2 (L.map rchC)]) (.tup [rch (stepR n L).1, i64 (stepR n L).2]) := by
  have q1 := @there_iff n L.length
  have q2 : (List.map rchC L).length = L.length := List.length_map _
  have q3 := fun (h : n.na.toNat < L.length) => getD_in okL h
  have q4 := fun (h : (secN n).toNat < L.length) => getD_in okL h
  have q5 : n.kd = 6 → secN n = n.nb := fun h => if_pos h
  have q6 : ¬ n.kd = 6 → secN n = n.na := fun h => if_neg h
  rcases Bool.eq_false_or_eq_true (n.kd == 6) with hc0 | hc0
  · have gc0 : n.kd = 6 := bet hc0
    have oz1 := @ends64_1 (n.na) (n.nb)
    rcases Bool.eq_false_or_eq_true (decide (min n.na n.nb < 0) || decide (max n.na n.nb ≥ (↑(List.map rchC L).length : Int))) with hc1 | hc1
    · have gc1 : min n.na n.nb < 0 ∨ max n.na n.nb ≥ (↑(List.map rchC L).length : Int) := by first | (simp only [Bool.or_eq_true, Bool.or_eq_false_iff, Bool.and_eq_true, Bool.and_eq_false_iff, Bool.not_eq_true', Bool.not_eq_false', decide_eq_true_eq, decide_eq_false_iff_not, beq_iff_eq, bne_iff_ne, ne_eq, beq_eq_false_iff_ne, bne_eq_false_iff_eq, eqNums, Bool.and_true] at hc1; first | exact hc1 | omega) | simpa using hc1 | (simp at hc1 ⊢; omega)
      exact (VC.run (fn := Try.f60) (W := [.r [] [], .r [] [], .r [] [], .br true, .r [] [], .r [] [.callr (rO oz1)], .r [] [.op false, .op false, .op false, .op false, .sel 1], .br true, .r [] []]) (r := AV.tup [AV.agg [i8 0, i8 0], i64 8]) Try.func60 (by kernel_rfl) (.c hc0 <| .c oz1 <| .c hc1 <| .n)).weak (WeakL.refl _) (Weak.tup (.cons (Weak.agg (.cons (Weak.int (show ((0) : Int) = ((stepR n L).fst.lo) from (by (unfold stepR; rw [if_neg (by rw [q1]; omega)])))) (.cons (Weak.int (show ((0) : Int) = ((stepR n L).fst.hi) from (by (unfold stepR; rw [if_neg (by rw [q1]; omega)])))) .nil))) (.cons (Weak.int (show ((8) : Int) = ((stepR n L).snd) from (by (unfold stepR; rw [if_neg (by rw [q1]; omega)])))) .nil)))
    · have gc1 : ¬min n.na n.nb < 0 ∧ ¬max n.na n.nb ≥ (↑(List.map rchC L).length : Int) := by first | (simp only [Bool.or_eq_true, Bool.or_eq_false_iff, Bool.and_eq_true, Bool.and_eq_false_iff, Bool.not_eq_true', Bool.not_eq_false', decide_eq_true_eq, decide_eq_false_iff_not, beq_iff_eq, bne_iff_ne, ne_eq, beq_eq_false_iff_ne, bne_eq_false_iff_eq, eqNums, Bool.and_true] at hc1; first | exact hc1 | omega) | simpa using hc1 | (simp at hc1 ⊢; omega)
      have oz4 := (map_at (rchC) (default) (l := L) (i := n.na.toNat) (by omega))
      have oz6 := (map_at (rchC) (default) (l := L) (i := n.nb.toNat) (by omega))
      have oz7 := @gnode_v (n) (L.getD n.na.toNat default) (L.getD n.nb.toNat default) ok (by (exact q3 (by omega))) (by (rw [← q5 (by omega)]; exact q4 (by rw [q5 (by omega)]; omega))) wl bl
      exact (VC.run (fn := Try.f60) (W := [.r [] [], .r [] [], .r [] [], .br true, .r [] [], .r [] [.callr (rO oz1)], .r [] [.op false, .op false, .op false, .op false, .sel 1], .br false, .r [] [.row (sO oz4), .row (sO oz6), .callr (rO oz7)]]) (r := AV.tup [AV.agg [i8 (nodeR n (L.getD n.na.toNat default) (L.getD n.nb.toNat default)).fst.lo, i8 (nodeR n (L.getD n.na.toNat default) (L.getD n.nb.toNat default)).fst.hi], i64 (nodeR n (L.getD n.na.toNat default) (L.getD n.nb.toNat default)).snd]) Try.func60 (by kernel_rfl) (.c hc0 <| .c oz1 <| .c hc1 <| .c (show 0 ≤ n.na by omega) <| .c oz4 <| .c (show 0 ≤ n.nb by omega) <| .c oz6 <| .c oz7 <| .n)).weak (WeakL.refl _) (Weak.tup (.cons (Weak.agg (.cons (Weak.int (show (((nodeR n (L.getD n.na.toNat default) (L.getD n.nb.toNat default)).fst.lo) : Int) = ((stepR n L).fst.lo) from (by (unfold stepR; rw [q5 (by omega), if_pos (by rw [q1]; omega)])))) (.cons (Weak.int (show (((nodeR n (L.getD n.na.toNat default) (L.getD n.nb.toNat default)).fst.hi) : Int) = ((stepR n L).fst.hi) from (by (unfold stepR; rw [q5 (by omega), if_pos (by rw [q1]; omega)])))) .nil))) (.cons (Weak.int (show (((nodeR n (L.getD n.na.toNat default) (L.getD n.nb.toNat default)).snd) : Int) = ((stepR n L).snd) from (by (unfold stepR; rw [q5 (by omega), if_pos (by rw [q1]; omega)])))) .nil)))
  · have gc0 : ¬n.kd = 6 := bef hc0
    have oz1 := @ends64_1 (n.na) (n.na)
    rcases Bool.eq_false_or_eq_true (decide (min n.na n.na < 0) || decide (max n.na n.na ≥ (↑(List.map rchC L).length : Int))) with hc1 | hc1
    · have gc1 : min n.na n.na < 0 ∨ max n.na n.na ≥ (↑(List.map rchC L).length : Int) := by first | (simp only [Bool.or_eq_true, Bool.or_eq_false_iff, Bool.and_eq_true, Bool.and_eq_false_iff, Bool.not_eq_true', Bool.not_eq_false', decide_eq_true_eq, decide_eq_false_iff_not, beq_iff_eq, bne_iff_ne, ne_eq, beq_eq_false_iff_ne, bne_eq_false_iff_eq, eqNums, Bool.and_true] at hc1; first | exact hc1 | omega) | simpa using hc1 | (simp at hc1 ⊢; omega)
      exact (VC.run (fn := Try.f60) (W := [.r [] [], .r [] [], .r [] [], .br false, .r [] [.callr (rO oz1)], .r [] [.op false, .op false, .op false, .op false, .sel 1], .br true, .r [] []]) (r := AV.tup [AV.agg [i8 0, i8 0], i64 8]) Try.func60 (by kernel_rfl) (.c hc0 <| .c oz1 <| .c hc1 <| .n)).weak (WeakL.refl _) (Weak.tup (.cons (Weak.agg (.cons (Weak.int (show ((0) : Int) = ((stepR n L).fst.lo) from (by (unfold stepR; rw [if_neg (by rw [q1]; omega)])))) (.cons (Weak.int (show ((0) : Int) = ((stepR n L).fst.hi) from (by (unfold stepR; rw [if_neg (by rw [q1]; omega)])))) .nil))) (.cons (Weak.int (show ((8) : Int) = ((stepR n L).snd) from (by (unfold stepR; rw [if_neg (by rw [q1]; omega)])))) .nil)))
    · have gc1 : ¬min n.na n.na < 0 ∧ ¬max n.na n.na ≥ (↑(List.map rchC L).length : Int) := by first | (simp only [Bool.or_eq_true, Bool.or_eq_false_iff, Bool.and_eq_true, Bool.and_eq_false_iff, Bool.not_eq_true', Bool.not_eq_false', decide_eq_true_eq, decide_eq_false_iff_not, beq_iff_eq, bne_iff_ne, ne_eq, beq_eq_false_iff_ne, bne_eq_false_iff_eq, eqNums, Bool.and_true] at hc1; first | exact hc1 | omega) | simpa using hc1 | (simp at hc1 ⊢; omega)
      have oz3 := (show 0 ≤ n.na by omega)
      have oz4 := (map_at (rchC) (default) (l := L) (i := n.na.toNat) (by omega))
      have oz7 := @gnode_v (n) (L.getD n.na.toNat default) (L.getD n.na.toNat default) ok (by (exact q3 (by omega))) (by (exact q3 (by omega))) wl bl
      exact (VC.run (fn := Try.f60) (W := [.r [] [], .r [] [], .r [] [], .br false, .r [] [.callr (rO oz1)], .r [] [.op false, .op false, .op false, .op false, .sel 1], .br false, .r [] [.row (sO oz4), .row (sO oz4), .callr (rO oz7)]]) (r := AV.tup [AV.agg [i8 (nodeR n (L.getD n.na.toNat default) (L.getD n.na.toNat default)).fst.lo, i8 (nodeR n (L.getD n.na.toNat default) (L.getD n.na.toNat default)).fst.hi], i64 (nodeR n (L.getD n.na.toNat default) (L.getD n.na.toNat default)).snd]) Try.func60 (by kernel_rfl) (.c hc0 <| .c oz1 <| .c hc1 <| .c oz3 <| .c oz4 <| .c oz3 <| .c oz4 <| .c oz7 <| .n)).weak (WeakL.refl _) (Weak.tup (.cons (Weak.agg (.cons (Weak.int (show (((nodeR n (L.getD n.na.toNat default) (L.getD n.na.toNat default)).fst.lo) : Int) = ((stepR n L).fst.lo) from (by (unfold stepR; rw [q6 (by omega), if_pos (by rw [q1]; omega)])))) (.cons (Weak.int (show (((nodeR n (L.getD n.na.toNat default) (L.getD n.na.toNat default)).fst.hi) : Int) = ((stepR n L).fst.hi) from (by (unfold stepR; rw [q6 (by omega), if_pos (by rw [q1]; omega)])))) .nil))) (.cons (Weak.int (show (((nodeR n (L.getD n.na.toNat default) (L.getD n.na.toNat default)).snd) : Int) = ((stepR n L).snd) from (by (unfold stepR; rw [q6 (by omega), if_pos (by rw [q1]; omega)])))) .nil)))
def FOK (l : List Nod) (a : Rng) : Prop := 0 < l.length ∧ l.length ≤ 8 ∧ a.lo ≤ a.hi ∧ ∀ k, k < l.length → errL stepR l a k = 0
theorem nodeR_in {n : Nod} {a b : Rng} (ok : n.Ok) (ha : a.In8) (hb : b.In8) : (nodeR n a b).1.In8 := by
  have hz : Rng.In8 ⟨0, 0⟩ := ⟨⟨by dsimp only; decide, by dsimp only; decide⟩, ⟨by dsimp only; decide, by dsimp only; decide⟩⟩
  have held : ∀ x m s z, In8 (heldQ x m s z n.lo n.hi) := fun x m s z => by
    unfold heldQ; split
    · exact clamp_in _ ok.lo ok.hi
    · exact ⟨by decide, by decide⟩
  unfold nodeR
  split
  · exact hz
  · split
    · exact hz
    · split
      · unfold sumE; split
        · unfold afterE
          have h1 := held (held32 (bothR (spansN n a) (spansN n a).length).lo) n.qm n.qs n.qz
          have h2 := held (held32 (bothR (spansN n a) (spansN n a).length).hi) n.qm n.qs n.qz
          constructor <;> dsimp only <;> omega
        · exact hz
      · split
        · have hj : ∀ x y, In8 (joinE x y n) := fun x y => by
            unfold joinE; split
            · exact clamp_in _ ok.lo ok.hi
            · exact ⟨by decide, by decide⟩
          exact ⟨hj _ _, hj _ _⟩
        · split
          · exact ⟨held _ _ _ _, held _ _ _ _⟩
          · obtain ⟨p1, p2⟩ := ha
            have p3 := ok.za
            split
            · constructor <;> dsimp only <;> omega
            · exact ⟨p1, p2⟩
theorem stepR_in {n : Nod} {L : List Rng} (ok : n.Ok) (hL : ∀ r ∈ L, r.In8) : (stepR n L).1.In8 := by
  unfold stepR
  split
  · rename_i h
    have h := there_iff.1 h
    exact nodeR_in ok (getD_in hL (by omega)) (getD_in hL (by omega))
  · exact ⟨⟨by dsimp only; decide, by dsimp only; decide⟩, ⟨by dsimp only; decide, by dsimp only; decide⟩⟩
theorem flow_in {l : List Nod} {a : Rng} (okl : ∀ n ∈ l, n.Ok) (ha : a.In8) {k : Nat} (hk : k ≤ l.length) : ∀ r ∈ growL stepR l a k, r.In8 :=
  growL_all (n := k) ha (fun j hj h => stepR_in (getD_in okl (by omega)) h) k (Nat.le_refl _)
noncomputable def flow_ly_I (l : List Nod) (a : Rng) (k : Nat) : VS := stt 50 [(0, .sl 19 (l.map nodC)), (7, .own 900), (25, .sl 19 (l.map nodC)), (26, i64 l.length), (27, i64 k)] [(900, .slc 42 2 ((growL stepR l a k).map rchC))]
noncomputable def flow_ly_Z (l : List Nod) (a : Rng) : VS := flow_ly_I l a (l.length)
set_option maxRecDepth 100000 in
set_option maxHeartbeats 2000000 in
theorem flow_ly_s (l : List Nod) (a : Rng) (okl : ∀ n ∈ l, n.Ok) (wl : ∀ n ∈ l, n.w.length ≤ 100000 ∧ n.b.length ≤ 100000) (ha : a.In8) (f8 : l.length ≤ 8) (h : ∀ k, k < l.length → errL stepR l a k = 0) (k : Nat) (hk : k < l.length) : VT Try.prog (fnC Try.f19 [1, 1, 1, 0, 1, 0, 0]) (flow_ly_I l a k) .normal (flow_ly_I l a (k + 1)) := by
  have q := h k hk
  have q1 := growL_len stepR l a k
  have q2 := flow_in okl ha (Nat.le_of_lt hk)
  have q3 := getD_in okl hk
  have q4 := getD_in wl hk
  obtain ⟨q5, q6⟩ := q4
  unfold errL at q
  have oz2 := (map_at (nodC) (default) (l := l) (i := k) hk)
  have oz3 := @gstep_v (l.getD k default) (growL stepR l a k) q3 q2 (by omega) q5 q6
  exact VT.run (W := [.r [] [], .br true, .r [] [.row (sO oz2)], .r [] [.callr (rO oz3)], .r [] [], .br false, .r [] [], .r [] [.n ((↑k : Int) + 1)]]) (G := [.any (rg [(8, 4), (28, 12), (42, 5)]), .drop [9, 10, 44], .ren 45 900, .weak 27 (i64 (↑(k + 1) : Int)), .blk 900 (Blk.slc 42 2 (List.map rchC (growL stepR l a (k + 1)))), .sort]) (by kernel_rfl) (.c (decide_eq_true (p := ((↑k : Int) < (↑l.length : Int))) (by omega)) <| .c (show 0 ≤ (↑k : Int) by omega) <| .c oz2 <| .c oz3 <| .c (show ((stepR (l.getD k default) (growL stepR l a k)).snd != 0) = false by (simp at *; omega)) <| .c (show ((List.map rchC (growL stepR l a k)).length + 1) * 2 ≤ 140737488355328 by (simp; omega)) <| .c (show (List.map rchC (growL stepR l a k)).length + 1 ≤ 9223372036854775807 by (simp; omega)) <| .c (IntWalk.i64_in ((↑k : Int) + 1) (by omega)) <| .c (Weak.int (k := .i64) (show (((↑k : Int) + 1) : Int) = ((↑(k + 1) : Int)) from (by omega))) <| .c (show BlkW (Blk.slc 42 2 (List.map rchC (growL stepR l a k) ++ [[i8 (stepR (l.getD k default) (growL stepR l a k)).fst.lo, i8 (stepR (l.getD k default) (growL stepR l a k)).fst.hi]])) (Blk.slc 42 2 (List.map rchC (growL stepR l a (k + 1)))) from (BlkW.rows (rows_to (rchC) (l := growL stepR l a k ++ [Rng.mk (stepR (l.getD k default) (growL stepR l a k)).1.lo (stepR (l.getD k default) (growL stepR l a k)).1.hi]) (m := growL stepR l a (k + 1)) (by first | (simp only [List.map_append, List.map_cons, List.map_nil, List.map_set, List.map_replicate, List.map_take, List.map_drop]; done) | rfl | (simp only [List.map_append, List.map_cons, List.map_nil, List.map_set, List.map_replicate, List.map_take, List.map_drop]; rfl)) (show (growL stepR l a k ++ [Rng.mk (stepR (l.getD k default) (growL stepR l a k)).1.lo (stepR (l.getD k default) (growL stepR l a k)).1.hi]) = (growL stepR l a (k + 1)) from (by rfl))))) <| .n)
set_option maxRecDepth 100000 in
set_option maxHeartbeats 2000000 in
theorem flow_ly_e (l : List Nod) (a : Rng) (okl : ∀ n ∈ l, n.Ok) (wl : ∀ n ∈ l, n.w.length ≤ 100000 ∧ n.b.length ≤ 100000) (ha : a.In8) (f8 : l.length ≤ 8) (h : ∀ k, k < l.length → errL stepR l a k = 0) : VT Try.prog (fnC Try.f19 [1, 1, 1, 0, 1, 0, 0]) (flow_ly_I l a (l.length)) (.exit 1) (flow_ly_Z l a) := by
  exact VT.run (W := [.r [] [], .br false]) (G := [.any [28], .sort]) (by kernel_rfl) (.c (decide_eq_false (p := ((↑l.length : Int) < (↑l.length : Int))) (by omega)) <| .n)
theorem flow_ly (l : List Nod) (a : Rng) (okl : ∀ n ∈ l, n.Ok) (wl : ∀ n ∈ l, n.w.length ≤ 100000 ∧ n.b.length ≤ 100000) (ha : a.In8) (f8 : l.length ≤ 8) (h : ∀ k, k < l.length → errL stepR l a k = 0) : VT Try.prog (fnC Try.f19 [1, 1, 1, 0, 1, 0]) (flow_ly_I l a 0) (.exit 1) (flow_ly_Z l a) :=
  VT.loop (fun k => flow_ly_I l a k) (l.length) (fun k hk => flow_ly_s l a okl wl ha f8 h k hk) (flow_ly_e l a okl wl ha f8 h) (by intro h; cases h)

noncomputable def flow_ln_I (l : List Nod) (a : Rng) (m : Nat) (k : Nat) : VS := stt 50 [(0, .sl 19 (l.map nodC)), (7, .own 900), (25, .sl 19 (l.map nodC)), (26, i64 l.length), (27, i64 k)] [(900, .slc 42 2 ((growL stepR l a k).map rchC))]
noncomputable def flow_ln_Z (l : List Nod) (a : Rng) (m : Nat) : VS := stt 50 [(4, nilv), (5, i64 m), (6, i64 (errL stepR l a m))] []
set_option maxRecDepth 100000 in
set_option maxHeartbeats 2000000 in
theorem flow_ln_s (l : List Nod) (a : Rng) (m : Nat) (okl : ∀ n ∈ l, n.Ok) (wl : ∀ n ∈ l, n.w.length ≤ 100000 ∧ n.b.length ≤ 100000) (ha : a.In8) (f8 : l.length ≤ 8) (hm : m < l.length) (hf : errL stepR l a m ≠ 0) (h : ∀ k, k < m → errL stepR l a k = 0) (k : Nat) (hk : k < m) : VT Try.prog (fnC Try.f19 [1, 1, 1, 0, 1, 0, 0]) (flow_ln_I l a m k) .normal (flow_ln_I l a m (k + 1)) := by
  have q := h k hk
  have q1 := growL_len stepR l a k
  have q2 := flow_in okl ha (show k ≤ l.length by omega)
  have q3 := getD_in okl (show k < l.length by omega)
  have q4 := getD_in wl (show k < l.length by omega)
  obtain ⟨q5, q6⟩ := q4
  unfold errL at q
  have oz2 := (map_at (nodC) (default) (l := l) (i := k) (by omega))
  have oz3 := @gstep_v (l.getD k default) (growL stepR l a k) q3 q2 (by omega) q5 q6
  exact VT.run (W := [.r [] [], .br true, .r [] [.row (sO oz2)], .r [] [.callr (rO oz3)], .r [] [], .br false, .r [] [], .r [] [.n ((↑k : Int) + 1)]]) (G := [.any (rg [(8, 4), (28, 12), (42, 5)]), .drop [9, 10, 44], .ren 45 900, .weak 27 (i64 (↑(k + 1) : Int)), .blk 900 (Blk.slc 42 2 (List.map rchC (growL stepR l a (k + 1)))), .sort]) (by kernel_rfl) (.c (decide_eq_true (p := ((↑k : Int) < (↑l.length : Int))) (by omega)) <| .c (show 0 ≤ (↑k : Int) by omega) <| .c oz2 <| .c oz3 <| .c (show ((stepR (l.getD k default) (growL stepR l a k)).snd != 0) = false by (simp at *; omega)) <| .c (show ((List.map rchC (growL stepR l a k)).length + 1) * 2 ≤ 140737488355328 by (simp; omega)) <| .c (show (List.map rchC (growL stepR l a k)).length + 1 ≤ 9223372036854775807 by (simp; omega)) <| .c (IntWalk.i64_in ((↑k : Int) + 1) (by omega)) <| .c (Weak.int (k := .i64) (show (((↑k : Int) + 1) : Int) = ((↑(k + 1) : Int)) from (by omega))) <| .c (show BlkW (Blk.slc 42 2 (List.map rchC (growL stepR l a k) ++ [[i8 (stepR (l.getD k default) (growL stepR l a k)).fst.lo, i8 (stepR (l.getD k default) (growL stepR l a k)).fst.hi]])) (Blk.slc 42 2 (List.map rchC (growL stepR l a (k + 1)))) from (BlkW.rows (rows_to (rchC) (l := growL stepR l a k ++ [Rng.mk (stepR (l.getD k default) (growL stepR l a k)).1.lo (stepR (l.getD k default) (growL stepR l a k)).1.hi]) (m := growL stepR l a (k + 1)) (by first | (simp only [List.map_append, List.map_cons, List.map_nil, List.map_set, List.map_replicate, List.map_take, List.map_drop]; done) | rfl | (simp only [List.map_append, List.map_cons, List.map_nil, List.map_set, List.map_replicate, List.map_take, List.map_drop]; rfl)) (show (growL stepR l a k ++ [Rng.mk (stepR (l.getD k default) (growL stepR l a k)).1.lo (stepR (l.getD k default) (growL stepR l a k)).1.hi]) = (growL stepR l a (k + 1)) from (by rfl))))) <| .n)
set_option maxRecDepth 100000 in
set_option maxHeartbeats 2000000 in
theorem flow_ln_e (l : List Nod) (a : Rng) (m : Nat) (okl : ∀ n ∈ l, n.Ok) (wl : ∀ n ∈ l, n.w.length ≤ 100000 ∧ n.b.length ≤ 100000) (ha : a.In8) (f8 : l.length ≤ 8) (hm : m < l.length) (hf : errL stepR l a m ≠ 0) (h : ∀ k, k < m → errL stepR l a k = 0) : VT Try.prog (fnC Try.f19 [1, 1, 1, 0, 1, 0, 0]) (flow_ln_I l a m (m)) (.ret) (flow_ln_Z l a m) := by
  have q1 := growL_len stepR l a m
  have q2 := flow_in okl ha (Nat.le_of_lt hm)
  have q3 := getD_in okl hm
  have q4 := getD_in wl hm
  obtain ⟨q5, q6⟩ := q4
  unfold errL at hf
  have oz2 := (map_at (nodC) (default) (l := l) (i := m) hm)
  have oz3 := @gstep_v (l.getD m default) (growL stepR l a m) q3 q2 (by omega) q5 q6
  have oz5 := (Weak.int (k := .i64) (show (((stepR (l.getD m default) (growL stepR l a m)).snd) : Int) = (errL stepR l a m) from (by rfl)))
  exact VT.run (W := [.r [] [], .br true, .r [] [.row (sO oz2)], .r [] [.callr (rO oz3)], .r [] [], .br true, .r [] []]) (G := [.any (rg [(0, 1), (7, 5), (25, 17)]), .drop [900, 9, 10], .weak 6 (wO oz5), .sort]) (by kernel_rfl) (.c (decide_eq_true (p := ((↑m : Int) < (↑l.length : Int))) (by omega)) <| .c (show 0 ≤ (↑m : Int) by omega) <| .c oz2 <| .c oz3 <| .c (show ((stepR (l.getD m default) (growL stepR l a m)).snd != 0) = true by (simp at *; omega)) <| .c oz5 <| .n)
theorem flow_ln (l : List Nod) (a : Rng) (m : Nat) (okl : ∀ n ∈ l, n.Ok) (wl : ∀ n ∈ l, n.w.length ≤ 100000 ∧ n.b.length ≤ 100000) (ha : a.In8) (f8 : l.length ≤ 8) (hm : m < l.length) (hf : errL stepR l a m ≠ 0) (h : ∀ k, k < m → errL stepR l a k = 0) : VT Try.prog (fnC Try.f19 [1, 1, 1, 0, 1, 0]) (flow_ln_I l a m 0) (.ret) (flow_ln_Z l a m) :=
  VT.loop (fun k => flow_ln_I l a m k) (m) (fun k hk => flow_ln_s l a m okl wl ha f8 hm hf h k hk) (flow_ln_e l a m okl wl ha f8 hm hf h) (by intro h; cases h)

set_option maxRecDepth 100000 in
set_option maxHeartbeats 2000000 in
theorem flow_y (l : List Nod) (a : Rng) (okl : ∀ n ∈ l, n.Ok) (wl : ∀ n ∈ l, n.w.length ≤ 100000 ∧ n.b.length ≤ 100000) (ha : a.In8) (h : FOK l a) : VC Try.prog 19 ([.sl 19 (l.map nodC), rch a]) (.tup [.sl 2 ((growL stepR l a l.length).map rchC), i64 l.length, i64 0]) := by
  obtain ⟨q2, q3, q1, q4⟩ := id h
  have oz2 := @upside_v (a.lo) (a.hi)
  have oz6 := @flow_ly (l) (a) okl wl ha q3 q4
  exact (VC.run (fn := Try.f19) (W := [.r [] [], .r [] [], .br false, .r [] [], .br false, .r [] [.callr (rO oz2)], .br false, .r [] [], .r [] [], .code [.any (rg [(1, 1), (3, 4), (12, 13)]), .drop [3], .ren 24 900, .weak 26 (i64 (↑l.length : Int)), .weak 27 (i64 (↑0 : Int)), .sort] (Exit.exit 1) (zO oz6), .r [] []]) (r := AV.tup [AV.sl 2 (List.map rchC (growL stepR l a l.length)), i64 (↑(List.map nodC l).length : Int), i64 0]) Try.func19 (by kernel_rfl) (.c (show ((↑(List.map nodC l).length : Int) == 0) = false by (simp only [decide_eq_true_eq, decide_eq_false_iff_not, beq_iff_eq, bne_iff_ne, ne_eq, beq_eq_false_iff_ne, bne_eq_false_iff_eq, Bool.not_eq_true', Bool.not_eq_false', Bool.not_eq_eq_eq_not, Bool.not_true, Bool.not_false, Classical.not_not, Int.not_lt, Int.not_le, Bool.and_eq_true, Bool.and_eq_false_iff, Bool.or_eq_true, Bool.or_eq_false_iff, Bool.and_true, Bool.true_and, Bool.and_false, Bool.false_and, Bool.or_false, Bool.false_or, eqNums, List.length_map, List.length_append, List.length_cons, List.length_nil, List.length_set, List.length_replicate, List.length_take, List.length_drop, List.length_range, Int.toNat_natCast, Nat.zero_add, List.map_eq_nil_iff]; (first | done | with_reducible assumption | omega | contradiction))) <| .c (show decide ((↑(List.map nodC l).length : Int) > 8) = false by (simp; omega)) <| .c oz2 <| .c (decide_eq_false (p := (a.lo > a.hi)) (by omega)) <| .c (Weak.int (k := .i64) (show (((↑(List.map nodC l).length : Int)) : Int) = ((↑l.length : Int)) from (by (simp; done)))) <| .c (Weak.int (k := .i64) (show ((0) : Int) = ((↑0 : Int)) from (by omega))) <| .c oz6 <| .n)).weak (WeakL.refl _) (Weak.tup (.cons (.refl _) (.cons (Weak.int (show (((↑(List.map nodC l).length : Int)) : Int) = ((↑l.length : Int)) from (by (simp; done)))) (.cons (.refl _) .nil))))

set_option maxRecDepth 100000 in
set_option maxHeartbeats 2000000 in
theorem flow_m (l : List Nod) (a : Rng) (m : Nat) (okl : ∀ n ∈ l, n.Ok) (wl : ∀ n ∈ l, n.w.length ≤ 100000 ∧ n.b.length ≤ 100000) (ha : a.In8) (i : a.lo ≤ a.hi) (f8 : l.length ≤ 8) (hm : m < l.length) (hf : errL stepR l a m ≠ 0) (h : ∀ k, k < m → errL stepR l a k = 0) : VC Try.prog 19 ([.sl 19 (l.map nodC), rch a]) (.tup [nilv, i64 m, i64 (errL stepR l a m)]) := by
  have oz2 := @upside_v (a.lo) (a.hi)
  have oz6 := @flow_ln (l) (a) (m) okl wl ha f8 hm hf h
  exact VC.run (fn := Try.f19) (W := [.r [] [], .r [] [], .br false, .r [] [], .br false, .r [] [.callr (rO oz2)], .br false, .r [] [], .r [] [], .code [.any (rg [(1, 1), (3, 4), (12, 13)]), .drop [3], .ren 24 900, .weak 26 (i64 (↑l.length : Int)), .weak 27 (i64 (↑0 : Int)), .sort] (Exit.ret) (zO oz6)]) Try.func19 (by kernel_rfl) (.c (show ((↑(List.map nodC l).length : Int) == 0) = false by (simp only [decide_eq_true_eq, decide_eq_false_iff_not, beq_iff_eq, bne_iff_ne, ne_eq, beq_eq_false_iff_ne, bne_eq_false_iff_eq, Bool.not_eq_true', Bool.not_eq_false', Bool.not_eq_eq_eq_not, Bool.not_true, Bool.not_false, Classical.not_not, Int.not_lt, Int.not_le, Bool.and_eq_true, Bool.and_eq_false_iff, Bool.or_eq_true, Bool.or_eq_false_iff, Bool.and_true, Bool.true_and, Bool.and_false, Bool.false_and, Bool.or_false, Bool.false_or, eqNums, List.length_map, List.length_append, List.length_cons, List.length_nil, List.length_set, List.length_replicate, List.length_take, List.length_drop, List.length_range, Int.toNat_natCast, Nat.zero_add, List.map_eq_nil_iff]; (first | done | with_reducible assumption | omega | contradiction))) <| .c (show decide ((↑(List.map nodC l).length : Int) > 8) = false by (simp; omega)) <| .c oz2 <| .c (decide_eq_false (p := (a.lo > a.hi)) (by omega)) <| .c (Weak.int (k := .i64) (show (((↑(List.map nodC l).length : Int)) : Int) = ((↑l.length : Int)) from (by (simp; done)))) <| .c (Weak.int (k := .i64) (show ((0) : Int) = ((↑0 : Int)) from (by omega))) <| .c oz6 <| .n)
def flowB (l : List Nod) (a : Rng) : Nat → Bool := fun k => errL stepR l a k == 0
/-- Where all ends, and what is wrong there. -/
def flowE (l : List Nod) (a : Rng) : Int × Int :=
  if l.length = 0 then (-1, 12) else if 8 < l.length then (-1, 4) else if a.lo > a.hi then (-1, 2)
  else if firstBad (flowB l a) l.length < l.length then (firstBad (flowB l a) l.length, errL stepR l a (firstBad (flowB l a) l.length)) else (l.length, 0)
set_option maxRecDepth 100000 in
set_option maxHeartbeats 2000000 in
theorem flow_a (l : List Nod) (a : Rng) (hl : l.length ≤ 1000) (h : l.length = 0 ∨ 8 < l.length ∨ a.lo > a.hi) : VC Try.prog 19 ([.sl 19 (l.map nodC), rch a]) (.tup [nilv, i64 (flowE l a).1, i64 (flowE l a).2]) := by
  rcases Bool.eq_false_or_eq_true ((↑(List.map nodC l).length : Int) == 0) with hc0 | hc0
  · have gc0 : (↑(List.map nodC l).length : Int) = 0 := bet hc0
    exact (VC.run (fn := Try.f19) (W := [.r [] [], .r [] [], .br true, .r [] []]) (r := AV.tup [AV.lit (Value.slice none 0 0), i64 (-1), i64 12]) Try.func19 (by kernel_rfl) (.c hc0 <| .n)).weak (WeakL.refl _) (Weak.tup (.cons (.refl _) (.cons (Weak.int (show ((-1) : Int) = ((flowE l a).fst) from (by (unfold flowE; (try simp only [List.length_map] at *); (repeat first | rw [if_pos (by omega)] | rw [if_neg (by omega)]))))) (.cons (Weak.int (show ((12) : Int) = ((flowE l a).snd) from (by (unfold flowE; (try simp only [List.length_map] at *); (repeat first | rw [if_pos (by omega)] | rw [if_neg (by omega)]))))) .nil))))
  · have gc0 : ¬(↑(List.map nodC l).length : Int) = 0 := bef hc0
    rcases Bool.eq_false_or_eq_true (decide ((↑(List.map nodC l).length : Int) > 8)) with hc1 | hc1
    · have gc1 := of_decide_eq_true hc1
      exact (VC.run (fn := Try.f19) (W := [.r [] [], .r [] [], .br false, .r [] [], .br true, .r [] []]) (r := AV.tup [AV.lit (Value.slice none 0 0), i64 (-1), i64 4]) Try.func19 (by kernel_rfl) (.c hc0 <| .c hc1 <| .n)).weak (WeakL.refl _) (Weak.tup (.cons (.refl _) (.cons (Weak.int (show ((-1) : Int) = ((flowE l a).fst) from (by (unfold flowE; (try simp only [List.length_map] at *); (repeat first | rw [if_pos (by omega)] | rw [if_neg (by omega)]))))) (.cons (Weak.int (show ((4) : Int) = ((flowE l a).snd) from (by (unfold flowE; (try simp only [List.length_map] at *); (repeat first | rw [if_pos (by omega)] | rw [if_neg (by omega)]))))) .nil))))
    · have gc1 := of_decide_eq_false hc1
      have oz2 := @upside_v (a.lo) (a.hi)
      exact (VC.run (fn := Try.f19) (W := [.r [] [], .r [] [], .br false, .r [] [], .br false, .r [] [.callr (rO oz2)], .br true, .r [] []]) (r := AV.tup [AV.lit (Value.slice none 0 0), i64 (-1), i64 2]) Try.func19 (by kernel_rfl) (.c hc0 <| .c hc1 <| .c oz2 <| .c (show decide (a.lo > a.hi) = true by (simp only [decide_eq_true_eq, decide_eq_false_iff_not, beq_iff_eq, bne_iff_ne, ne_eq, beq_eq_false_iff_ne, bne_eq_false_iff_eq, Bool.not_eq_true', Bool.not_eq_false', Bool.not_eq_eq_eq_not, Bool.not_true, Bool.not_false, Classical.not_not, Int.not_lt, Int.not_le, Bool.and_eq_true, Bool.and_eq_false_iff, Bool.or_eq_true, Bool.or_eq_false_iff, Bool.and_true, Bool.true_and, Bool.and_false, Bool.false_and, Bool.or_false, Bool.false_or, eqNums, List.length_map, List.length_append, List.length_cons, List.length_nil, List.length_set, List.length_replicate, List.length_take, List.length_drop, List.length_range, Int.toNat_natCast, Nat.zero_add, List.map_eq_nil_iff] at *; (first | done | with_reducible assumption | omega | contradiction))) <| .n)).weak (WeakL.refl _) (Weak.tup (.cons (.refl _) (.cons (Weak.int (show ((-1) : Int) = ((flowE l a).fst) from (by (unfold flowE; (try simp only [List.length_map] at *); (repeat first | rw [if_pos (by omega)] | rw [if_neg (by omega)]))))) (.cons (Weak.int (show ((2) : Int) = ((flowE l a).snd) from (by (unfold flowE; (try simp only [List.length_map] at *); (repeat first | rw [if_pos (by omega)] | rw [if_neg (by omega)]))))) .nil))))
theorem flowE_y {l : List Nod} {a : Rng} (h : FOK l a) : flowE l a = ((l.length : Int), 0) := by
  obtain ⟨q2, q3, q1, q4⟩ := h
  unfold flowE
  rw [if_neg (by omega), if_neg (by omega), if_neg (by omega), firstBad_all fun k hk => by simpa [flowB] using q4 k hk, if_neg (by omega)]
theorem flowE_at {l : List Nod} {a : Rng} {m : Nat} (i : a.lo ≤ a.hi) (e : 0 < l.length) (f : l.length ≤ 8) (hm : m < l.length) (hf : errL stepR l a m ≠ 0) (h : ∀ k, k < m → errL stepR l a k = 0) : flowE l a = ((m : Int), errL stepR l a m) := by
  have := firstBad_at (p := flowB l a) (m := m) (by simpa [flowB] using hf) (fun k hk => by simpa [flowB] using h k hk) hm
  unfold flowE
  rw [if_neg (by omega), if_neg (by omega), if_neg (by omega), this, if_pos hm]
theorem FOK.cases (l : List Nod) (a : Rng) : FOK l a ∨ (l.length = 0 ∨ 8 < l.length ∨ a.lo > a.hi) ∨ (a.lo ≤ a.hi ∧ 0 < l.length ∧ l.length ≤ 8 ∧ ∃ m, m < l.length ∧ errL stepR l a m ≠ 0 ∧ ∀ k, k < m → errL stepR l a k = 0) := by
  by_cases c : l.length = 0 ∨ 8 < l.length ∨ a.lo > a.hi
  · exact .inr (.inl c)
  · rcases all_or (flowB l a) l.length with h | ⟨m, h1, h2, h3⟩
    · exact .inl ⟨by omega, by omega, by omega, fun k hk => by simpa [flowB] using h k hk⟩
    · exact .inr (.inr ⟨by omega, by omega, by omega, m, h1, by simpa [flowB] using h2, fun k hk => by simpa [flowB] using h3 k hk⟩)
theorem flowE_n {l : List Nod} {a : Rng} (h : ¬ FOK l a) : (flowE l a).2 ≠ 0 := by
  rcases FOK.cases l a with q | q | ⟨i, e, f, m, h1, h2, h3⟩
  · exact absurd q h
  · unfold flowE
    by_cases c1 : l.length = 0
    · rw [if_pos c1]; dsimp only; decide
    · rw [if_neg c1]
      by_cases c2 : 8 < l.length
      · rw [if_pos c2]; dsimp only; decide
      · rw [if_neg c2, if_pos (by omega)]; dsimp only; decide
  · rw [flowE_at i e f h1 h2 h3]; exact h2
theorem flow_n (l : List Nod) (a : Rng) (okl : ∀ n ∈ l, n.Ok) (wl : ∀ n ∈ l, n.w.length ≤ 100000 ∧ n.b.length ≤ 100000) (ha : a.In8) (hl : l.length ≤ 1000) (h : ¬ FOK l a) : VC Try.prog 19 [.sl 19 (l.map nodC), rch a] (.tup [nilv, i64 (flowE l a).1, i64 (flowE l a).2]) := by
  rcases FOK.cases l a with q | q | ⟨i, e, f, m, h1, h2, h3⟩
  · exact absurd q h
  · exact flow_a l a hl q
  · rw [flowE_at i e f h1 h2 h3]; exact flow_m l a m okl wl ha i f h1 h2 h3
end Go.Proofs.Ytdmomnaoegkpiaa

