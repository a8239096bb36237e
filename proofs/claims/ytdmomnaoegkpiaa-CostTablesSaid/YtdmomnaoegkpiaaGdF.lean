/- Between which numbers all values of a block lie, by the program. No condition. -/
import Derived.Test.YtdmomnaoegkpiaaGdN
import Derived.Test.YtdmomnaoegkpiaaGs
namespace Go.Proofs.Ytdmomnaoegkpiaa
open Go.RowKit
set_option linter.unusedSimpArgs false
set_option linter.unusedVariables false
set_option linter.unnecessarySimpa false

def Rng.In8 (a : Rng) : Prop := Go.Proofs.Ytdmomnaoegkpiaa.In8 a.lo ∧ Go.Proofs.Ytdmomnaoegkpiaa.In8 a.hi
/-- The reach of what a node makes. -/
def nodeR (n : Nod) (a b : Rng) : Rng × Int :=
  if checkE n ≠ 0 then (⟨0, 0⟩, checkE n) else if a.lo > a.hi ∨ (n.kd = 6 ∧ b.lo > b.hi) then (⟨0, 0⟩, 2)
  else if n.kd = 1 ∨ n.kd = 2 ∨ n.kd = 3 then sumE n a
  else if n.kd = 6 then (⟨joinE a.lo b.lo n, joinE a.hi b.hi n⟩, 0)
  else if n.kd = 7 then (⟨oneN a.lo n, oneN a.hi n⟩, 0)
  else if n.kd = 8 ∧ n.np > 0 then (⟨min a.lo n.za, max a.hi n.za⟩, 0) else (a, 0)
noncomputable def ends64_l_I (a : Int) (l : List Int) (k : Nat) : VS := stt 27 [(6, i64 (foldR a l k).lo), (7, i64 (foldR a l k).hi), (12, ints .i64 l), (13, i64 l.length), (14, i64 k)] []
noncomputable def ends64_l_Z (a : Int) (l : List Int) : VS := ends64_l_I a l (l.length)
set_option maxRecDepth 100000 in
set_option maxHeartbeats 2000000 in
theorem ends64_l_s (a : Int) (l : List Int) (hl : l.length ≤ 1000) (k : Nat) (hk : k < l.length) : VT Try.prog (fnC Try.f117 [1, 1, 0, 1, 0, 0]) (ends64_l_I a l k) .normal (ends64_l_I a l (k + 1)) := by
  have oz4 := (Weak.int (k := .i64) (show ((if l.getD k 0 < (foldR a l k).lo then l.getD k 0 else (foldR a l k).lo) : Int) = ((foldR a l (k + 1)).lo) from (by (simp only [foldR]; split <;> omega))))
  have oz5 := (Weak.int (k := .i64) (show ((if l.getD k 0 > (foldR a l k).hi then l.getD k 0 else (foldR a l k).hi) : Int) = ((foldR a l (k + 1)).hi) from (by (simp only [foldR]; split <;> omega))))
  exact VT.run (W := [.r [] [], .br true, .r [] [.row [i64 (l.getD k 0)]], .r [] [], .r [] [.n ((↑k : Int) + 1)]]) (G := [.any (rg [(9, 1), (15, 10)]), .weak 6 (wO oz4), .weak 7 (wO oz5), .weak 14 (i64 (↑(k + 1) : Int)), .sort]) (by kernel_rfl) (.c (decide_eq_true (p := ((↑k : Int) < (↑l.length : Int))) (by omega)) <| .c (show 0 ≤ (↑k : Int) by omega) <| .c (map_at (row1 IntKind.i64) (0) (l := l) (i := k) hk) <| .c (IntWalk.i64_in ((↑k : Int) + 1) (by omega)) <| .c oz4 <| .c oz5 <| .c (Weak.int (k := .i64) (show (((↑k : Int) + 1) : Int) = ((↑(k + 1) : Int)) from (by omega))) <| .n)
set_option maxRecDepth 100000 in
set_option maxHeartbeats 2000000 in
theorem ends64_l_e (a : Int) (l : List Int) (hl : l.length ≤ 1000) : VT Try.prog (fnC Try.f117 [1, 1, 0, 1, 0, 0]) (ends64_l_I a l (l.length)) (.exit 0) (ends64_l_Z a l) := by
  exact VT.run (W := [.r [] [], .br false]) (G := [.any [15], .sort]) (by kernel_rfl) (.c (decide_eq_false (p := ((↑l.length : Int) < (↑l.length : Int))) (by omega)) <| .n)
theorem ends64_l (a : Int) (l : List Int) (hl : l.length ≤ 1000) : VT Try.prog (fnC Try.f117 [1, 1, 0, 1, 0]) (ends64_l_I a l 0) (.exit 0) (ends64_l_Z a l) :=
  VT.loop (fun k => ends64_l_I a l k) (l.length) (fun k hk => ends64_l_s a l hl k hk) (ends64_l_e a l hl) (by intro h; cases h)

set_option maxRecDepth 100000 in
set_option maxHeartbeats 2000000 in
theorem ends64_v (a : Int) (l : List Int) (hl : l.length ≤ 1000) : VC Try.prog 117 ([i64 a, ints .i64 l]) (.tup [i64 (foldR a l l.length).lo, i64 (foldR a l l.length).hi]) := by
  have oz1 := (Weak.int (k := .i64) (show (((↑(List.map (row1 IntKind.i64) l).length : Int)) : Int) = ((↑l.length : Int)) from (by (simp; done))))
  have oz3 := @ends64_l (a) (l) hl
  exact VC.run (fn := Try.f117) (W := [.r [] [], .r [] [], .r [] [], .code [.any [0, 1, 4, 5, 10, 11], .weak 7 (i64 (foldR a l 0).hi), .weak 13 (wO oz1), .weak 14 (i64 (↑0 : Int)), .sort] (Exit.exit 0) (zO oz3), .r [] []]) Try.func117 (by kernel_rfl) (.c (Weak.int (k := .i64) (show ((a) : Int) = ((foldR a l 0).hi) from (by rfl))) <| .c oz1 <| .c (Weak.int (k := .i64) (show ((0) : Int) = ((↑0 : Int)) from (by omega))) <| .c oz3 <| .n)
theorem ends64_1 (a b : Int) : VC Try.prog 117 [i64 a, .sl 1 [[i64 b]]] (.tup [i64 (min a b), i64 (max a b)]) := ends64_v a [b] (by simp)
noncomputable def ends8_l_I (a : Int) (l : List Int) (k : Nat) : VS := stt 27 [(6, i8 (foldR a l k).lo), (7, i8 (foldR a l k).hi), (12, ints .i8 l), (13, i64 l.length), (14, i64 k)] []
noncomputable def ends8_l_Z (a : Int) (l : List Int) : VS := ends8_l_I a l (l.length)
set_option maxRecDepth 100000 in
set_option maxHeartbeats 2000000 in
theorem ends8_l_s (a : Int) (l : List Int) (hl : l.length ≤ 1000) (k : Nat) (hk : k < l.length) : VT Try.prog (fnC Try.f128 [1, 1, 0, 1, 0, 0]) (ends8_l_I a l k) .normal (ends8_l_I a l (k + 1)) := by
  have oz4 := (Weak.int (k := .i8) (show ((if l.getD k 0 < (foldR a l k).lo then l.getD k 0 else (foldR a l k).lo) : Int) = ((foldR a l (k + 1)).lo) from (by (simp only [foldR]; split <;> omega))))
  have oz5 := (Weak.int (k := .i8) (show ((if l.getD k 0 > (foldR a l k).hi then l.getD k 0 else (foldR a l k).hi) : Int) = ((foldR a l (k + 1)).hi) from (by (simp only [foldR]; split <;> omega))))
  exact VT.run (W := [.r [] [], .br true, .r [] [.row [i8 (l.getD k 0)]], .r [] [], .r [] [.n ((↑k : Int) + 1)]]) (G := [.any (rg [(9, 1), (15, 10)]), .weak 6 (wO oz4), .weak 7 (wO oz5), .weak 14 (i64 (↑(k + 1) : Int)), .sort]) (by kernel_rfl) (.c (decide_eq_true (p := ((↑k : Int) < (↑l.length : Int))) (by omega)) <| .c (show 0 ≤ (↑k : Int) by omega) <| .c (map_at (row1 IntKind.i8) (0) (l := l) (i := k) hk) <| .c (IntWalk.i64_in ((↑k : Int) + 1) (by omega)) <| .c oz4 <| .c oz5 <| .c (Weak.int (k := .i64) (show (((↑k : Int) + 1) : Int) = ((↑(k + 1) : Int)) from (by omega))) <| .n)
set_option maxRecDepth 100000 in
set_option maxHeartbeats 2000000 in
theorem ends8_l_e (a : Int) (l : List Int) (hl : l.length ≤ 1000) : VT Try.prog (fnC Try.f128 [1, 1, 0, 1, 0, 0]) (ends8_l_I a l (l.length)) (.exit 0) (ends8_l_Z a l) := by
  exact VT.run (W := [.r [] [], .br false]) (G := [.any [15], .sort]) (by kernel_rfl) (.c (decide_eq_false (p := ((↑l.length : Int) < (↑l.length : Int))) (by omega)) <| .n)
theorem ends8_l (a : Int) (l : List Int) (hl : l.length ≤ 1000) : VT Try.prog (fnC Try.f128 [1, 1, 0, 1, 0]) (ends8_l_I a l 0) (.exit 0) (ends8_l_Z a l) :=
  VT.loop (fun k => ends8_l_I a l k) (l.length) (fun k hk => ends8_l_s a l hl k hk) (ends8_l_e a l hl) (by intro h; cases h)

set_option maxRecDepth 100000 in
set_option maxHeartbeats 2000000 in
theorem ends8_v (a : Int) (l : List Int) (hl : l.length ≤ 1000) : VC Try.prog 128 ([i8 a, ints .i8 l]) (.tup [i8 (foldR a l l.length).lo, i8 (foldR a l l.length).hi]) := by
  have oz1 := (Weak.int (k := .i64) (show (((↑(List.map (row1 IntKind.i8) l).length : Int)) : Int) = ((↑l.length : Int)) from (by (simp; done))))
  have oz3 := @ends8_l (a) (l) hl
  exact VC.run (fn := Try.f128) (W := [.r [] [], .r [] [], .r [] [], .code [.any [0, 1, 4, 5, 10, 11], .weak 7 (i8 (foldR a l 0).hi), .weak 13 (wO oz1), .weak 14 (i64 (↑0 : Int)), .sort] (Exit.exit 0) (zO oz3), .r [] []]) Try.func128 (by kernel_rfl) (.c (Weak.int (k := .i8) (show ((a) : Int) = ((foldR a l 0).hi) from (by rfl))) <| .c oz1 <| .c (Weak.int (k := .i64) (show ((0) : Int) = ((↑0 : Int)) from (by omega))) <| .c oz3 <| .n)
theorem ends8_2 (a b c : Int) : VC Try.prog 128 [i8 a, .sl 1 [[i8 b], [i8 c]]] (.tup [i8 (min (min a b) c), i8 (max (max a b) c)]) := ends8_v a [b, c] (by simp)
set_option maxRecDepth 100000 in
set_option maxHeartbeats 2000000 in
theorem over_v (a b c : Int)  : VC Try.prog 66 ([i8 a, .sl 1 [[i8 b], [i8 c]]]) (rch ⟨min (min a b) c, max (max a b) c⟩) := by
  have oz0 := @ends8_2 (a) (b) (c)
  exact VC.run (fn := Try.f66) (W := [.r [] [], .r [] [.callr (rO oz0)], .r [] []]) Try.func66 (by kernel_rfl) (.c oz0 <| .n)

set_option maxRecDepth 100000 in
set_option maxHeartbeats 2000000 in
theorem gnode_v (n : Nod) (a b : Rng) (ok : n.Ok) (ha : a.In8) (hb : b.In8) (wl : n.w.length ≤ 100000) (bl : n.b.length ≤ 100000) : VC Try.prog 21 ([nod n, rch a, rch b]) (.tup [rch (nodeR n a b).1, i64 (nodeR n a b).2]) := by
  have ok_kd := ok.kd
  obtain ⟨p1, p2⟩ := id ha
  obtain ⟨p3, p4⟩ := id hb
  have oz0 := @check_v (n) wl bl ok_kd
  rcases Bool.eq_false_or_eq_true (checkE n != 0) with hc0 | hc0
  · have gc0 : ¬checkE n = 0 := bdt hc0
    exact (VC.run (fn := Try.f21) (W := [.r [] [], .r [] [.callr (rO oz0)], .r [] [], .br true, .r [] []]) (r := AV.tup [AV.agg [i8 0, i8 0], i64 (checkE n)]) Try.func21 (by kernel_rfl) (.c oz0 <| .c hc0 <| .n)).weak (WeakL.refl _) (Weak.tup (.cons (Weak.agg (.cons (Weak.int (show ((0) : Int) = ((nodeR n a b).fst.lo) from (by (unfold nodeR; (repeat first | rw [if_pos (by omega)] | rw [if_neg (by omega)]))))) (.cons (Weak.int (show ((0) : Int) = ((nodeR n a b).fst.hi) from (by (unfold nodeR; (repeat first | rw [if_pos (by omega)] | rw [if_neg (by omega)]))))) .nil))) (.cons (Weak.int (show ((checkE n) : Int) = ((nodeR n a b).snd) from (by (unfold nodeR; (repeat first | rw [if_pos (by omega)] | rw [if_neg (by omega)]))))) .nil)))
  · have gc0 : checkE n = 0 := bdf hc0
    have oz2 := @upside_v (a.lo) (a.hi)
    have oz3 := @upside_v (b.lo) (b.hi)
    rcases Bool.eq_false_or_eq_true (decide (a.lo > a.hi) || n.kd == 6 && decide (b.lo > b.hi)) with hc1 | hc1
    · have gc1 : a.lo > a.hi ∨ n.kd = 6 ∧ b.lo > b.hi := by first | (simp only [Bool.or_eq_true, Bool.or_eq_false_iff, Bool.and_eq_true, Bool.and_eq_false_iff, Bool.not_eq_true', Bool.not_eq_false', decide_eq_true_eq, decide_eq_false_iff_not, beq_iff_eq, bne_iff_ne, ne_eq, beq_eq_false_iff_ne, bne_eq_false_iff_eq, eqNums, Bool.and_true] at hc1; first | exact hc1 | omega) | simpa using hc1 | (simp at hc1 ⊢; omega)
      exact (VC.run (fn := Try.f21) (W := [.r [] [], .r [] [.callr (rO oz0)], .r [] [], .br false, .r [] [.callr (rO oz2), .op false, .op false, .op false, .op false, .op false, .op false, .callr (rO oz3), .op false, .sel 2, .sel 1], .br true, .r [] []]) (r := AV.tup [AV.agg [i8 0, i8 0], i64 2]) Try.func21 (by kernel_rfl) (.c oz0 <| .c hc0 <| .c oz2 <| .c oz3 <| .c hc1 <| .n)).weak (WeakL.refl _) (Weak.tup (.cons (Weak.agg (.cons (Weak.int (show ((0) : Int) = ((nodeR n a b).fst.lo) from (by (unfold nodeR; (repeat first | rw [if_pos (by omega)] | rw [if_neg (by omega)]))))) (.cons (Weak.int (show ((0) : Int) = ((nodeR n a b).fst.hi) from (by (unfold nodeR; (repeat first | rw [if_pos (by omega)] | rw [if_neg (by omega)]))))) .nil))) (.cons (Weak.int (show ((2) : Int) = ((nodeR n a b).snd) from (by (unfold nodeR; (repeat first | rw [if_pos (by omega)] | rw [if_neg (by omega)]))))) .nil)))
    · have gc1 : ¬a.lo > a.hi ∧ (¬n.kd = 6 ∨ ¬b.lo > b.hi) := by first | (simp only [Bool.or_eq_true, Bool.or_eq_false_iff, Bool.and_eq_true, Bool.and_eq_false_iff, Bool.not_eq_true', Bool.not_eq_false', decide_eq_true_eq, decide_eq_false_iff_not, beq_iff_eq, bne_iff_ne, ne_eq, beq_eq_false_iff_ne, bne_eq_false_iff_eq, eqNums, Bool.and_true] at hc1; first | exact hc1 | omega) | simpa using hc1 | (simp at hc1 ⊢; omega)
      have oz5 := @sumsK_v (n.kd)
      rcases Bool.eq_false_or_eq_true (n.kd == 1 || n.kd == 2 || n.kd == 3) with hc2 | hc2
      · have gc2 : (n.kd = 1 ∨ n.kd = 2) ∨ n.kd = 3 := by first | (simp only [Bool.or_eq_true, Bool.or_eq_false_iff, Bool.and_eq_true, Bool.and_eq_false_iff, Bool.not_eq_true', Bool.not_eq_false', decide_eq_true_eq, decide_eq_false_iff_not, beq_iff_eq, bne_iff_ne, ne_eq, beq_eq_false_iff_ne, bne_eq_false_iff_eq, eqNums, Bool.and_true] at hc2; first | exact hc2 | omega) | simpa using hc2 | (simp at hc2 ⊢; omega)
        have oz7 := @summed_v (n) (a) ok p1 p2 wl bl
        exact (VC.run (fn := Try.f21) (W := [.r [] [], .r [] [.callr (rO oz0)], .r [] [], .br false, .r [] [.callr (rO oz2), .op false, .op false, .op false, .op false, .op false, .op false, .callr (rO oz3), .op false, .sel 2, .sel 1], .br false, .r [] [.callr (rO oz5)], .br true, .r [] [.callr (rO oz7)]]) (r := AV.tup [AV.agg [i8 (sumE n a).fst.lo, i8 (sumE n a).fst.hi], i64 (sumE n a).snd]) Try.func21 (by kernel_rfl) (.c oz0 <| .c hc0 <| .c oz2 <| .c oz3 <| .c hc1 <| .c oz5 <| .c hc2 <| .c oz7 <| .n)).weak (WeakL.refl _) (Weak.tup (.cons (Weak.agg (.cons (Weak.int (show (((sumE n a).fst.lo) : Int) = ((nodeR n a b).fst.lo) from (by (unfold nodeR; (repeat first | rw [if_pos (by omega)] | rw [if_neg (by omega)]))))) (.cons (Weak.int (show (((sumE n a).fst.hi) : Int) = ((nodeR n a b).fst.hi) from (by (unfold nodeR; (repeat first | rw [if_pos (by omega)] | rw [if_neg (by omega)]))))) .nil))) (.cons (Weak.int (show (((sumE n a).snd) : Int) = ((nodeR n a b).snd) from (by (unfold nodeR; (repeat first | rw [if_pos (by omega)] | rw [if_neg (by omega)]))))) .nil)))
      · have gc2 : (¬n.kd = 1 ∧ ¬n.kd = 2) ∧ ¬n.kd = 3 := by first | (simp only [Bool.or_eq_true, Bool.or_eq_false_iff, Bool.and_eq_true, Bool.and_eq_false_iff, Bool.not_eq_true', Bool.not_eq_false', decide_eq_true_eq, decide_eq_false_iff_not, beq_iff_eq, bne_iff_ne, ne_eq, beq_eq_false_iff_ne, bne_eq_false_iff_eq, eqNums, Bool.and_true] at hc2; first | exact hc2 | omega) | simpa using hc2 | (simp at hc2 ⊢; omega)
        rcases Bool.eq_false_or_eq_true (n.kd == 6) with hc3 | hc3
        · have gc3 : n.kd = 6 := bet hc3
          have oz8 := @joinOne_v (a.lo) (b.lo) (n) ok p1 p3
          have oz9 := @joinOne_v (a.hi) (b.hi) (n) ok p2 p4
          exact (VC.run (fn := Try.f21) (W := [.r [] [], .r [] [.callr (rO oz0)], .r [] [], .br false, .r [] [.callr (rO oz2), .op false, .op false, .op false, .op false, .op false, .op false, .callr (rO oz3), .op false, .sel 2, .sel 1], .br false, .r [] [.callr (rO oz5)], .br false, .r [] [], .br true, .r [] [.callr (rO oz8), .callr (rO oz9)]]) (r := AV.tup [AV.agg [i8 (joinE a.lo b.lo n), i8 (joinE a.hi b.hi n)], i64 0]) Try.func21 (by kernel_rfl) (.c oz0 <| .c hc0 <| .c oz2 <| .c oz3 <| .c hc1 <| .c oz5 <| .c hc2 <| .c hc3 <| .c oz8 <| .c oz9 <| .n)).weak (WeakL.refl _) (Weak.tup (.cons (Weak.agg (.cons (Weak.int (show ((joinE a.lo b.lo n) : Int) = ((nodeR n a b).fst.lo) from (by (unfold nodeR; (repeat first | rw [if_pos (by omega)] | rw [if_neg (by omega)]))))) (.cons (Weak.int (show ((joinE a.hi b.hi n) : Int) = ((nodeR n a b).fst.hi) from (by (unfold nodeR; (repeat first | rw [if_pos (by omega)] | rw [if_neg (by omega)]))))) .nil))) (.cons (Weak.int (show ((0) : Int) = ((nodeR n a b).snd) from (by (unfold nodeR; (repeat first | rw [if_pos (by omega)] | rw [if_neg (by omega)]))))) .nil)))
        · have gc3 : ¬n.kd = 6 := bef hc3
          rcases Bool.eq_false_or_eq_true (n.kd == 7) with hc4 | hc4
          · have gc4 : n.kd = 7 := bet hc4
            have oz9 := @actOne_w (a.lo) (n) ok p1
            have oz10 := @actOne_w (a.hi) (n) ok p2
            exact (VC.run (fn := Try.f21) (W := [.r [] [], .r [] [.callr (rO oz0)], .r [] [], .br false, .r [] [.callr (rO oz2), .op false, .op false, .op false, .op false, .op false, .op false, .callr (rO oz3), .op false, .sel 2, .sel 1], .br false, .r [] [.callr (rO oz5)], .br false, .r [] [], .br false, .r [] [], .br true, .r [] [.callr (rO oz9), .callr (rO oz10)]]) (r := AV.tup [AV.agg [i8 (oneN a.lo n), i8 (oneN a.hi n)], i64 0]) Try.func21 (by kernel_rfl) (.c oz0 <| .c hc0 <| .c oz2 <| .c oz3 <| .c hc1 <| .c oz5 <| .c hc2 <| .c hc3 <| .c hc4 <| .c oz9 <| .c oz10 <| .n)).weak (WeakL.refl _) (Weak.tup (.cons (Weak.agg (.cons (Weak.int (show ((oneN a.lo n) : Int) = ((nodeR n a b).fst.lo) from (by (unfold nodeR; (repeat first | rw [if_pos (by omega)] | rw [if_neg (by omega)]))))) (.cons (Weak.int (show ((oneN a.hi n) : Int) = ((nodeR n a b).fst.hi) from (by (unfold nodeR; (repeat first | rw [if_pos (by omega)] | rw [if_neg (by omega)]))))) .nil))) (.cons (Weak.int (show ((0) : Int) = ((nodeR n a b).snd) from (by (unfold nodeR; (repeat first | rw [if_pos (by omega)] | rw [if_neg (by omega)]))))) .nil)))
          · have gc4 : ¬n.kd = 7 := bef hc4
            rcases Bool.eq_false_or_eq_true (n.kd == 8 && decide (n.np > 0)) with hc5 | hc5
            · have gc5 : n.kd = 8 ∧ n.np > 0 := by first | (simp only [Bool.or_eq_true, Bool.or_eq_false_iff, Bool.and_eq_true, Bool.and_eq_false_iff, Bool.not_eq_true', Bool.not_eq_false', decide_eq_true_eq, decide_eq_false_iff_not, beq_iff_eq, bne_iff_ne, ne_eq, beq_eq_false_iff_ne, bne_eq_false_iff_eq, eqNums, Bool.and_true] at hc5; first | exact hc5 | omega) | simpa using hc5 | (simp at hc5 ⊢; omega)
              have oz10 := @over_v (n.za) (a.lo) (a.hi)
              exact (VC.run (fn := Try.f21) (W := [.r [] [], .r [] [.callr (rO oz0)], .r [] [], .br false, .r [] [.callr (rO oz2), .op false, .op false, .op false, .op false, .op false, .op false, .callr (rO oz3), .op false, .sel 2, .sel 1], .br false, .r [] [.callr (rO oz5)], .br false, .r [] [], .br false, .r [] [], .br false, .r [] [.op false, .op false, .op false, .sel 2], .br true, .r [] [.callr (rO oz10)]]) (r := AV.tup [AV.agg [i8 (Rng.mk (min (min n.za a.lo) a.hi) (max (max n.za a.lo) a.hi)).lo, i8 (Rng.mk (min (min n.za a.lo) a.hi) (max (max n.za a.lo) a.hi)).hi], i64 0]) Try.func21 (by kernel_rfl) (.c oz0 <| .c hc0 <| .c oz2 <| .c oz3 <| .c hc1 <| .c oz5 <| .c hc2 <| .c hc3 <| .c hc4 <| .c hc5 <| .c oz10 <| .n)).weak (WeakL.refl _) (Weak.tup (.cons (Weak.agg (.cons (Weak.int (show (((Rng.mk (min (min n.za a.lo) a.hi) (max (max n.za a.lo) a.hi)).lo) : Int) = ((nodeR n a b).fst.lo) from (by (unfold nodeR; (repeat first | rw [if_pos (by omega)] | rw [if_neg (by omega)]); dsimp only; omega)))) (.cons (Weak.int (show (((Rng.mk (min (min n.za a.lo) a.hi) (max (max n.za a.lo) a.hi)).hi) : Int) = ((nodeR n a b).fst.hi) from (by (unfold nodeR; (repeat first | rw [if_pos (by omega)] | rw [if_neg (by omega)]); dsimp only; omega)))) .nil))) (.cons (Weak.int (show ((0) : Int) = ((nodeR n a b).snd) from (by (unfold nodeR; (repeat first | rw [if_pos (by omega)] | rw [if_neg (by omega)]))))) .nil)))
            · have gc5 : ¬n.kd = 8 ∨ ¬n.np > 0 := by first | (simp only [Bool.or_eq_true, Bool.or_eq_false_iff, Bool.and_eq_true, Bool.and_eq_false_iff, Bool.not_eq_true', Bool.not_eq_false', decide_eq_true_eq, decide_eq_false_iff_not, beq_iff_eq, bne_iff_ne, ne_eq, beq_eq_false_iff_ne, bne_eq_false_iff_eq, eqNums, Bool.and_true] at hc5; first | exact hc5 | omega) | simpa using hc5 | (simp at hc5 ⊢; omega)
              exact (VC.run (fn := Try.f21) (W := [.r [] [], .r [] [.callr (rO oz0)], .r [] [], .br false, .r [] [.callr (rO oz2), .op false, .op false, .op false, .op false, .op false, .op false, .callr (rO oz3), .op false, .sel 2, .sel 1], .br false, .r [] [.callr (rO oz5)], .br false, .r [] [], .br false, .r [] [], .br false, .r [] [.op false, .op false, .op false, .sel 2], .br false, .r [] []]) (r := AV.tup [AV.agg [i8 a.lo, i8 a.hi], i64 0]) Try.func21 (by kernel_rfl) (.c oz0 <| .c hc0 <| .c oz2 <| .c oz3 <| .c hc1 <| .c oz5 <| .c hc2 <| .c hc3 <| .c hc4 <| .c hc5 <| .n)).weak (WeakL.refl _) (Weak.tup (.cons (Weak.agg (.cons (Weak.int (show ((a.lo) : Int) = ((nodeR n a b).fst.lo) from (by (unfold nodeR; (repeat first | rw [if_pos (by omega)] | rw [if_neg (by omega)]))))) (.cons (Weak.int (show ((a.hi) : Int) = ((nodeR n a b).fst.hi) from (by (unfold nodeR; (repeat first | rw [if_pos (by omega)] | rw [if_neg (by omega)]))))) .nil))) (.cons (Weak.int (show ((0) : Int) = ((nodeR n a b).snd) from (by (unfold nodeR; (repeat first | rw [if_pos (by omega)] | rw [if_neg (by omega)]))))) .nil)))
end Go.Proofs.Ytdmomnaoegkpiaa

