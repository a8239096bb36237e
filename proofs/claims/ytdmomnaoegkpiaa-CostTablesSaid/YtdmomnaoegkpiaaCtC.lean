/- The ends of a table of costs; the law. No condition. -/
import Derived.Test.YtdmomnaoegkpiaaCtB
namespace Go.Proofs.Ytdmomnaoegkpiaa
open Go.RowKit
set_option linter.unusedSimpArgs false
set_option linter.unusedVariables false
set_option linter.unnecessarySimpa false

/-- The least, the greatest, all together, and how many there were. -/
structure EndS where
  lo : Int
  hi : Int
  al : Int
  c : Nat
def stepN (s : EndS) (v : Int) : EndS := ⟨if s.c = 0 then v else min s.lo v, if s.c = 0 then v else max s.hi v, s.al + v, s.c + 1⟩
def endK (s : EndS) (l : List Int) : Nat → EndS
  | 0 => s
  | k + 1 => stepN (endK s l k) (l.getD k 0)
def endT (T : List (List Int)) : Nat → EndS
  | 0 => ⟨0, 0, 0, 0⟩
  | k + 1 => endK (endT T k) (T.getD k default) (T.getD k default).length
theorem endK_bd {s : EndS} {l : List Int} (h : ∀ v ∈ l, In32 v) : ∀ k, s.al - 2147483648 * k ≤ (endK s l k).al ∧ (endK s l k).al ≤ s.al + 2147483648 * k
  | 0 => by simp [endK]
  | k + 1 => by
    have ih := endK_bd (s := s) h k
    have q := gt32 h k
    simp only [endK, stepN]
    omega
theorem endT_bd {T : List (List Int)} (h : ∀ l ∈ T, l.length ≤ 50 ∧ ∀ v ∈ l, In32 v) : ∀ k, k ≤ T.length → -(107374182400 * (k : Int)) ≤ (endT T k).al ∧ (endT T k).al ≤ 107374182400 * k
  | 0, _ => by simp [endT]
  | k + 1, hk => by
    have ih := endT_bd h k (by omega)
    have q := getD_in h (show k < T.length by omega)
    have q2 := endK_bd (s := endT T k) q.2 (T.getD k default).length
    rw [endT]
    omega
noncomputable def ends_i_I (T : List (List Int)) (i : Nat) (s : EndS) (l : List Int) (k : Nat) : VS := stt 47 [(4, i64 (endK s l k).al), (5, .ptr 5 0 0), (6, bv (decide ((endK s l k).c = 0))), (12, .sl 1 (T.map intsC)), (13, i64 T.length), (14, i64 i), (18, ints .i64 l), (19, i64 l.length), (20, i64 k)] [(5, .slc 145 1 [[i64 (endK s l k).lo], [i64 (endK s l k).hi]])]
noncomputable def ends_i_Z (T : List (List Int)) (i : Nat) (s : EndS) (l : List Int) : VS := ends_i_I T i s l (l.length)
set_option maxRecDepth 100000 in
set_option maxHeartbeats 2000000 in
theorem ends_i_s (T : List (List Int)) (i : Nat) (s : EndS) (l : List Int) (hl : l.length ≤ 50) (h : ∀ v ∈ l, In32 v) (hs : -10000000000000 ≤ s.al ∧ s.al ≤ 10000000000000) (k : Nat) (hk : k < l.length) : VT Try.prog (fnC Try.f36 [1, 1, 1, 0, 1, 0, 0, 1, 1, 0, 0, 1, 1, 0, 0]) (ends_i_I T i s l k) .normal (ends_i_I T i s l (k + 1)) := by
  have q1 := gt32 h k
  have q2 := endK_bd (s := s) h k
  have oz0 := (decide_eq_true (p := ((↑k : Int) < (↑l.length : Int))) (by omega))
  have oz1 := (show 0 ≤ (↑k : Int) by omega)
  have oz2 := (map_at (row1 IntKind.i64) (0) (l := l) (i := k) hk)
  rcases Bool.eq_false_or_eq_true (decide ((endK s l k).c = 0)) with hc0 | hc0
  · have gc0 := of_decide_eq_true hc0
    exact VT.run (W := [.r [] [], .br true, .r [] [.row (sO oz2)], .r [] [], .br true, .r [] [], .r [] [.row (sO oz2), .row (sO oz2)], .r [] [.n ((endK s l k).al + l.getD k 0)], .r [] [.n ((↑k : Int) + 1)]]) (G := [.any (rg [(10, 1), (21, 20)]), .weak 4 (i64 (endK s l (k + 1)).al), .weak 6 (bv (decide ((endK s l (k + 1)).c = 0))), .weak 20 (i64 (↑(k + 1) : Int)), .blk 5 (Blk.slc 145 1 [[i64 (endK s l (k + 1)).lo], [i64 (endK s l (k + 1)).hi]]), .sort]) (by kernel_rfl) (.c oz0 <| .c oz1 <| .c oz2 <| .c hc0 <| .c (show (0 : Int) ≤ (0 : Int) by omega) <| .c (show (0 : Int) < (↑(2 : Nat) : Int) by omega) <| .c (show [[i64 (l.getD k 0)], [i64 (l.getD k 0)]][0]? = some [i64 (l.getD k 0)] from rfl) <| .c (show (0 : Int) ≤ (1 : Int) by omega) <| .c (show (1 : Int) < (↑(2 : Nat) : Int) by omega) <| .c (show [[i64 (l.getD k 0)], [i64 (l.getD k 0)]][1]? = some [i64 (l.getD k 0)] from rfl) <| .c (IntWalk.i64_in ((endK s l k).al + l.getD k 0) (by omega)) <| .c (IntWalk.i64_in ((↑k : Int) + 1) (by omega)) <| .c (Weak.int (k := .i64) (show (((endK s l k).al + l.getD k 0) : Int) = ((endK s l (k + 1)).al) from (by rfl))) <| .c (show Weak (bv false) (bv (decide ((endK s l (k + 1)).c = 0))) from (Weak.bool (show ((false) : Bool) = (decide ((endK s l (k + 1)).c = 0)) from (by rfl)))) <| .c (Weak.int (k := .i64) (show (((↑k : Int) + 1) : Int) = ((↑(k + 1) : Int)) from (by omega))) <| .c (show BlkW (Blk.slc 145 1 [[i64 (if l.getD k 0 < l.getD k 0 then l.getD k 0 else l.getD k 0)], [i64 (if l.getD k 0 > l.getD k 0 then l.getD k 0 else l.getD k 0)]]) (Blk.slc 145 1 [[i64 (endK s l (k + 1)).lo], [i64 (endK s l (k + 1)).hi]]) from (BlkW.rows (show ([[i64 (if l.getD k 0 < l.getD k 0 then l.getD k 0 else l.getD k 0)], [i64 (if l.getD k 0 > l.getD k 0 then l.getD k 0 else l.getD k 0)]]) = ([[i64 (endK s l (k + 1)).lo], [i64 (endK s l (k + 1)).hi]]) from (by (rw [endK, stepN]; simp only [if_pos (show (endK s l k).c = 0 by assumption), ite_self]; done))))) <| .n)
  · have gc0 := of_decide_eq_false hc0
    exact VT.run (W := [.r [] [], .br true, .r [] [.row (sO oz2)], .r [] [], .br false, .r [] [.row [i64 (endK s l k).lo], .row [i64 (endK s l k).hi]], .r [] [.n ((endK s l k).al + l.getD k 0)], .r [] [.n ((↑k : Int) + 1)]]) (G := [.any (rg [(10, 1), (21, 4), (28, 13)]), .weak 4 (i64 (endK s l (k + 1)).al), .weak 6 (bv (decide ((endK s l (k + 1)).c = 0))), .weak 20 (i64 (↑(k + 1) : Int)), .blk 5 (Blk.slc 145 1 [[i64 (endK s l (k + 1)).lo], [i64 (endK s l (k + 1)).hi]]), .sort]) (by kernel_rfl) (.c oz0 <| .c oz1 <| .c oz2 <| .c hc0 <| .c (show (0 : Int) ≤ (0 : Int) by omega) <| .c (show (0 : Int) < (↑(2 : Nat) : Int) by omega) <| .c (show [[i64 (endK s l k).lo], [i64 (endK s l k).hi]][0]? = some [i64 (endK s l k).lo] from rfl) <| .c (show (0 : Int) ≤ (1 : Int) by omega) <| .c (show (1 : Int) < (↑(2 : Nat) : Int) by omega) <| .c (show [[i64 (endK s l k).lo], [i64 (endK s l k).hi]][1]? = some [i64 (endK s l k).hi] from rfl) <| .c (IntWalk.i64_in ((endK s l k).al + l.getD k 0) (by omega)) <| .c (IntWalk.i64_in ((↑k : Int) + 1) (by omega)) <| .c (Weak.int (k := .i64) (show (((endK s l k).al + l.getD k 0) : Int) = ((endK s l (k + 1)).al) from (by rfl))) <| .c (show Weak (bv (decide ((endK s l k).c = 0))) (bv (decide ((endK s l (k + 1)).c = 0))) from (Weak.bool (show ((decide ((endK s l k).c = 0)) : Bool) = (decide ((endK s l (k + 1)).c = 0)) from (by (refine decide_eq_false ?_; omega))))) <| .c (Weak.int (k := .i64) (show (((↑k : Int) + 1) : Int) = ((↑(k + 1) : Int)) from (by omega))) <| .c (show BlkW (Blk.slc 145 1 [[i64 (if l.getD k 0 < (endK s l k).lo then l.getD k 0 else (endK s l k).lo)], [i64 (if l.getD k 0 > (endK s l k).hi then l.getD k 0 else (endK s l k).hi)]]) (Blk.slc 145 1 [[i64 (endK s l (k + 1)).lo], [i64 (endK s l (k + 1)).hi]]) from (BlkW.rows (show ([[i64 (if l.getD k 0 < (endK s l k).lo then l.getD k 0 else (endK s l k).lo)], [i64 (if l.getD k 0 > (endK s l k).hi then l.getD k 0 else (endK s l k).hi)]]) = ([[i64 (endK s l (k + 1)).lo], [i64 (endK s l (k + 1)).hi]]) from (by (rw [endK, stepN]; simp only [if_neg (show ¬ (endK s l k).c = 0 by assumption)]; rw [min_if, max_if]))))) <| .n)
set_option maxRecDepth 100000 in
set_option maxHeartbeats 2000000 in
theorem ends_i_e (T : List (List Int)) (i : Nat) (s : EndS) (l : List Int) (hl : l.length ≤ 50) (h : ∀ v ∈ l, In32 v) (hs : -10000000000000 ≤ s.al ∧ s.al ≤ 10000000000000) : VT Try.prog (fnC Try.f36 [1, 1, 1, 0, 1, 0, 0, 1, 1, 0, 0, 1, 1, 0, 0]) (ends_i_I T i s l (l.length)) (.exit 2) (ends_i_Z T i s l) := by
  exact VT.run (W := [.r [] [], .br false]) (G := [.any [21], .sort]) (by kernel_rfl) (.c (decide_eq_false (p := ((↑l.length : Int) < (↑l.length : Int))) (by omega)) <| .n)
theorem ends_i (T : List (List Int)) (i : Nat) (s : EndS) (l : List Int) (hl : l.length ≤ 50) (h : ∀ v ∈ l, In32 v) (hs : -10000000000000 ≤ s.al ∧ s.al ≤ 10000000000000) : VT Try.prog (fnC Try.f36 [1, 1, 1, 0, 1, 0, 0, 1, 1, 0, 0, 1, 1, 0]) (ends_i_I T i s l 0) (.exit 2) (ends_i_Z T i s l) :=
  VT.loop (fun k => ends_i_I T i s l k) (l.length) (fun k hk => ends_i_s T i s l hl h hs k hk) (ends_i_e T i s l hl h hs) (by intro h; cases h)

noncomputable def ends_o_I (T : List (List Int)) (k : Nat) : VS := stt 47 [(4, i64 (endT T k).al), (5, .ptr 5 0 0), (6, bv (decide ((endT T k).c = 0))), (12, .sl 1 (T.map intsC)), (13, i64 T.length), (14, i64 k)] [(5, .slc 145 1 [[i64 (endT T k).lo], [i64 (endT T k).hi]])]
noncomputable def ends_o_Z (T : List (List Int)) : VS := ends_o_I T (T.length)
set_option maxRecDepth 100000 in
set_option maxHeartbeats 2000000 in
theorem ends_o_s (T : List (List Int)) (hl : T.length ≤ 20) (h : ∀ l ∈ T, l.length ≤ 50 ∧ ∀ v ∈ l, In32 v) (k : Nat) (hk : k < T.length) : VT Try.prog (fnC Try.f36 [1, 1, 1, 0, 1, 0, 0]) (ends_o_I T k) .normal (ends_o_I T (k + 1)) := by
  obtain ⟨q1, q2⟩ := getD_in h hk
  have q3 := endT_bd h k (by omega)
  have oz2 := (map_at (intsC) (default) (l := T) (i := k) hk)
  have oz4 := (Weak.int (k := .i64) (show (((↑(List.map (row1 IntKind.i64) (T.getD k default)).length : Int)) : Int) = ((↑(T.getD k default).length : Int)) from (by (simp; done))))
  have oz7 := @ends_i (T) (k) (endT T k) (T.getD k default) q1 q2 (by omega)
  have oz9 := (Weak.int (k := .i64) (show (((endK (endT T k) (T.getD k default) (T.getD k default).length).al) : Int) = ((endT T (k + 1)).al) from (by rfl)))
  exact VT.run (W := [.r [] [], .br true, .r [] [.row (sO oz2)], .r [] [], .code [.any [8, 15, 16, 17], .weak 6 (bv (decide ((endK (endT T k) (T.getD k default) 0).c = 0))), .weak 19 (wO oz4), .weak 20 (i64 (↑0 : Int)), .blk 5 (Blk.slc 145 1 [[i64 (endK (endT T k) (T.getD k default) 0).lo], [i64 (endK (endT T k) (T.getD k default) 0).hi]]), .sort] (Exit.exit 2) (zO oz7), .r [] [.n ((↑k : Int) + 1)]]) (G := [.any [18, 19, 20, 41], .weak 4 (wO oz9), .weak 6 (bv (decide ((endT T (k + 1)).c = 0))), .weak 14 (i64 (↑(k + 1) : Int)), .blk 5 (Blk.slc 145 1 [[i64 (endT T (k + 1)).lo], [i64 (endT T (k + 1)).hi]]), .sort]) (by kernel_rfl) (.c (decide_eq_true (p := ((↑k : Int) < (↑T.length : Int))) (by omega)) <| .c (show 0 ≤ (↑k : Int) by omega) <| .c oz2 <| .c (show Weak (bv (decide ((endT T k).c = 0))) (bv (decide ((endK (endT T k) (T.getD k default) 0).c = 0))) from (Weak.bool (show ((decide ((endT T k).c = 0)) : Bool) = (decide ((endK (endT T k) (T.getD k default) 0).c = 0)) from (by rfl)))) <| .c oz4 <| .c (Weak.int (k := .i64) (show ((0) : Int) = ((↑0 : Int)) from (by omega))) <| .c (show BlkW (Blk.slc 145 1 [[i64 (endT T k).lo], [i64 (endT T k).hi]]) (Blk.slc 145 1 [[i64 (endK (endT T k) (T.getD k default) 0).lo], [i64 (endK (endT T k) (T.getD k default) 0).hi]]) from (BlkW.rows (show ([[i64 (endT T k).lo], [i64 (endT T k).hi]]) = ([[i64 (endK (EndS.mk (endT T k).lo (endT T k).hi (endT T k).al (endT T k).c) (T.getD k default) 0).lo], [i64 (endK (EndS.mk (endT T k).lo (endT T k).hi (endT T k).al (endT T k).c) (T.getD k default) 0).hi]]) from (by rfl)))) <| .c oz7 <| .c (IntWalk.i64_in ((↑k : Int) + 1) (by omega)) <| .c oz9 <| .c (show Weak (bv (decide ((endK (endT T k) (T.getD k default) (T.getD k default).length).c = 0))) (bv (decide ((endT T (k + 1)).c = 0))) from (Weak.bool (show ((decide ((endK (endT T k) (T.getD k default) (T.getD k default).length).c = 0)) : Bool) = (decide ((endT T (k + 1)).c = 0)) from (by rfl)))) <| .c (Weak.int (k := .i64) (show (((↑k : Int) + 1) : Int) = ((↑(k + 1) : Int)) from (by omega))) <| .c (show BlkW (Blk.slc 145 1 [[i64 (endK (endT T k) (T.getD k default) (T.getD k default).length).lo], [i64 (endK (endT T k) (T.getD k default) (T.getD k default).length).hi]]) (Blk.slc 145 1 [[i64 (endT T (k + 1)).lo], [i64 (endT T (k + 1)).hi]]) from (BlkW.rows (show ([[i64 (endK (endT T k) (T.getD k default) (T.getD k default).length).lo], [i64 (endK (endT T k) (T.getD k default) (T.getD k default).length).hi]]) = ([[i64 (endT T (k + 1)).lo], [i64 (endT T (k + 1)).hi]]) from (by rfl)))) <| .n)
set_option maxRecDepth 100000 in
set_option maxHeartbeats 2000000 in
theorem ends_o_e (T : List (List Int)) (hl : T.length ≤ 20) (h : ∀ l ∈ T, l.length ≤ 50 ∧ ∀ v ∈ l, In32 v) : VT Try.prog (fnC Try.f36 [1, 1, 1, 0, 1, 0, 0]) (ends_o_I T (T.length)) (.exit 0) (ends_o_Z T) := by
  exact VT.run (W := [.r [] [], .br false]) (G := [.any [15], .sort]) (by kernel_rfl) (.c (decide_eq_false (p := ((↑T.length : Int) < (↑T.length : Int))) (by omega)) <| .n)
theorem ends_o (T : List (List Int)) (hl : T.length ≤ 20) (h : ∀ l ∈ T, l.length ≤ 50 ∧ ∀ v ∈ l, In32 v) : VT Try.prog (fnC Try.f36 [1, 1, 1, 0, 1, 0]) (ends_o_I T 0) (.exit 0) (ends_o_Z T) :=
  VT.loop (fun k => ends_o_I T k) (T.length) (fun k hk => ends_o_s T hl h k hk) (ends_o_e T hl h) (by intro h; cases h)

set_option maxRecDepth 100000 in
set_option maxHeartbeats 2000000 in
theorem ends_v (T : List (List Int)) (hl : T.length ≤ 20) (h : ∀ l ∈ T, l.length ≤ 50 ∧ ∀ v ∈ l, In32 v) : VC Try.prog 36 ([.sl 1 (T.map intsC)]) (.tup [i64 (endT T T.length).lo, i64 (endT T T.length).hi, i64 (endT T T.length).al]) := by
  have oz5 := @ends_o (T) hl h
  have oz8 := (show [[i64 (endT T T.length).lo], [i64 (endT T T.length).hi]][0]? = some [i64 (endT T T.length).lo] from rfl)
  have oz11 := (show [[i64 (endT T T.length).lo], [i64 (endT T T.length).hi]][1]? = some [i64 (endT T T.length).hi] from rfl)
  exact VC.run (fn := Try.f36) (W := [.r [] [], .r [] [], .r [] [], .r [] [], .code [.any [0, 2, 3, 11], .weak 4 (i64 (endT T 0).al), .weak 6 (bv (decide ((endT T 0).c = 0))), .weak 13 (i64 (↑T.length : Int)), .weak 14 (i64 (↑0 : Int)), .blk 5 (Blk.slc 145 1 [[i64 (endT T 0).lo], [i64 (endT T 0).hi]]), .sort] (Exit.exit 0) (zO oz5), .r [] [.row (sO oz8), .row (sO oz11)]]) Try.func36 (by kernel_rfl) (.c (Weak.int (k := .i64) (show ((0) : Int) = ((endT T 0).al) from (by rfl))) <| .c (show Weak (bv true) (bv (decide ((endT T 0).c = 0))) from (Weak.bool (show ((true) : Bool) = (decide ((endT T 0).c = 0)) from (by rfl)))) <| .c (Weak.int (k := .i64) (show (((↑(List.map intsC T).length : Int)) : Int) = ((↑T.length : Int)) from (by (simp; done)))) <| .c (Weak.int (k := .i64) (show ((0) : Int) = ((↑0 : Int)) from (by omega))) <| .c (show BlkW (Blk.slc 145 1 [[i64 0], [i64 0]]) (Blk.slc 145 1 [[i64 (endT T 0).lo], [i64 (endT T 0).hi]]) from (BlkW.rows (show ([[i64 0], [i64 0]]) = ([[i64 (endT T 0).lo], [i64 (endT T 0).hi]]) from (by rfl)))) <| .c oz5 <| .c (show (0 : Int) ≤ (0 : Int) by omega) <| .c (show (0 : Int) < (↑(2 : Nat) : Int) by omega) <| .c oz8 <| .c (show (0 : Int) ≤ (1 : Int) by omega) <| .c (show (1 : Int) < (↑(2 : Nat) : Int) by omega) <| .c oz11 <| .n)
/-- What the law reads of the table. -/
def cutT (T : List (List Int)) : List (List Int) := T.map (List.take 50)
noncomputable def same22_ly_I (l : List Int) (k : Nat) : VS := stt 26 [(0, ints .i64 l), (1, ints .i64 l), (5, i64 k)] []
noncomputable def same22_ly_Z (l : List Int) : VS := same22_ly_I l (l.length)
set_option maxRecDepth 100000 in
set_option maxHeartbeats 2000000 in
theorem same22_ly_s (l : List Int) (hl : l.length ≤ 1000) (k : Nat) (hk : k < l.length) : VT Try.prog (fnC Try.f35 [1, 1, 0, 1, 0, 0]) (same22_ly_I l k) .normal (same22_ly_I l (k + 1)) := by
  have oz1 := (show 0 ≤ (↑k : Int) by omega)
  have oz2 := (map_at (row1 IntKind.i64) (0) (l := l) (i := k) hk)
  exact VT.run (W := [.r [] [], .br true, .r [] [.row (sO oz2), .row (sO oz2)], .br false, .r [] [.n ((↑k : Int) + 1)]]) (G := [.any (rg [(11, 15)]), .weak 5 (i64 (↑(k + 1) : Int)), .sort]) (by kernel_rfl) (.c (show decide ((↑k : Int) < (↑(List.map (row1 IntKind.i64) l).length : Int)) = true by (simp; omega)) <| .c oz1 <| .c oz2 <| .c oz1 <| .c oz2 <| .c (show (l.getD k 0 != l.getD k 0) = false by (simp; done)) <| .c (IntWalk.i64_in ((↑k : Int) + 1) (by omega)) <| .c (Weak.int (k := .i64) (show (((↑k : Int) + 1) : Int) = ((↑(k + 1) : Int)) from (by omega))) <| .n)
set_option maxRecDepth 100000 in
set_option maxHeartbeats 2000000 in
theorem same22_ly_e (l : List Int) (hl : l.length ≤ 1000) : VT Try.prog (fnC Try.f35 [1, 1, 0, 1, 0, 0]) (same22_ly_I l (l.length)) (.exit 0) (same22_ly_Z l) := by
  exact VT.run (W := [.r [] [], .br false]) (G := [.any (rg [(11, 4)]), .sort]) (by kernel_rfl) (.c (show decide ((↑l.length : Int) < (↑(List.map (row1 IntKind.i64) l).length : Int)) = false by (simp; done)) <| .n)
theorem same22_ly (l : List Int) (hl : l.length ≤ 1000) : VT Try.prog (fnC Try.f35 [1, 1, 0, 1, 0]) (same22_ly_I l 0) (.exit 0) (same22_ly_Z l) :=
  VT.loop (fun k => same22_ly_I l k) (l.length) (fun k hk => same22_ly_s l hl k hk) (same22_ly_e l hl) (by intro h; cases h)

set_option maxRecDepth 100000 in
set_option maxHeartbeats 2000000 in
theorem same22_v (l : List Int) (hl : l.length ≤ 1000) : VC Try.prog 35 ([ints .i64 l, ints .i64 l]) (bv true) := by
  have oz2 := @same22_ly (l) hl
  exact VC.run (fn := Try.f35) (W := [.r [] [], .r [] [], .br false, .r [] [], .code [.any [4, 6, 7, 8, 9, 10], .weak 5 (i64 (↑0 : Int)), .sort] (Exit.exit 0) (zO oz2), .r [] []]) Try.func35 (by kernel_rfl) (.c (show ((↑(List.map (row1 IntKind.i64) l).length : Int) != (↑(List.map (row1 IntKind.i64) l).length : Int)) = false by (simp; done)) <| .c (Weak.int (k := .i64) (show ((0) : Int) = ((↑0 : Int)) from (by omega))) <| .c oz2 <| .n)
end Go.Proofs.Ytdmomnaoegkpiaa

