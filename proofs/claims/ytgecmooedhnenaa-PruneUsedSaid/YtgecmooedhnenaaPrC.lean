/- Which nodes of a block are used, by the program: numbers the other way round; what is wanted. No condition. -/
import Derived.Test.YtgecmooedhnenaaPrB
namespace Go.Proofs.Ytgecmooedhnenaa
open Go.RowKit
set_option linter.unusedSimpArgs false
set_option linter.unusedVariables false
set_option linter.unnecessarySimpa false

/-- The first and the last k numbers exchanged. -/
def revS (L : List Int) : Nat → List Int
  | 0 => L
  | k + 1 => ((revS L k).set k ((revS L k).getD (L.length - 1 - k) 0)).set (L.length - 1 - k) ((revS L k).getD k 0)
theorem revS_len (L : List Int) : ∀ k, (revS L k).length = L.length
  | 0 => rfl
  | k + 1 => by rw [revS, List.length_set, List.length_set, revS_len L k]
theorem getD_set (L : List Int) (i j : Nat) (x : Int) (hi : i < L.length) : (L.set i x).getD j 0 = if i = j then x else L.getD j 0 := by
  rw [List.getD_eq_getElem?_getD, List.getElem?_set, List.getD_eq_getElem?_getD]
  by_cases e : i = j
  · subst e; simp [hi]
  · simp [e]
theorem revS_get (L : List Int) : ∀ k, k ≤ L.length / 2 → ∀ i, i < L.length → (revS L k).getD i 0 = if i < k ∨ L.length - k ≤ i then L.getD (L.length - 1 - i) 0 else L.getD i 0
  | 0, _, i, hi => by rw [revS, if_neg (by omega)]
  | k + 1, hk, i, hi => by
    have ih := revS_get L k (by omega)
    rw [revS, getD_set _ _ _ _ (by rw [List.length_set, revS_len]; omega), getD_set _ _ _ _ (by rw [revS_len]; omega)]
    by_cases e1 : L.length - 1 - k = i
    · rw [if_pos e1, ih k (by omega), if_neg (by omega), if_pos (by omega)]; congr 1; omega
    · rw [if_neg e1]
      by_cases e2 : k = i
      · rw [if_pos e2, ih (L.length - 1 - k) (by omega), if_neg (by omega), if_pos (by omega)]; congr 1; omega
      · rw [if_neg e2, ih i hi]
        by_cases e3 : i < k ∨ L.length - k ≤ i
        · rw [if_pos e3, if_pos (by omega)]
        · rw [if_neg e3, if_neg (by omega)]
theorem revS_all (L : List Int) : revS L (L.length / 2) = L.reverse := by
  apply List.ext_getElem?
  intro i
  by_cases hi : i < L.length
  · have h1 := revS_get L (L.length / 2) (Nat.le_refl _) i hi
    have h2 : (revS L (L.length / 2))[i]? = some ((revS L (L.length / 2)).getD i 0) := by
      rw [List.getD_eq_getElem?_getD, List.getElem?_eq_getElem (by rw [revS_len]; exact hi)]; rfl
    rw [h2, h1, List.getElem?_reverse hi]
    have h3 : ∀ j, j < L.length → L[j]? = some (L.getD j 0) := fun j hj => by rw [List.getD_eq_getElem?_getD, List.getElem?_eq_getElem hj]; rfl
    rw [h3 _ (by omega)]
    split
    · rfl
    · congr 2; omega
  · rw [List.getElem?_eq_none (by rw [revS_len]; omega), List.getElem?_eq_none (by rw [List.length_reverse]; omega)]
noncomputable def reverse_l_I (L : List Int) (k : Nat) : VS := stt 28 [(0, .own 100000), (2, i64 k), (3, i64 ((L.length : Int) - 1 - k))] [(100000, .slc 3 1 ((revS L k).map (row1 .i64)))]
noncomputable def reverse_l_Z (L : List Int) : VS := reverse_l_I L (L.length / 2)
set_option maxRecDepth 100000 in
set_option maxHeartbeats 2000000 in
theorem reverse_l_s (L : List Int) (hl : L.length ≤ 1000) (k : Nat) (hk : k < L.length / 2) : VT Try.prog (fnC Try.f85 [1, 0, 0]) (reverse_l_I L k) .normal (reverse_l_I L (k + 1)) := by
  have q0 : (List.map (row1 .i64) L).length = L.length := List.length_map _
  have q := revS_len L k
  have q9 : L.length = (L.length : Nat) := rfl
  have q2 : (List.map (row1 .i64) (revS L k)).length = (revS L k).length := List.length_map _
  have q3 : ((L.length : Int) - 1 - k).toNat = L.length - 1 - k := by omega
  have oz1 := (show 0 ≤ (↑L.length : Int) - 1 - (↑k : Int) by omega)
  have oz3 := (map_at (row1 IntKind.i64) (0) (l := revS L k) (i := ((↑L.length : Int) - 1 - (↑k : Int)).toNat) (by omega))
  have oz4 := (show 0 ≤ (↑k : Int) by omega)
  have oz5 := (show (↑k : Int) < (↑(List.map (row1 IntKind.i64) (revS L k)).length : Int) by omega)
  have oz6 := (map_at (row1 IntKind.i64) (0) (l := revS L k) (i := k) (by omega))
  have oz14 := (IntWalk.i64_in ((↑L.length : Int) - 1 - (↑k : Int) - 1) (by omega))
  have oz16 := (Weak.int (k := .i64) (show (((↑L.length : Int) - 1 - (↑k : Int) - 1) : Int) = ((↑L.length : Int) - 1 - (↑(k + 1) : Int)) from (by omega)))
  exact VT.run (W := [.r [] [], .br true, .r [] [.row (sO oz3), .row (sO oz6), .nat 0, .nat 0], .r [] [.n ((↑k : Int) + 1), .n (nO oz14)]]) (G := [.any (rg [(7, 21)]), .weak 2 (i64 (↑(k + 1) : Int)), .weak 3 (wO oz16), .blk 100000 (Blk.slc 3 1 (List.map (row1 IntKind.i64) (revS L (k + 1)))), .sort]) (by kernel_rfl) (.c (decide_eq_true (p := ((↑k : Int) < (↑L.length : Int) - 1 - (↑k : Int))) (by omega)) <| .c oz1 <| .c (show (↑L.length : Int) - 1 - (↑k : Int) < (↑(List.map (row1 IntKind.i64) (revS L k)).length : Int) by omega) <| .c oz3 <| .c oz4 <| .c oz5 <| .c oz6 <| .c oz4 <| .c oz5 <| .c (show (↑k : Int).toNat < (List.map (row1 IntKind.i64) (revS L k)).length by omega) <| .c oz1 <| .c (show (↑L.length : Int) - 1 - (↑k : Int) < (↑((List.map (row1 IntKind.i64) (revS L k)).set (↑k : Int).toNat [i64 ((revS L k).getD ((↑L.length : Int) - 1 - (↑k : Int)).toNat 0)]).length : Int) by (simp; omega)) <| .c (show ((↑L.length : Int) - 1 - (↑k : Int)).toNat < ((List.map (row1 IntKind.i64) (revS L k)).set (↑k : Int).toNat [i64 ((revS L k).getD ((↑L.length : Int) - 1 - (↑k : Int)).toNat 0)]).length by (simp; omega)) <| .c (IntWalk.i64_in ((↑k : Int) + 1) (by omega)) <| .c oz14 <| .c (Weak.int (k := .i64) (show (((↑k : Int) + 1) : Int) = ((↑(k + 1) : Int)) from (by omega))) <| .c oz16 <| .c (show BlkW (Blk.slc 3 1 (((List.map (row1 IntKind.i64) (revS L k)).set (↑k : Int).toNat [i64 ((revS L k).getD ((↑L.length : Int) - 1 - (↑k : Int)).toNat 0)]).set ((↑L.length : Int) - 1 - (↑k : Int)).toNat [i64 ((revS L k).getD k 0)])) (Blk.slc 3 1 (List.map (row1 IntKind.i64) (revS L (k + 1)))) from (BlkW.rows (rows_to (row1 IntKind.i64) (r := ((List.map (row1 IntKind.i64) (revS L k)).set (↑k : Int).toNat [i64 ((revS L k).getD ((↑L.length : Int) - 1 - (↑k : Int)).toNat 0)]).set ((↑L.length : Int) - 1 - (↑k : Int)).toNat [i64 ((revS L k).getD k 0)]) (l := ((revS L k).set (↑k : Int).toNat ((revS L k).getD ((↑L.length : Int) - 1 - (↑k : Int)).toNat 0)).set ((↑L.length : Int) - 1 - (↑k : Int)).toNat ((revS L k).getD k 0)) (m := revS L (k + 1)) (by first | (simp only [List.map_append, List.map_cons, List.map_nil, List.map_set, List.map_replicate, List.map_take, List.map_drop]; done) | rfl | (simp only [List.map_append, List.map_cons, List.map_nil, List.map_set, List.map_replicate, List.map_take, List.map_drop]; rfl)) (show (((revS L k).set (↑k : Int).toNat ((revS L k).getD ((↑L.length : Int) - 1 - (↑k : Int)).toNat 0)).set ((↑L.length : Int) - 1 - (↑k : Int)).toNat ((revS L k).getD k 0)) = (revS L (k + 1)) from (by (rw [revS, q3, Int.toNat_natCast])))))) <| .n)
set_option maxRecDepth 100000 in
set_option maxHeartbeats 2000000 in
theorem reverse_l_e (L : List Int) (hl : L.length ≤ 1000) : VT Try.prog (fnC Try.f85 [1, 0, 0]) (reverse_l_I L (L.length / 2)) (.exit 0) (reverse_l_Z L) := by
  have q := revS_len L (L.length / 2)
  have q2 : (List.map (row1 .i64) (revS L (L.length / 2))).length = (revS L (L.length / 2)).length := List.length_map _
  exact VT.run (W := [.r [] [], .br false]) (G := [.any [7, 8, 9], .sort]) (by kernel_rfl) (.c (decide_eq_false (p := ((↑(L.length / 2) : Int) < (↑L.length : Int) - 1 - (↑(L.length / 2) : Int))) (by omega)) <| .n)
theorem reverse_l (L : List Int) (hl : L.length ≤ 1000) : VT Try.prog (fnC Try.f85 [1, 0]) (reverse_l_I L 0) (.exit 0) (reverse_l_Z L) :=
  VT.loop (fun k => reverse_l_I L k) (L.length / 2) (fun k hk => reverse_l_s L hl k hk) (reverse_l_e L hl) (by intro h; cases h)

set_option maxRecDepth 100000 in
set_option maxHeartbeats 2000000 in
theorem reverse_v (L : List Int) (hl : L.length ≤ 1000) : VM Try.prog 85 ([.own 100000]) ([(100000, .slc 3 1 (L.map (row1 .i64)))]) (.tup []) ([(100000, .slc 3 1 (L.reverse.map (row1 .i64)))]) := by
  have q0 : (List.map (row1 .i64) L).length = L.length := List.length_map _
  have oz0 := (IntWalk.i64_in ((↑(List.map (row1 IntKind.i64) L).length : Int) - 1) (by omega))
  have oz2 := (Weak.int (k := .i64) (show (((↑(List.map (row1 IntKind.i64) L).length : Int) - 1) : Int) = ((↑L.length : Int) - 1 - (↑0 : Int)) from (by omega)))
  have oz4 := @reverse_l (L) hl
  exact VM.run (fn := Try.f85) (W := [.r [] [.n (nO oz0)], .code [.any [4, 5, 6], .weak 2 (i64 (↑0 : Int)), .weak 3 (wO oz2), .blk 100000 (Blk.slc 3 1 (List.map (row1 IntKind.i64) (revS L 0))), .sort] (Exit.exit 0) (zO oz4)]) (G := [.blk 100000 (Blk.slc 3 1 (List.map (row1 IntKind.i64) L.reverse)), .sort]) Try.func85 (by kernel_rfl) (.c oz0 <| .c (Weak.int (k := .i64) (show ((0) : Int) = ((↑0 : Int)) from (by omega))) <| .c oz2 <| .c (show BlkW (Blk.slc 3 1 (List.map (row1 IntKind.i64) L)) (Blk.slc 3 1 (List.map (row1 IntKind.i64) (revS L 0))) from (BlkW.rows (rows_to (row1 IntKind.i64) (r := List.map (row1 IntKind.i64) L) (l := L) (m := revS L 0) rfl (show (L) = (revS L 0) from (by rfl))))) <| .c oz4 <| .c (show BlkW (Blk.slc 3 1 (List.map (row1 IntKind.i64) (revS L (L.length / 2)))) (Blk.slc 3 1 (List.map (row1 IntKind.i64) L.reverse)) from (BlkW.rows (rows_to (row1 IntKind.i64) (r := List.map (row1 IntKind.i64) (revS L (L.length / 2))) (l := revS L (L.length / 2)) (m := L.reverse) rfl (show (revS L (L.length / 2)) = (L.reverse) from (by (rw [← revS_all])))))) <| .n)
abbrev rowB (b : Bool) : List AV := [bv b]
/-- So many values are wanted besides. -/
def setW (w : List Bool) (L : List Int) : Nat → List Bool
  | 0 => w
  | k + 1 => (setW w L k).set (L.getD k 0).toNat true
theorem setW_len (w : List Bool) (L : List Int) : ∀ k, (setW w L k).length = w.length
  | 0 => rfl
  | k + 1 => by rw [setW, List.length_set, setW_len w L k]
theorem getD_setB (L : List Bool) (i j : Nat) (x : Bool) (hi : i < L.length) : (L.set i x).getD j false = if i = j then x else L.getD j false := by
  rw [List.getD_eq_getElem?_getD, List.getElem?_set, List.getD_eq_getElem?_getD]
  by_cases e : i = j
  · subst e; simp [hi]
  · simp [e]
def wL (l : List Nod) (k : Nat) : List Bool := (List.range (l.length + 1)).map fun v : Nat => wt l k (v : Int)
theorem wL_len (l : List Nod) (k : Nat) : (wL l k).length = l.length + 1 := by unfold wL; rw [List.length_map, List.length_range]
theorem wL_at (l : List Nod) (k : Nat) {v : Nat} (hv : v < l.length + 1) : (wL l k).getD v false = wt l k (v : Int) := by
  unfold wL; rw [List.getD_eq_getElem?_getD, List.getElem?_map, List.getElem?_range hv]; rfl
theorem bools_ext {a b : List Bool} (h : a.length = b.length) (g : ∀ v, v < b.length → a.getD v false = b.getD v false) : a = b := by
  apply List.ext_getElem?
  intro i
  by_cases hi : i < b.length
  · have := g i hi
    rw [List.getD_eq_getElem?_getD, List.getD_eq_getElem?_getD, List.getElem?_eq_getElem hi, List.getElem?_eq_getElem (by omega)] at this
    rw [List.getElem?_eq_getElem hi, List.getElem?_eq_getElem (by omega)]; simpa using this
  · rw [List.getElem?_eq_none (by omega), List.getElem?_eq_none (by omega)]
theorem wL_no {l : List Nod} {k : Nat} (h : wt l k ((l.length : Int) - k) = false) : wL l (k + 1) = wL l k := by
  unfold wL; congr 1; funext v; rw [wt, h]; simp
theorem setW_at {w : List Bool} {L : List Int} {k : Nat} (hk : k ≤ L.length) (h : ∀ j, j < L.length → 0 ≤ L.getD j 0 ∧ (L.getD j 0).toNat < w.length) (v : Nat) : (setW w L k).getD v false = (w.getD v false || (List.range k).any fun j => decide (L.getD j 0 = (v : Int))) := by
  induction k with
  | zero => simp [setW]
  | succ k ih =>
    rw [setW, getD_setB _ _ _ _ (by rw [setW_len]; exact (h k (by omega)).2), ih (by omega), List.range_succ, List.any_append]
    simp only [List.any_cons, List.any_nil, Bool.or_false]
    have := h k (by omega)
    by_cases e : (L.getD k 0).toNat = v
    · have e2 : L.getD k 0 = (v : Int) := by omega
      rw [if_pos e, e2]; simp
    · have e2 : ¬ L.getD k 0 = (v : Int) := by omega
      rw [if_neg e]; simp only [decide_eq_false e2, Bool.or_false]
theorem takes_any (n : Nod) (v : Int) : ((List.range (takesL n).length).any fun j => decide ((takesL n).getD j 0 = v)) = takesB n v := by
  unfold takesL takesB
  by_cases h : n.kd = 6
  · rw [if_pos h]; simp [h, List.range_succ]
  · rw [if_neg h]; simp [h, List.range_succ]
theorem wL_yes {l : List Nod} {k : Nat} (hk : k < l.length) (ho : orderedB l = true) (h : wt l k ((l.length : Int) - k) = true) : setW (wL l k) (takesL (l.getD (l.length - 1 - k) default)) (takesL (l.getD (l.length - 1 - k) default)).length = wL l (k + 1) := by
  have ht := (takes_in _ _).2 ((ordered_iff l).1 ho (l.length - 1 - k) (by omega))
  refine bools_ext (by rw [setW_len, wL_len, wL_len]) fun v hv => ?_
  rw [wL_len] at hv
  rw [setW_at (Nat.le_refl _) (fun j hj => by have := ht j hj; rw [wL_len]; omega), takes_any, wL_at l k hv, wL_at l (k + 1) hv, wt, h]; simp
theorem wL_0 (l : List Nod) : ((List.replicate (l.length + 1) false).set l.length true) = wL l 0 := by
  refine bools_ext (by rw [List.length_set, List.length_replicate, wL_len]) fun v hv => ?_
  rw [wL_len] at hv
  rw [getD_setB _ _ _ _ (by simp), wL_at l 0 hv, wt]
  by_cases e : l.length = v
  · subst e; simp
  · rw [if_neg e, List.getD_eq_getElem?_getD, List.getElem?_replicate, if_pos hv]
    simp; omega
theorem wL_rows (l : List Nod) : (List.replicate (l.length + 1) [bv false]).set l.length [bv true] = (wL l 0).map rowB := by
  rw [← wL_0, List.map_set, List.map_replicate]
/-- The places of the used nodes among the last k, from the last one on. -/
def revK (l : List Nod) : Nat → List Int
  | 0 => []
  | k + 1 => if usedB l (l.length - 1 - k) = true then revK l k ++ [((l.length - 1 - k : Nat) : Int)] else revK l k
theorem revK_len (l : List Nod) : ∀ k, (revK l k).length ≤ k
  | 0 => Nat.le_refl _
  | k + 1 => by have := revK_len l k; rw [revK]; split <;> simp <;> omega
theorem revK_eq (l : List Nod) : ∀ k, k ≤ l.length → (revK l k).reverse = usI (((List.range l.length).drop (l.length - k)).filter (usedB l))
  | 0, _ => by rw [Nat.sub_zero, List.drop_of_length_le (by simp)]; rfl
  | k + 1, hk => by
    have hd : (List.range l.length).drop (l.length - (k + 1)) = (l.length - 1 - k) :: (List.range l.length).drop (l.length - k) := by
      rw [List.drop_eq_getElem_cons (by simp; omega), List.getElem_range, show l.length - (k + 1) + 1 = l.length - k by omega, show l.length - (k + 1) = l.length - 1 - k by omega]
    rw [hd, revK, List.filter_cons]
    split
    · rw [List.reverse_append, revK_eq l k (by omega)]; rfl
    · exact revK_eq l k (by omega)
theorem revK_all (l : List Nod) : (revK l l.length).reverse = usI (usedL l) := by
  rw [revK_eq l l.length (Nat.le_refl _)]; simp [usedL]
theorem revK_yes {l : List Nod} {k : Nat} (h : usedB l (l.length - 1 - k) = true) : revK l (k + 1) = revK l k ++ [((l.length - 1 - k : Nat) : Int)] := by rw [revK, if_pos h]
theorem revK_no {l : List Nod} {k : Nat} (h : usedB l (l.length - 1 - k) = false) : revK l (k + 1) = revK l k := by rw [revK, if_neg (by simp [h])]
theorem wt_used {l : List Nod} {k : Nat} (hk : k < l.length) : wt l k ((l.length : Int) - k) = usedB l (l.length - 1 - k) := by
  unfold usedB
  rw [show l.length - 1 - (l.length - 1 - k) = k by omega, show (((l.length - 1 - k : Nat) : Int)) + 1 = (l.length : Int) - k by omega]
noncomputable def pused_i_I (l : List Nod) (u : Int) (O L : List Int) (w : List Bool) (k : Nat) : VS := stt 58 [(0, .sl 19 (l.map nodC)), (3, .own 901), (4, .own 900), (5, i64 u), (45, ints .i64 L), (46, i64 L.length), (47, i64 k)] [(900, .slc 3 1 (O.map (row1 .i64))), (901, .slc 4 1 ((setW w L k).map rowB))]
noncomputable def pused_i_Z (l : List Nod) (u : Int) (O L : List Int) (w : List Bool) : VS := pused_i_I l u O L w (L.length)
set_option maxRecDepth 100000 in
set_option maxHeartbeats 2000000 in
theorem pused_i_s (l : List Nod) (u : Int) (O L : List Int) (w : List Bool) (hl : L.length ≤ 2) (ho : O.length ≤ 1000) (hw : ∀ k, k < L.length → 0 ≤ L.getD k 0 ∧ L.getD k 0 < w.length) (k : Nat) (hk : k < L.length) : VT Try.prog (fnC Try.f23 [1, 0, 1, 1, 1, 1, 1, 0, 1, 0, 0, 1, 0, 0, 1, 1, 1, 0, 0]) (pused_i_I l u O L w k) .normal (pused_i_I l u O L w (k + 1)) := by
  have q := hw k hk
  have q1 := setW_len w L k
  have q2 : (List.map rowB (setW w L k)).length = (setW w L k).length := List.length_map _
  exact VT.run (W := [.r [] [], .br true, .r [] [.row [i64 (L.getD k 0)]], .r [] [.nat 0], .r [] [.n ((↑k : Int) + 1)]]) (G := [.any (rg [(7, 1), (48, 7)]), .weak 47 (i64 (↑(k + 1) : Int)), .blk 901 (Blk.slc 4 1 (List.map rowB (setW w L (k + 1)))), .sort]) (by kernel_rfl) (.c (decide_eq_true (p := ((↑k : Int) < (↑L.length : Int))) (by omega)) <| .c (show 0 ≤ (↑k : Int) by omega) <| .c (map_at (row1 IntKind.i64) (0) (l := L) (i := k) hk) <| .c (show 0 ≤ L.getD k 0 by omega) <| .c (show L.getD k 0 < (↑(List.map rowB (setW w L k)).length : Int) by omega) <| .c (show (L.getD k 0).toNat < (List.map rowB (setW w L k)).length by omega) <| .c (IntWalk.i64_in ((↑k : Int) + 1) (by omega)) <| .c (Weak.int (k := .i64) (show (((↑k : Int) + 1) : Int) = ((↑(k + 1) : Int)) from (by omega))) <| .c (show BlkW (Blk.slc 4 1 ((List.map rowB (setW w L k)).set (L.getD k 0).toNat [bv true])) (Blk.slc 4 1 (List.map rowB (setW w L (k + 1)))) from (BlkW.rows (rows_to (rowB) (r := (List.map rowB (setW w L k)).set (L.getD k 0).toNat [bv true]) (l := (setW w L k).set (L.getD k 0).toNat true) (m := setW w L (k + 1)) (by first | (simp only [List.map_append, List.map_cons, List.map_nil, List.map_set, List.map_replicate, List.map_take, List.map_drop]; done) | rfl | (simp only [List.map_append, List.map_cons, List.map_nil, List.map_set, List.map_replicate, List.map_take, List.map_drop]; rfl) | (simp only [List.map_append, List.map_cons, List.map_nil, List.map_set, List.map_replicate, List.map_take, List.map_drop, rowB, ints]; done)) (show ((setW w L k).set (L.getD k 0).toNat true) = (setW w L (k + 1)) from (by rfl))))) <| .n)
set_option maxRecDepth 100000 in
set_option maxHeartbeats 2000000 in
theorem pused_i_e (l : List Nod) (u : Int) (O L : List Int) (w : List Bool) (hl : L.length ≤ 2) (ho : O.length ≤ 1000) (hw : ∀ k, k < L.length → 0 ≤ L.getD k 0 ∧ L.getD k 0 < w.length) : VT Try.prog (fnC Try.f23 [1, 0, 1, 1, 1, 1, 1, 0, 1, 0, 0, 1, 0, 0, 1, 1, 1, 0, 0]) (pused_i_I l u O L w (L.length)) (.exit 2) (pused_i_Z l u O L w) := by
  exact VT.run (W := [.r [] [], .br false]) (G := [.any [48], .sort]) (by kernel_rfl) (.c (decide_eq_false (p := ((↑L.length : Int) < (↑L.length : Int))) (by omega)) <| .n)
theorem pused_i (l : List Nod) (u : Int) (O L : List Int) (w : List Bool) (hl : L.length ≤ 2) (ho : O.length ≤ 1000) (hw : ∀ k, k < L.length → 0 ≤ L.getD k 0 ∧ L.getD k 0 < w.length) : VT Try.prog (fnC Try.f23 [1, 0, 1, 1, 1, 1, 1, 0, 1, 0, 0, 1, 0, 0, 1, 1, 1, 0]) (pused_i_I l u O L w 0) (.exit 2) (pused_i_Z l u O L w) :=
  VT.loop (fun k => pused_i_I l u O L w k) (L.length) (fun k hk => pused_i_s l u O L w hl ho hw k hk) (pused_i_e l u O L w hl ho hw) (by intro h; cases h)

noncomputable def pused_o_I (l : List Nod) (k : Nat) : VS := stt 58 [(0, .sl 19 (l.map nodC)), (3, .own 901), (4, .own 900), (5, i64 ((l.length : Int) - 1 - k))] [(900, .slc 3 1 ((revK l k).map (row1 .i64))), (901, .slc 4 1 ((wL l k).map rowB))]
noncomputable def pused_o_Z (l : List Nod) : VS := pused_o_I l (l.length)
set_option maxRecDepth 100000 in
set_option maxHeartbeats 2000000 in
theorem pused_o_s (l : List Nod) (hl : l.length ≤ 1000) (ho : orderedB l = true) (k : Nat) (hk : k < l.length) : VT Try.prog (fnC Try.f23 [1, 0, 1, 1, 1, 1, 1, 0, 1, 0, 0]) (pused_o_I l k) .normal (pused_o_I l (k + 1)) := by
  have q := revK_len l k
  have q1 := wL_len l k
  have q2 : (List.map (row1 .i64) (revK l k)).length = (revK l k).length := List.length_map _
  have q3 : (List.map rowB (wL l k)).length = (wL l k).length := List.length_map _
  have q4 := wt_used hk
  have q5 := @revK_yes l k
  have q6 := @revK_no l k
  have q7 := @wL_yes l k hk ho
  have q8 := @wL_no l k
  have q9 := takes_len (l.getD (l.length - 1 - k) default)
  have qa := (takes_in _ _).2 ((ordered_iff l).1 ho (l.length - 1 - k) (by omega))
  have qb : ((l.length : Int) - 1 - k).toNat = l.length - 1 - k := by omega
  have qc : ((l.length : Int) - 1 - k + 1).toNat = l.length - k := by omega
  have qd := wL_at l k (v := l.length - k) (by omega)
  have qe : (((l.length - k : Nat) : Int)) = (l.length : Int) - k := by omega
  have qf : (!(wL l k).getD ((l.length : Int) - 1 - k + 1).toNat default) = !usedB l (l.length - 1 - k) := by
    rw [qc]; show (!(wL l k).getD (l.length - k) false) = _; rw [qd, qe, q4]
  have qg : (!(wL l k).getD ((l.length : Int) - 1 - k + 1).toNat default) = false → usedB l (l.length - 1 - k) = true := fun h => by rw [qf] at h; simpa using h
  have qn : (!(wL l k).getD ((l.length : Int) - 1 - k + 1).toNat default) = true → usedB l (l.length - 1 - k) = false := fun h => by rw [qf] at h; simpa using h
  have qh : ((l.length - 1 - k : Nat) : Int) = (l.length : Int) - 1 - k := by omega
  have oz0 := (decide_eq_true (p := ((↑l.length : Int) - 1 - (↑k : Int) ≥ 0)) (by omega))
  have oz1 := (IntWalk.i64_in ((↑l.length : Int) - 1 - (↑k : Int) + 1) (by omega))
  have oz2 := (show 0 ≤ (↑l.length : Int) - 1 - (↑k : Int) + 1 by omega)
  have oz3 := (show (↑l.length : Int) - 1 - (↑k : Int) + 1 < (↑(List.map rowB (wL l k)).length : Int) by omega)
  have oz4 := (map_at (rowB) (default) (l := wL l k) (i := ((↑l.length : Int) - 1 - (↑k : Int) + 1).toNat) (by omega))
  rcases Bool.eq_false_or_eq_true (!(wL l k).getD ((↑l.length : Int) - 1 - (↑k : Int) + 1).toNat default) with hc0 | hc0
  · have gc0 : (wL l k).getD ((↑l.length : Int) - 1 - (↑k : Int) + 1).toNat default = false := by first | exact hc0 | exact of_decide_eq_true hc0 | exact of_decide_eq_false hc0 | simpa [eqNums] using hc0 | (simp [eqNums] at hc0 ⊢; first | done | assumption | omega)
    have oz6 := (IntWalk.i64_in ((↑l.length : Int) - 1 - (↑k : Int) - 1) (by omega))
    have oz7 := (Weak.int (k := .i64) (show (((↑l.length : Int) - 1 - (↑k : Int) - 1) : Int) = ((↑l.length : Int) - 1 - (↑(k + 1) : Int)) from (by omega)))
    exact VT.run (W := [.r [] [], .br true, .r [] [.n (nO oz1), .row (sO oz4)], .br true, .r [] [.n (nO oz6)]]) (G := [.any (rg [(27, 10)]), .weak 5 (wO oz7), .blk 900 (Blk.slc 3 1 (List.map (row1 IntKind.i64) (revK l (k + 1)))), .blk 901 (Blk.slc 4 1 (List.map rowB (wL l (k + 1)))), .sort]) (by kernel_rfl) (.c oz0 <| .c oz1 <| .c oz2 <| .c oz3 <| .c oz4 <| .c hc0 <| .c oz6 <| .c oz7 <| .c (show BlkW (Blk.slc 3 1 (List.map (row1 IntKind.i64) (revK l k))) (Blk.slc 3 1 (List.map (row1 IntKind.i64) (revK l (k + 1)))) from (BlkW.rows (rows_to (row1 IntKind.i64) (r := List.map (row1 IntKind.i64) (revK l k)) (l := revK l k) (m := revK l (k + 1)) rfl (show (revK l k) = (revK l (k + 1)) from (by (rw [q6 (qn (by assumption))])))))) <| .c (show BlkW (Blk.slc 4 1 (List.map rowB (wL l k))) (Blk.slc 4 1 (List.map rowB (wL l (k + 1)))) from (BlkW.rows (rows_to (rowB) (r := List.map rowB (wL l k)) (l := wL l k) (m := wL l (k + 1)) rfl (show (wL l k) = (wL l (k + 1)) from (by (rw [q8 (by rw [q4]; exact qn (by assumption))])))))) <| .n)
  · have gc0 : (wL l k).getD ((↑l.length : Int) - 1 - (↑k : Int) + 1).toNat default = true := by first | exact hc0 | exact of_decide_eq_true hc0 | exact of_decide_eq_false hc0 | simpa [eqNums] using hc0 | (simp [eqNums] at hc0 ⊢; first | done | assumption | omega)
    have oz9 := (map_at (nodC) (default) (l := l) (i := ((↑l.length : Int) - 1 - (↑k : Int)).toNat) (by omega))
    have oz10 := @pvalues_v (l.getD ((↑l.length : Int) - 1 - (↑k : Int)).toNat default)
    have oz11 := (Weak.int (k := .i64) (show (((↑(List.map (row1 IntKind.i64) (takesL (l.getD ((↑l.length : Int) - 1 - (↑k : Int)).toNat default))).length : Int)) : Int) = ((↑(takesL (l.getD ((↑l.length : Int) - 1 - (↑k : Int)).toNat default)).length : Int)) from (by (simp; done))))
    have oz15 := @pused_i (l) ((↑l.length : Int) - 1 - (↑k : Int)) (revK l k ++ [(↑l.length : Int) - 1 - (↑k : Int)]) (takesL (l.getD ((↑l.length : Int) - 1 - (↑k : Int)).toNat default)) (List.map (fun (v : Nat) => wt l k (↑v : Int)) (List.range (l.length + 1))) (by (simp at *; omega)) (by (simp; omega)) (by (rw [qb]; intro j hj; have := qa j hj; simp only [List.length_map, List.length_range]; omega))
    have oz16 := (IntWalk.i64_in ((↑l.length : Int) - 1 - (↑k : Int) - 1) (by omega))
    have oz17 := (Weak.int (k := .i64) (show (((↑l.length : Int) - 1 - (↑k : Int) - 1) : Int) = ((↑l.length : Int) - 1 - (↑(k + 1) : Int)) from (by omega)))
    exact VT.run (W := [.r [] [], .br true, .r [] [.n (nO oz1), .row (sO oz4)], .br false, .r [] [], .r [] [.row (sO oz9), .callr (rO oz10)], .code [.any (rg [(27, 2), (31, 14)]), .drop [39], .ren 40 900, .weak 46 (wO oz11), .weak 47 (i64 (↑0 : Int)), .blk 900 (Blk.slc 3 1 (List.map (row1 IntKind.i64) (revK l k ++ [(↑l.length : Int) - 1 - (↑k : Int)]))), .blk 901 (Blk.slc 4 1 (List.map rowB (setW (List.map (fun (v : Nat) => wt l k (↑v : Int)) (List.range (l.length + 1))) (takesL (l.getD ((↑l.length : Int) - 1 - (↑k : Int)).toNat default)) 0))), .sort] (Exit.exit 2) (zO oz15), .r [] [.n (nO oz16)]]) (G := [.any [29, 30, 45, 46, 47], .weak 5 (wO oz17), .blk 900 (Blk.slc 3 1 (List.map (row1 IntKind.i64) (revK l (k + 1)))), .blk 901 (Blk.slc 4 1 (List.map rowB (wL l (k + 1)))), .sort]) (by kernel_rfl) (.c oz0 <| .c oz1 <| .c oz2 <| .c oz3 <| .c oz4 <| .c hc0 <| .c (show ((List.map (row1 IntKind.i64) (revK l k)).length + 1) * 8 ≤ 140737488355328 by omega) <| .c (show (List.map (row1 IntKind.i64) (revK l k)).length + 1 ≤ 9223372036854775807 by omega) <| .c (show 0 ≤ (↑l.length : Int) - 1 - (↑k : Int) by omega) <| .c oz9 <| .c oz10 <| .c oz11 <| .c (Weak.int (k := .i64) (show ((0) : Int) = ((↑0 : Int)) from (by omega))) <| .c (show BlkW (Blk.slc 3 1 (List.map (row1 IntKind.i64) (revK l k) ++ [[i64 ((↑l.length : Int) - 1 - (↑k : Int))]])) (Blk.slc 3 1 (List.map (row1 IntKind.i64) (revK l k ++ [(↑l.length : Int) - 1 - (↑k : Int)]))) from (BlkW.rows (rows_to (row1 IntKind.i64) (r := List.map (row1 IntKind.i64) (revK l k) ++ [[i64 ((↑l.length : Int) - 1 - (↑k : Int))]]) (l := revK l k ++ [(↑l.length : Int) - 1 - (↑k : Int)]) (m := revK l k ++ [(↑l.length : Int) - 1 - (↑k : Int)]) (by first | (simp only [List.map_append, List.map_cons, List.map_nil, List.map_set, List.map_replicate, List.map_take, List.map_drop]; done) | rfl | (simp only [List.map_append, List.map_cons, List.map_nil, List.map_set, List.map_replicate, List.map_take, List.map_drop]; rfl)) rfl))) <| .c (show BlkW (Blk.slc 4 1 (List.map rowB (wL l k))) (Blk.slc 4 1 (List.map rowB (setW (List.map (fun (v : Nat) => wt l k (↑v : Int)) (List.range (l.length + 1))) (takesL (l.getD ((↑l.length : Int) - 1 - (↑k : Int)).toNat default)) 0))) from (BlkW.rows (rows_to (rowB) (r := List.map rowB (wL l k)) (l := wL l k) (m := setW (List.map (fun (v : Nat) => wt l k (↑v : Int)) (List.range (l.length + 1))) (takesL (l.getD ((↑l.length : Int) - 1 - (↑k : Int)).toNat default)) 0) rfl (show (wL l k) = (setW (List.map (fun (v : Nat) => wt l k (↑v : Int)) (List.range (l.length + 1))) (takesL (l.getD ((↑l.length : Int) - 1 - (↑k : Int)).toNat default)) 0) from (by rfl))))) <| .c oz15 <| .c oz16 <| .c oz17 <| .c (show BlkW (Blk.slc 3 1 (List.map (row1 IntKind.i64) (revK l k ++ [(↑l.length : Int) - 1 - (↑k : Int)]))) (Blk.slc 3 1 (List.map (row1 IntKind.i64) (revK l (k + 1)))) from (BlkW.rows (rows_to (row1 IntKind.i64) (r := List.map (row1 IntKind.i64) (revK l k ++ [(↑l.length : Int) - 1 - (↑k : Int)])) (l := revK l k ++ [(↑l.length : Int) - 1 - (↑k : Int)]) (m := revK l (k + 1)) rfl (show (revK l k ++ [(↑l.length : Int) - 1 - (↑k : Int)]) = (revK l (k + 1)) from (by (rw [q5 (qg (by assumption)), qh])))))) <| .c (show BlkW (Blk.slc 4 1 (List.map rowB (setW (List.map (fun (v : Nat) => wt l k (↑v : Int)) (List.range (l.length + 1))) (takesL (l.getD ((↑l.length : Int) - 1 - (↑k : Int)).toNat default)) (takesL (l.getD ((↑l.length : Int) - 1 - (↑k : Int)).toNat default)).length))) (Blk.slc 4 1 (List.map rowB (wL l (k + 1)))) from (BlkW.rows (rows_to (rowB) (r := List.map rowB (setW (List.map (fun (v : Nat) => wt l k (↑v : Int)) (List.range (l.length + 1))) (takesL (l.getD ((↑l.length : Int) - 1 - (↑k : Int)).toNat default)) (takesL (l.getD ((↑l.length : Int) - 1 - (↑k : Int)).toNat default)).length)) (l := setW (List.map (fun (v : Nat) => wt l k (↑v : Int)) (List.range (l.length + 1))) (takesL (l.getD ((↑l.length : Int) - 1 - (↑k : Int)).toNat default)) (takesL (l.getD ((↑l.length : Int) - 1 - (↑k : Int)).toNat default)).length) (m := wL l (k + 1)) rfl (show (setW (List.map (fun (v : Nat) => wt l k (↑v : Int)) (List.range (l.length + 1))) (takesL (l.getD ((↑l.length : Int) - 1 - (↑k : Int)).toNat default)) (takesL (l.getD ((↑l.length : Int) - 1 - (↑k : Int)).toNat default)).length) = (wL l (k + 1)) from (by (rw [qb]; exact q7 (by rw [q4]; exact qg (by assumption)))))))) <| .n)
set_option maxRecDepth 100000 in
set_option maxHeartbeats 2000000 in
theorem pused_o_e (l : List Nod) (hl : l.length ≤ 1000) (ho : orderedB l = true) : VT Try.prog (fnC Try.f23 [1, 0, 1, 1, 1, 1, 1, 0, 1, 0, 0]) (pused_o_I l (l.length)) (.exit 0) (pused_o_Z l) := by
  exact VT.run (W := [.r [] [], .br false]) (G := [.any [27, 28], .sort]) (by kernel_rfl) (.c (decide_eq_false (p := ((↑l.length : Int) - 1 - (↑l.length : Int) ≥ 0)) (by omega)) <| .n)
theorem pused_o (l : List Nod) (hl : l.length ≤ 1000) (ho : orderedB l = true) : VT Try.prog (fnC Try.f23 [1, 0, 1, 1, 1, 1, 1, 0, 1, 0]) (pused_o_I l 0) (.exit 0) (pused_o_Z l) :=
  VT.loop (fun k => pused_o_I l k) (l.length) (fun k hk => pused_o_s l hl ho k hk) (pused_o_e l hl ho) (by intro h; cases h)

set_option maxRecDepth 100000 in
set_option maxHeartbeats 2000000 in
theorem pused_y (l : List Nod) (hl : l.length ≤ 1000) (h0 : l.length ≠ 0) (ho : orderedB l = true) : VC Try.prog 23 ([.sl 19 (l.map nodC)]) (ints .i64 (usI (usedL l))) := by
  have q0 : (List.map nodC l).length = l.length := List.length_map _
  have q1 := revK_len l l.length
  have q2 := wL_len l 0
  have oz0 := (show ((↑(List.map nodC l).length : Int) == 0) = false by (refine decide_eq_false ?_; omega))
  have oz2 := @pord_v (l) hl
  have oz6 := (IntWalk.i64_in ((↑(List.map nodC l).length : Int) + 1) (by omega))
  have oz7 := (show (↑(List.map nodC l).length : Int) + 1 = (↑(wL l 0).length : Int) by omega)
  have oz15 := (IntWalk.i64_in ((↑(List.map nodC l).length : Int) - 1) (by omega))
  have oz16 := (Weak.int (k := .i64) (show (((↑(List.map nodC l).length : Int) - 1) : Int) = ((↑l.length : Int) - 1 - (↑0 : Int)) from (by omega)))
  have oz18 := @pused_o (l) hl ho
  have oz19 := @reverse_v (revK l l.length) (by omega)
  exact (VC.run (fn := Try.f23) (W := [.r [] [], .sc, .r [] [.br true, .br true, .callr (rO oz2), .br true, .br false], .br false, .r [] [.n (nO oz6), .nats (wL l 0).length (wL l 0).length], .r [] [.nat 0], .r [] [], .r [] [.n (nO oz15)], .code [.any (rg [(2, 1), (8, 19)]), .ren 19 901, .weak 5 (wO oz16), .nils 4 900 3 1, .blk 901 (Blk.slc 4 1 (List.map rowB (wL l 0))), .sort] (Exit.exit 0) (zO oz18), .r [] [.callm [(900, 100000)] [] (rM oz19) (oM oz19)], .r [] []]) (r := AV.sl 1 (List.map (row1 IntKind.i64) (revK l l.length).reverse)) Try.func23 (by kernel_rfl) (.c oz0 <| .c oz0 <| .c oz2 <| .c oz0 <| .c oz0 <| .c (show (!orderedB l) = false by (simp; omega)) <| .c oz6 <| .c oz7 <| .c oz7 <| .c (show (wL l 0).length ≤ (wL l 0).length by omega) <| .c (show 1 * (wL l 0).length ≤ 281474976710656 by omega) <| .c (show (wL l 0).length ≤ 9223372036854775807 by omega) <| .c (show 0 ≤ (↑(List.map nodC l).length : Int) by omega) <| .c (show (↑(List.map nodC l).length : Int) < (↑(List.replicate (wL l 0).length [bv false]).length : Int) by (simp; omega)) <| .c (show (↑(List.map nodC l).length : Int).toNat < (List.replicate (wL l 0).length [bv false]).length by (simp; omega)) <| .c oz15 <| .c oz16 <| .c (show BlkW (Blk.slc 4 1 ((List.replicate (wL l 0).length [bv false]).set (↑(List.map nodC l).length : Int).toNat [bv true])) (Blk.slc 4 1 (List.map rowB (wL l 0))) from (BlkW.rows (rows_to (rowB) (r := (List.replicate (wL l 0).length [bv false]).set (↑(List.map nodC l).length : Int).toNat [bv true]) (l := (List.replicate (wL l 0).length false).set (↑(List.map nodC l).length : Int).toNat true) (m := wL l 0) (by first | (simp only [List.map_append, List.map_cons, List.map_nil, List.map_set, List.map_replicate, List.map_take, List.map_drop]; done) | rfl | (simp only [List.map_append, List.map_cons, List.map_nil, List.map_set, List.map_replicate, List.map_take, List.map_drop]; rfl) | (simp only [List.map_append, List.map_cons, List.map_nil, List.map_set, List.map_replicate, List.map_take, List.map_drop, rowB, ints]; done)) (show ((List.replicate (wL l 0).length false).set (↑(List.map nodC l).length : Int).toNat true) = (wL l 0) from (by (rw [wL_len, List.length_map, Int.toNat_natCast, wL_0])))))) <| .c oz18 <| .c oz19 <| .n)).weak (WeakL.refl _) (Weak.rows (rows_to (row1 IntKind.i64) (r := List.map (row1 IntKind.i64) (revK l l.length).reverse) (l := (revK l l.length).reverse) (m := usI (usedL l)) rfl (show ((revK l l.length).reverse) = (usI (usedL l)) from (by (rw [← revK_all])))))

set_option maxRecDepth 100000 in
set_option maxHeartbeats 2000000 in
theorem pused_n (l : List Nod) (hl : l.length ≤ 1000) (h0 : l.length = 0 ∨ orderedB l = false) : VC Try.prog 23 ([.sl 19 (l.map nodC)]) (ints .i64 []) := by
  have q0 : (List.map nodC l).length = l.length := List.length_map _
  have oz0 := @pord_v (l) hl
  exact (VC.run (fn := Try.f23) (W := [.r [] [], .sc, .r [] [.op false, .op false, .callr (rO oz0), .op false, .sel 1], .br true, .r [] []]) (r := AV.lit (Value.slice none 0 0)) Try.func23 (by kernel_rfl) (.c oz0 <| .c (show ((↑(List.map nodC l).length : Int) == 0 || !orderedB l) = true by (rcases h0 with h0 | h0 <;> simp [h0])) <| .n)).weak (WeakL.refl _) (Weak.nil _)
end Go.Proofs.Ytgecmooedhnenaa

