/- Texts of this claim, put together: RnB, Gd, GdN, Ds, RnC, RnD, RnE, Gs2, Gs3. No condition. -/
import Derived.Test.YtgecmooedhnenaaGuardHoldsG4
set_option linter.unusedVariables false
set_option linter.unusedSimpArgs false
set_option linter.unnecessarySimpa false
/- The greatest ones and the means of windows, by the document. No condition. -/
namespace Go.Proofs.Ytgecmooedhnenaa
open Go.RowKit
set_option linter.unusedSimpArgs false
set_option linter.unusedVariables false
set_option linter.unnecessarySimpa false

/-- The numbers that a row of a window has of a channel, and those that a window has. -/
def winJ (T : Ten) (y x c : Int) (A : List Int) : Nat → List Int
  | 0 => A
  | j + 1 => winJ T y x c A j ++ (if inT T y (x + j) then [T.d.getD ((y * T.x + (x + j)) * T.c + c).toNat 0] else [])
def winI (T : Ten) (k : Nat) (y x c : Int) : Nat → List Int
  | 0 => []
  | i + 1 => winJ T (y + i) x c (winI T k y x c i) k
abbrev winL (T : Ten) (n : Nod) (h w c : Int) : List Int := winI T n.nk.toNat (h * n.ns - n.np) (w * n.ns - n.np) c n.nk.toNat
theorem winJ_len (T : Ten) (y x c : Int) (A : List Int) : ∀ j, (winJ T y x c A j).length ≤ A.length + j
  | 0 => Nat.le_refl _
  | j + 1 => by have := winJ_len T y x c A j; rw [winJ, List.length_append]; split <;> simp <;> omega
theorem winI_len (T : Ten) (k : Nat) (y x c : Int) : ∀ i, (winI T k y x c i).length ≤ i * k
  | 0 => by simp [winI]
  | i + 1 => by have h1 := winI_len T k y x c i; have h2 := winJ_len T (y + i) x c (winI T k y x c i) k; rw [winI, Nat.add_mul]; omega
theorem winJ_yes {T : Ten} {y x c : Int} {A : List Int} {j : Nat} (h : inT T y (x + j)) : winJ T y x c A (j + 1) = winJ T y x c A j ++ [T.d.getD ((y * T.x + (x + j)) * T.c + c).toNat 0] := by rw [winJ, if_pos h]
theorem winJ_no {T : Ten} {y x c : Int} {A : List Int} {j : Nat} (h : ¬ inT T y (x + j)) : winJ T y x c A (j + 1) = winJ T y x c A j := by rw [winJ, if_neg h, List.append_nil]
theorem winJ_8 {T : Ten} (ok : T.Ok) (y x c : Int) {A : List Int} (hA : ∀ v ∈ A, In8 v) : ∀ j, ∀ v ∈ winJ T y x c A j, In8 v
  | 0 => hA
  | j + 1 => by
    intro v hv
    rw [winJ, List.mem_append] at hv
    rcases hv with hv | hv
    · exact winJ_8 ok y x c hA j v hv
    · split at hv
      · rw [List.mem_singleton] at hv; subst hv; exact gt8 ok.d _
      · simp at hv
theorem winI_8 {T : Ten} (ok : T.Ok) (k : Nat) (y x c : Int) : ∀ i, ∀ v ∈ winI T k y x c i, In8 v
  | 0 => by simp [winI]
  | i + 1 => winJ_8 ok _ x c (winI_8 ok k y x c i) k
structure WnOk (T : Ten) (n : Nod) (h w c : Int) : Prop where
  r : TRt T
  k1 : 1 ≤ n.nk
  k5 : n.nk ≤ 5
  s1 : 1 ≤ n.ns
  s4 : n.ns ≤ 4
  p0 : 0 ≤ n.np
  p4 : n.np ≤ 4
  h0 : 0 ≤ h
  h1 : h ≤ 100
  w0 : 0 ≤ w
  w1 : w ≤ 100
  c0 : 0 ≤ c
  c1 : c < T.c
noncomputable def win_j_I (T : Ten) (n : Nod) (h w c : Int) (i : Nat) (A : List Int) (k : Nat) : VS := stt 75 [(2, i64 h), (3, i64 w), (4, i64 c), (5, .ptr 5 0 0), (6, .ptr 6 0 0), (11, .own 900), (12, i64 i), (13, i64 k)] [(5, .var [i64 T.h, i64 T.x, i64 T.c, ints .i8 T.d]), (6, .var (nodC n)), (900, .slc 30 1 ((winJ T (h * n.ns - n.np + i) (w * n.ns - n.np) c A k).map (row1 .i8)))]
noncomputable def win_j_Z (T : Ten) (n : Nod) (h w c : Int) (i : Nat) (A : List Int) : VS := win_j_I T n h w c i A (n.nk.toNat)
set_option maxRecDepth 100000 in
set_option maxHeartbeats 2000000 in
theorem win_j_s (T : Ten) (n : Nod) (h w c : Int) (i : Nat) (A : List Int) (ok : WnOk T n h w c) (hi : i < n.nk.toNat) (hA : A.length ≤ 25) (k : Nat) (hk : k < n.nk.toNat) : VT Try.prog (fnC Try.f197 [1, 1, 0, 1, 0, 0, 1, 0, 0, 1, 0, 0]) (win_j_I T n h w c i A k) .normal (win_j_I T n h w c i A (k + 1)) := by
  obtain ⟨r, k1, k5, s1, s4, p0, p4, h0, h1, w0, w1, c0, c1⟩ := id ok
  have g1 := mul_bd (A := 100) (B := 4) h0 h1 (show 0 ≤ n.ns by omega) s4
  have g2 := mul_bd (A := 100) (B := 4) w0 w1 (show 0 ≤ n.ns by omega) s4
  have g3 := winJ_len T (h * n.ns - n.np + i) (w * n.ns - n.np) c A k
  have g4 : (List.map (row1 .i8) (winJ T (h * n.ns - n.np + i) (w * n.ns - n.np) c A k)).length ≤ 60 := by rw [List.length_map]; omega
  have g5 := fun (a : inT T (h * n.ns - n.np + i) (w * n.ns - n.np + k)) => r.place a c0 c1
  have g6 : h * n.ns + i - n.np = h * n.ns - n.np + i := by omega
  have g7 : w * n.ns + k - n.np = w * n.ns - n.np + k := by omega
  have g8 := r.el
  have g9 := r.dl
  have ga := r.x16
  have gb := r.h16
  have y1 := @winJ_yes T (h * n.ns - n.np + i) (w * n.ns - n.np) c A k
  have y2 := @winJ_no T (h * n.ns - n.np + i) (w * n.ns - n.np) c A k
  rw [← g6, ← g7] at g5
  rw [← g7] at y1 y2
  have oz0 := (decide_eq_true (p := ((↑k : Int) < n.nk)) (by omega))
  have oz1 := (IntWalk.i64_in (h * n.ns) (by omega))
  have oz2 := (IntWalk.i64_in (h * n.ns + (↑i : Int)) (by omega))
  have oz3 := (IntWalk.i64_in (h * n.ns + (↑i : Int) - n.np) (by omega))
  have oz4 := (IntWalk.i64_in (w * n.ns) (by omega))
  have oz5 := (IntWalk.i64_in (w * n.ns + (↑k : Int)) (by omega))
  have oz6 := (IntWalk.i64_in (w * n.ns + (↑k : Int) - n.np) (by omega))
  rcases Bool.eq_false_or_eq_true (decide (h * n.ns + (↑i : Int) - n.np ≥ 0) && decide (h * n.ns + (↑i : Int) - n.np < T.h) && decide (w * n.ns + (↑k : Int) - n.np ≥ 0) && decide (w * n.ns + (↑k : Int) - n.np < T.x)) with hc0 | hc0
  · have gc0 : ((h * n.ns + (↑i : Int) - n.np ≥ 0 ∧ h * n.ns + (↑i : Int) - n.np < T.h) ∧ w * n.ns + (↑k : Int) - n.np ≥ 0) ∧ w * n.ns + (↑k : Int) - n.np < T.x := by first | (simp only [Bool.or_eq_true, Bool.or_eq_false_iff, Bool.and_eq_true, Bool.and_eq_false_iff, Bool.not_eq_true', Bool.not_eq_false', decide_eq_true_eq, decide_eq_false_iff_not, beq_iff_eq, bne_iff_ne, ne_eq, beq_eq_false_iff_ne, bne_eq_false_iff_eq, eqNums, Bool.and_true] at hc0; first | exact hc0 | omega) | simpa using hc0 | (simp at hc0 ⊢; omega) | (apply Classical.byContradiction; intro hn; simp_all [eqNums]; done) | (apply Classical.byContradiction; intro hn; simp [eqNums] at hc0 hn; omega)
    have oz8 := @get_v (T) (h * n.ns + (↑i : Int) - n.np) (w * n.ns + (↑k : Int) - n.np) (c) (by omega) (by omega) (by omega) (by omega) (by omega) c0 (by omega) (by omega)
    exact VT.run (W := [.r [] [], .br true, .r [] [.n (nO oz1), .n (nO oz2), .n (nO oz3), .n (nO oz4), .n (nO oz5), .n (nO oz6)], .r [] [.op false, .op false, .op false, .op false, .op false, .sel 2, .op false, .op false, .sel 2, .op false, .op false, .op false, .op false, .op false, .sel 2], .br true, .r [] [.callr (rO oz8)], .r [] [.n ((↑k : Int) + 1)]]) (G := [.any (rg [(14, 2), (22, 27), (54, 2), (58, 2), (65, 9)]), .drop [72], .ren 73 900, .weak 13 (i64 (↑(k + 1) : Int)), .blk 900 (Blk.slc 30 1 (List.map (row1 IntKind.i8) (winJ T (h * n.ns - n.np + (↑i : Int)) (w * n.ns - n.np) c A (k + 1)))), .sort]) (by kernel_rfl) (.c oz0 <| .c oz1 <| .c oz2 <| .c oz3 <| .c oz4 <| .c oz5 <| .c oz6 <| .c hc0 <| .c oz8 <| .c (show ((List.map (row1 IntKind.i8) (winJ T (h * n.ns - n.np + (↑i : Int)) (w * n.ns - n.np) c A k)).length + 1) * 1 ≤ 140737488355328 by omega) <| .c (show (List.map (row1 IntKind.i8) (winJ T (h * n.ns - n.np + (↑i : Int)) (w * n.ns - n.np) c A k)).length + 1 ≤ 9223372036854775807 by omega) <| .c (IntWalk.i64_in ((↑k : Int) + 1) (by omega)) <| .c (Weak.int (k := .i64) (show (((↑k : Int) + 1) : Int) = ((↑(k + 1) : Int)) from (by omega))) <| .c (show BlkW (Blk.slc 30 1 (List.map (row1 IntKind.i8) (winJ T (h * n.ns - n.np + (↑i : Int)) (w * n.ns - n.np) c A k) ++ [[i8 (T.d.getD (((h * n.ns + (↑i : Int) - n.np) * T.x + (w * n.ns + (↑k : Int) - n.np)) * T.c + c).toNat 0)]])) (Blk.slc 30 1 (List.map (row1 IntKind.i8) (winJ T (h * n.ns - n.np + (↑i : Int)) (w * n.ns - n.np) c A (k + 1)))) from (BlkW.rows (rows_to (row1 IntKind.i8) (r := List.map (row1 IntKind.i8) (winJ T (h * n.ns - n.np + (↑i : Int)) (w * n.ns - n.np) c A k) ++ [[i8 (T.d.getD (((h * n.ns + (↑i : Int) - n.np) * T.x + (w * n.ns + (↑k : Int) - n.np)) * T.c + c).toNat 0)]]) (l := winJ T (h * n.ns - n.np + (↑i : Int)) (w * n.ns - n.np) c A k ++ [T.d.getD (((h * n.ns + (↑i : Int) - n.np) * T.x + (w * n.ns + (↑k : Int) - n.np)) * T.c + c).toNat 0]) (m := winJ T (h * n.ns - n.np + (↑i : Int)) (w * n.ns - n.np) c A (k + 1)) (by first | (simp only [List.map_append, List.map_cons, List.map_nil, List.map_set, List.map_replicate, List.map_take, List.map_drop]; done) | rfl | (simp only [List.map_append, List.map_cons, List.map_nil, List.map_set, List.map_replicate, List.map_take, List.map_drop]; rfl)) (show (winJ T (h * n.ns - n.np + (↑i : Int)) (w * n.ns - n.np) c A k ++ [T.d.getD (((h * n.ns + (↑i : Int) - n.np) * T.x + (w * n.ns + (↑k : Int) - n.np)) * T.c + c).toNat 0]) = (winJ T (h * n.ns - n.np + (↑i : Int)) (w * n.ns - n.np) c A (k + 1)) from (by (rw [y1 (by unfold inT; omega), g6])))))) <| .n)
  · have gc0 : ((¬h * n.ns + (↑i : Int) - n.np ≥ 0 ∨ ¬h * n.ns + (↑i : Int) - n.np < T.h) ∨ ¬w * n.ns + (↑k : Int) - n.np ≥ 0) ∨ ¬w * n.ns + (↑k : Int) - n.np < T.x := by first | (simp only [Bool.or_eq_true, Bool.or_eq_false_iff, Bool.and_eq_true, Bool.and_eq_false_iff, Bool.not_eq_true', Bool.not_eq_false', decide_eq_true_eq, decide_eq_false_iff_not, beq_iff_eq, bne_iff_ne, ne_eq, beq_eq_false_iff_ne, bne_eq_false_iff_eq, eqNums, Bool.and_true] at hc0; first | exact hc0 | omega) | simpa using hc0 | (simp at hc0 ⊢; omega) | (apply Classical.byContradiction; intro hn; simp_all [eqNums]; done) | (apply Classical.byContradiction; intro hn; simp [eqNums] at hc0 hn; omega)
    exact VT.run (W := [.r [] [], .br true, .r [] [.n (nO oz1), .n (nO oz2), .n (nO oz3), .n (nO oz4), .n (nO oz5), .n (nO oz6)], .r [] [.op false, .op false, .op false, .op false, .op false, .sel 2, .op false, .op false, .sel 2, .op false, .op false, .op false, .op false, .op false, .sel 2], .br false, .r [] [.n ((↑k : Int) + 1)]]) (G := [.any (rg [(14, 2), (22, 27), (54, 2), (58, 2), (65, 1)]), .weak 13 (i64 (↑(k + 1) : Int)), .blk 900 (Blk.slc 30 1 (List.map (row1 IntKind.i8) (winJ T (h * n.ns - n.np + (↑i : Int)) (w * n.ns - n.np) c A (k + 1)))), .sort]) (by kernel_rfl) (.c oz0 <| .c oz1 <| .c oz2 <| .c oz3 <| .c oz4 <| .c oz5 <| .c oz6 <| .c hc0 <| .c (IntWalk.i64_in ((↑k : Int) + 1) (by omega)) <| .c (Weak.int (k := .i64) (show (((↑k : Int) + 1) : Int) = ((↑(k + 1) : Int)) from (by omega))) <| .c (show BlkW (Blk.slc 30 1 (List.map (row1 IntKind.i8) (winJ T (h * n.ns - n.np + (↑i : Int)) (w * n.ns - n.np) c A k))) (Blk.slc 30 1 (List.map (row1 IntKind.i8) (winJ T (h * n.ns - n.np + (↑i : Int)) (w * n.ns - n.np) c A (k + 1)))) from (BlkW.rows (rows_to (row1 IntKind.i8) (r := List.map (row1 IntKind.i8) (winJ T (h * n.ns - n.np + (↑i : Int)) (w * n.ns - n.np) c A k)) (l := winJ T (h * n.ns - n.np + (↑i : Int)) (w * n.ns - n.np) c A k) (m := winJ T (h * n.ns - n.np + (↑i : Int)) (w * n.ns - n.np) c A (k + 1)) rfl (show (winJ T (h * n.ns - n.np + (↑i : Int)) (w * n.ns - n.np) c A k) = (winJ T (h * n.ns - n.np + (↑i : Int)) (w * n.ns - n.np) c A (k + 1)) from (by (rw [y2 (by unfold inT; omega)])))))) <| .n)
set_option maxRecDepth 100000 in
set_option maxHeartbeats 2000000 in
theorem win_j_e (T : Ten) (n : Nod) (h w c : Int) (i : Nat) (A : List Int) (ok : WnOk T n h w c) (hi : i < n.nk.toNat) (hA : A.length ≤ 25) : VT Try.prog (fnC Try.f197 [1, 1, 0, 1, 0, 0, 1, 0, 0, 1, 0, 0]) (win_j_I T n h w c i A (n.nk.toNat)) (.exit 2) (win_j_Z T n h w c i A) := by
  obtain ⟨r, k1, k5, s1, s4, p0, p4, h0, h1, w0, w1, c0, c1⟩ := id ok
  exact VT.run (W := [.r [] [], .br false]) (G := [.any (rg [(22, 4)]), .sort]) (by kernel_rfl) (.c (decide_eq_false (p := ((↑n.nk.toNat : Int) < n.nk)) (by omega)) <| .n)
theorem win_j (T : Ten) (n : Nod) (h w c : Int) (i : Nat) (A : List Int) (ok : WnOk T n h w c) (hi : i < n.nk.toNat) (hA : A.length ≤ 25) : VT Try.prog (fnC Try.f197 [1, 1, 0, 1, 0, 0, 1, 0, 0, 1, 0]) (win_j_I T n h w c i A 0) (.exit 2) (win_j_Z T n h w c i A) :=
  VT.loop (fun k => win_j_I T n h w c i A k) (n.nk.toNat) (fun k hk => win_j_s T n h w c i A ok hi hA k hk) (win_j_e T n h w c i A ok hi hA) (by intro h; cases h)

noncomputable def win_i_I (T : Ten) (n : Nod) (h w c : Int) (k : Nat) : VS := stt 75 [(2, i64 h), (3, i64 w), (4, i64 c), (5, .ptr 5 0 0), (6, .ptr 6 0 0), (11, .own 900), (12, i64 k)] [(5, .var [i64 T.h, i64 T.x, i64 T.c, ints .i8 T.d]), (6, .var (nodC n)), (900, .slc 30 1 ((winI T n.nk.toNat (h * n.ns - n.np) (w * n.ns - n.np) c k).map (row1 .i8)))]
noncomputable def win_i_Z (T : Ten) (n : Nod) (h w c : Int) : VS := win_i_I T n h w c (n.nk.toNat)
set_option maxRecDepth 100000 in
set_option maxHeartbeats 2000000 in
theorem win_i_s (T : Ten) (n : Nod) (h w c : Int) (ok : WnOk T n h w c) (k : Nat) (hk : k < n.nk.toNat) : VT Try.prog (fnC Try.f197 [1, 1, 0, 1, 0, 0]) (win_i_I T n h w c k) .normal (win_i_I T n h w c (k + 1)) := by
  obtain ⟨r, k1, k5, s1, s4, p0, p4, h0, h1, w0, w1, c0, c1⟩ := id ok
  have g1 := winI_len T n.nk.toNat (h * n.ns - n.np) (w * n.ns - n.np) c k
  have g2 : k * n.nk.toNat ≤ 5 * 5 := Nat.mul_le_mul (by omega) (by omega)
  have oz3 := @win_j (T) (n) (h) (w) (c) (k) (winI T n.nk.toNat (h * n.ns - n.np) (w * n.ns - n.np) c k) ok hk (by omega)
  exact VT.run (W := [.r [] [], .br true, .r [] [], .code [.any (rg [(16, 4)]), .weak 13 (i64 (↑0 : Int)), .blk 900 (Blk.slc 30 1 (List.map (row1 IntKind.i8) (winJ T (h * n.ns - n.np + (↑k : Int)) (w * n.ns - n.np) c (winI T n.nk.toNat (h * n.ns - n.np) (w * n.ns - n.np) c k) 0))), .sort] (Exit.exit 2) (zO oz3), .r [] [.n ((↑k : Int) + 1)]]) (G := [.any [13, 20, 21], .weak 12 (i64 (↑(k + 1) : Int)), .blk 900 (Blk.slc 30 1 (List.map (row1 IntKind.i8) (winI T n.nk.toNat (h * n.ns - n.np) (w * n.ns - n.np) c (k + 1)))), .sort]) (by kernel_rfl) (.c (decide_eq_true (p := ((↑k : Int) < n.nk)) (by omega)) <| .c (Weak.int (k := .i64) (show ((0) : Int) = ((↑0 : Int)) from (by omega))) <| .c (show BlkW (Blk.slc 30 1 (List.map (row1 IntKind.i8) (winI T n.nk.toNat (h * n.ns - n.np) (w * n.ns - n.np) c k))) (Blk.slc 30 1 (List.map (row1 IntKind.i8) (winJ T (h * n.ns - n.np + (↑k : Int)) (w * n.ns - n.np) c (winI T n.nk.toNat (h * n.ns - n.np) (w * n.ns - n.np) c k) 0))) from (BlkW.rows (rows_to (row1 IntKind.i8) (r := List.map (row1 IntKind.i8) (winI T n.nk.toNat (h * n.ns - n.np) (w * n.ns - n.np) c k)) (l := winI T n.nk.toNat (h * n.ns - n.np) (w * n.ns - n.np) c k) (m := winJ T (h * n.ns - n.np + (↑k : Int)) (w * n.ns - n.np) c (winI T n.nk.toNat (h * n.ns - n.np) (w * n.ns - n.np) c k) 0) rfl (show (winI T n.nk.toNat (h * n.ns - n.np) (w * n.ns - n.np) c k) = (winJ T (h * n.ns - n.np + (↑k : Int)) (w * n.ns - n.np) c (winI T n.nk.toNat (h * n.ns - n.np) (w * n.ns - n.np) c k) 0) from (by rfl))))) <| .c oz3 <| .c (IntWalk.i64_in ((↑k : Int) + 1) (by omega)) <| .c (Weak.int (k := .i64) (show (((↑k : Int) + 1) : Int) = ((↑(k + 1) : Int)) from (by omega))) <| .c (show BlkW (Blk.slc 30 1 (List.map (row1 IntKind.i8) (winJ T (h * n.ns - n.np + (↑k : Int)) (w * n.ns - n.np) c (winI T n.nk.toNat (h * n.ns - n.np) (w * n.ns - n.np) c k) n.nk.toNat))) (Blk.slc 30 1 (List.map (row1 IntKind.i8) (winI T n.nk.toNat (h * n.ns - n.np) (w * n.ns - n.np) c (k + 1)))) from (BlkW.rows (rows_to (row1 IntKind.i8) (r := List.map (row1 IntKind.i8) (winJ T (h * n.ns - n.np + (↑k : Int)) (w * n.ns - n.np) c (winI T n.nk.toNat (h * n.ns - n.np) (w * n.ns - n.np) c k) n.nk.toNat)) (l := winJ T (h * n.ns - n.np + (↑k : Int)) (w * n.ns - n.np) c (winI T n.nk.toNat (h * n.ns - n.np) (w * n.ns - n.np) c k) n.nk.toNat) (m := winI T n.nk.toNat (h * n.ns - n.np) (w * n.ns - n.np) c (k + 1)) rfl (show (winJ T (h * n.ns - n.np + (↑k : Int)) (w * n.ns - n.np) c (winI T n.nk.toNat (h * n.ns - n.np) (w * n.ns - n.np) c k) n.nk.toNat) = (winI T n.nk.toNat (h * n.ns - n.np) (w * n.ns - n.np) c (k + 1)) from (by (rw [winI])))))) <| .n)
set_option maxRecDepth 100000 in
set_option maxHeartbeats 2000000 in
theorem win_i_e (T : Ten) (n : Nod) (h w c : Int) (ok : WnOk T n h w c) : VT Try.prog (fnC Try.f197 [1, 1, 0, 1, 0, 0]) (win_i_I T n h w c (n.nk.toNat)) (.exit 0) (win_i_Z T n h w c) := by
  obtain ⟨r, k1, k5, s1, s4, p0, p4, h0, h1, w0, w1, c0, c1⟩ := id ok
  exact VT.run (W := [.r [] [], .br false]) (G := [.any (rg [(16, 4)]), .sort]) (by kernel_rfl) (.c (decide_eq_false (p := ((↑n.nk.toNat : Int) < n.nk)) (by omega)) <| .n)
theorem win_i (T : Ten) (n : Nod) (h w c : Int) (ok : WnOk T n h w c) : VT Try.prog (fnC Try.f197 [1, 1, 0, 1, 0]) (win_i_I T n h w c 0) (.exit 0) (win_i_Z T n h w c) :=
  VT.loop (fun k => win_i_I T n h w c k) (n.nk.toNat) (fun k hk => win_i_s T n h w c ok k hk) (win_i_e T n h w c ok) (by intro h; cases h)

set_option maxRecDepth 100000 in
set_option maxHeartbeats 2000000 in
theorem window_v (T : Ten) (n : Nod) (h w c : Int) (ok : WnOk T n h w c) : VC Try.prog 197 ([ten .i8 T, nod n, i64 h, i64 w, i64 c]) (ints .i8 (winL T n h w c)) := by
  have oz1 := @win_i (T) (n) (h) (w) (c) ok
  exact VC.run (fn := Try.f197) (W := [.r [] [], .r [] [], .r [] [], .code [.any [0, 1, 10], .weak 12 (i64 (↑0 : Int)), .nils 11 900 30 1, .sort] (Exit.exit 0) (zO oz1), .r [] []]) Try.func197 (by kernel_rfl) (.c (Weak.int (k := .i64) (show ((0) : Int) = ((↑0 : Int)) from (by omega))) <| .c oz1 <| .n)
/-- The nearest one to a quotient. -/
def nearP (a m : Int) : Int := if m - a % m ≤ a % m then a / m + 1 else a / m
def nearE (s m : Int) : Int := if m < 1 then 0 else if s < 0 then -(nearP (-s) m) else nearP s m
theorem nearP_bd {a m : Int} (h0 : 0 ≤ a) (h1 : a ≤ 1000000) (hm : 1 ≤ m) : 0 ≤ a / m ∧ a / m ≤ 1000000 ∧ 0 ≤ a % m ∧ a % m < m := by
  have q1 := Int.ediv_nonneg h0 (show 0 ≤ m by omega)
  have q2 := Int.ediv_le_self m h0
  have q3 := Int.emod_nonneg a (show m ≠ 0 by omega)
  have q4 := Int.emod_lt_of_pos a (show 0 < m by omega)
  omega
set_option maxRecDepth 100000 in
set_option maxHeartbeats 2000000 in
theorem near_v (s m : Int) (h0 : -1000000 ≤ s) (h1 : s ≤ 1000000) (m1 : m ≤ 1000000) : VC Try.prog 220 ([i64 s, i64 m]) (i64 (nearE s m)) := by
  have q1 := fun (a : 0 ≤ s) (b : 1 ≤ m) => nearP_bd a h1 b
  have q2 := fun (a : 0 ≤ -s) (b : 1 ≤ m) => nearP_bd a (by omega) b
  rw [show -s = 0 - s by omega] at q2
  rcases Bool.eq_false_or_eq_true (decide (m < 1)) with hc0 | hc0
  · have gc0 := of_decide_eq_true hc0
    exact (VC.run (fn := Try.f220) (W := [.r [] [], .r [] [], .br true, .r [] []]) (r := i64 0) Try.func220 (by kernel_rfl) (.c hc0 <| .n)).weak (WeakL.refl _) (Weak.int (show ((0) : Int) = (nearE s m) from (by (unfold nearE; rw [if_pos (by omega)]))))
  · have gc0 := of_decide_eq_false hc0
    rcases Bool.eq_false_or_eq_true (decide (s < 0)) with hc1 | hc1
    · have gc1 := of_decide_eq_true hc1
      have oz2 := (IntWalk.i64_in (0 - s) (by omega))
      have oz3 := (show m ≠ 0 by omega)
      have oz4 := (show IntKind.i64.wrap ((0 - s).tdiv m) = (0 - s) / m from (Eq.trans (congrArg _ (Int.tdiv_eq_ediv_of_nonneg (by omega))) (by exact IntWalk.i64_in _ (by omega))))
      have oz6 := (show (0 - s).tmod m = (0 - s) % m from (Int.tmod_eq_emod_of_nonneg (by omega)))
      have oz9 := (IntWalk.i64_in (m - (0 - s) % m) (by omega))
      rcases Bool.eq_false_or_eq_true (decide ((0 - s) % m ≥ m - (0 - s) % m)) with hc2 | hc2
      · have gc2 := of_decide_eq_true hc2
        exact (VC.run (fn := Try.f220) (W := [.r [] [], .r [] [], .br false, .r [] [], .r [] [], .br true, .r [] [.n (nO oz2)], .r [] [.n ((0 - s) / m)], .r [] [.n ((0 - s) % m), .n ((0 - s) % m), .n (nO oz9)], .br true, .r [] [.n ((0 - s) / m + 1)], .r [] [], .br true, .r [] [.n (0 - ((0 - s) / m + 1))]]) (r := i64 (0 - ((0 - s) / m + 1))) Try.func220 (by kernel_rfl) (.c hc0 <| .c hc1 <| .c oz2 <| .c oz3 <| .c oz4 <| .c oz3 <| .c oz6 <| .c oz3 <| .c oz6 <| .c oz9 <| .c hc2 <| .c (IntWalk.i64_in ((0 - s) / m + 1) (by omega)) <| .c hc1 <| .c (IntWalk.i64_in (0 - ((0 - s) / m + 1)) (by omega)) <| .n)).weak (WeakL.refl _) (Weak.int (show ((0 - ((0 - s) / m + 1)) : Int) = (nearE s m) from (by (unfold nearE nearP; rw [if_neg (by omega), if_pos (by omega), show -s = 0 - s by omega, if_pos (by omega)]; omega))))
      · have gc2 := of_decide_eq_false hc2
        exact (VC.run (fn := Try.f220) (W := [.r [] [], .r [] [], .br false, .r [] [], .r [] [], .br true, .r [] [.n (nO oz2)], .r [] [.n ((0 - s) / m)], .r [] [.n ((0 - s) % m), .n ((0 - s) % m), .n (nO oz9)], .br false, .r [] [], .br true, .r [] [.n (0 - (0 - s) / m)]]) (r := i64 (0 - (0 - s) / m)) Try.func220 (by kernel_rfl) (.c hc0 <| .c hc1 <| .c oz2 <| .c oz3 <| .c oz4 <| .c oz3 <| .c oz6 <| .c oz3 <| .c oz6 <| .c oz9 <| .c hc2 <| .c hc1 <| .c (IntWalk.i64_in (0 - (0 - s) / m) (by omega)) <| .n)).weak (WeakL.refl _) (Weak.int (show ((0 - (0 - s) / m) : Int) = (nearE s m) from (by (unfold nearE nearP; rw [if_neg (by omega), if_pos (by omega), show -s = 0 - s by omega, if_neg (by omega)]; omega))))
    · have gc1 := of_decide_eq_false hc1
      have oz2 := (show m ≠ 0 by omega)
      have oz3 := (show IntKind.i64.wrap (s.tdiv m) = s / m from (Eq.trans (congrArg _ (Int.tdiv_eq_ediv_of_nonneg (by omega))) (by exact IntWalk.i64_in _ (by omega))))
      have oz5 := (show s.tmod m = s % m from (Int.tmod_eq_emod_of_nonneg (by omega)))
      have oz8 := (IntWalk.i64_in (m - s % m) (by omega))
      rcases Bool.eq_false_or_eq_true (decide (s % m ≥ m - s % m)) with hc2 | hc2
      · have gc2 := of_decide_eq_true hc2
        exact (VC.run (fn := Try.f220) (W := [.r [] [], .r [] [], .br false, .r [] [], .r [] [], .br false, .r [] [.n (s / m)], .r [] [.n (s % m), .n (s % m), .n (nO oz8)], .br true, .r [] [.n (s / m + 1)], .r [] [], .br false, .r [] []]) (r := i64 (s / m + 1)) Try.func220 (by kernel_rfl) (.c hc0 <| .c hc1 <| .c oz2 <| .c oz3 <| .c oz2 <| .c oz5 <| .c oz2 <| .c oz5 <| .c oz8 <| .c hc2 <| .c (IntWalk.i64_in (s / m + 1) (by omega)) <| .c hc1 <| .n)).weak (WeakL.refl _) (Weak.int (show ((s / m + 1) : Int) = (nearE s m) from (by (unfold nearE nearP; rw [if_neg (by omega), if_neg (by omega), if_pos (by omega)]))))
      · have gc2 := of_decide_eq_false hc2
        exact (VC.run (fn := Try.f220) (W := [.r [] [], .r [] [], .br false, .r [] [], .r [] [], .br false, .r [] [.n (s / m)], .r [] [.n (s % m), .n (s % m), .n (nO oz8)], .br false, .r [] [], .br false, .r [] []]) (r := i64 (s / m)) Try.func220 (by kernel_rfl) (.c hc0 <| .c hc1 <| .c oz2 <| .c oz3 <| .c oz2 <| .c oz5 <| .c oz2 <| .c oz5 <| .c oz8 <| .c hc2 <| .c hc1 <| .n)).weak (WeakL.refl _) (Weak.int (show ((s / m) : Int) = (nearE s m) from (by (unfold nearE nearP; rw [if_neg (by omega), if_neg (by omega), if_neg (by omega)]))))
def sumL (l : List Int) (k : Nat) : Int := sumN (fun i => l.getD i 0) k
/-- The mean of numbers. -/
def meanE (l : List Int) : Int := IntKind.i8.wrap (nearE (sumL l l.length) l.length)
theorem sumL_bd {l : List Int} (h : ∀ v ∈ l, In8 v) (k : Nat) : -(k * 128) ≤ sumL l k ∧ sumL l k ≤ k * 128 := sumN_bd (B := 128) k fun i _ => by have := gt8 h i; omega
noncomputable def mean_l_I (l : List Int) (k : Nat) : VS := stt 23 [(0, ints .i8 l), (3, i64 (sumL l k)), (4, i64 k)] []
noncomputable def mean_l_Z (l : List Int) : VS := mean_l_I l (l.length)
set_option maxRecDepth 100000 in
set_option maxHeartbeats 2000000 in
theorem mean_l_s (l : List Int) (hl : l.length ≤ 1000) (h : ∀ v ∈ l, In8 v) (k : Nat) (hk : k < l.length) : VT Try.prog (fnC Try.f198 [1, 1, 0, 1, 0, 0]) (mean_l_I l k) .normal (mean_l_I l (k + 1)) := by
  have q1 := sumL_bd h k
  have q2 := gt8 h k
  have q3 : sumL l (k + 1) = sumL l k + l.getD k 0 := rfl
  exact VT.run (W := [.r [] [], .br true, .r [] [.row [i8 (l.getD k 0)], .n (l.getD k 0), .n (sumL l k + l.getD k 0)], .r [] [.n ((↑k : Int) + 1)]]) (G := [.any (rg [(5, 13)]), .weak 3 (i64 (sumL l (k + 1))), .weak 4 (i64 (↑(k + 1) : Int)), .sort]) (by kernel_rfl) (.c (show decide ((↑k : Int) < (↑(List.map (row1 IntKind.i8) l).length : Int)) = true by (simp; omega)) <| .c (show 0 ≤ (↑k : Int) by omega) <| .c (map_at (row1 IntKind.i8) (0) (l := l) (i := k) hk) <| .c (IntWalk.i64_in (l.getD k 0) (by omega)) <| .c (IntWalk.i64_in (sumL l k + l.getD k 0) (by omega)) <| .c (IntWalk.i64_in ((↑k : Int) + 1) (by omega)) <| .c (Weak.int (k := .i64) (show ((sumL l k + l.getD k 0) : Int) = (sumL l (k + 1)) from (by omega))) <| .c (Weak.int (k := .i64) (show (((↑k : Int) + 1) : Int) = ((↑(k + 1) : Int)) from (by omega))) <| .n)
set_option maxRecDepth 100000 in
set_option maxHeartbeats 2000000 in
theorem mean_l_e (l : List Int) (hl : l.length ≤ 1000) (h : ∀ v ∈ l, In8 v) : VT Try.prog (fnC Try.f198 [1, 1, 0, 1, 0, 0]) (mean_l_I l (l.length)) (.exit 0) (mean_l_Z l) := by
  exact VT.run (W := [.r [] [], .br false]) (G := [.any [5, 6, 7, 8], .sort]) (by kernel_rfl) (.c (show decide ((↑l.length : Int) < (↑(List.map (row1 IntKind.i8) l).length : Int)) = false by (simp; done)) <| .n)
theorem mean_l (l : List Int) (hl : l.length ≤ 1000) (h : ∀ v ∈ l, In8 v) : VT Try.prog (fnC Try.f198 [1, 1, 0, 1, 0]) (mean_l_I l 0) (.exit 0) (mean_l_Z l) :=
  VT.loop (fun k => mean_l_I l k) (l.length) (fun k hk => mean_l_s l hl h k hk) (mean_l_e l hl h) (by intro h; cases h)

set_option maxRecDepth 100000 in
set_option maxHeartbeats 2000000 in
theorem mean_v (l : List Int) (hl : l.length ≤ 1000) (h : ∀ v ∈ l, In8 v) : VC Try.prog 198 ([ints .i8 l]) (i8 (meanE l)) := by
  have q1 := sumL_bd h l.length
  have oz2 := @mean_l (l) hl h
  have oz3 := @near_v (sumL l l.length) ((↑(List.map (row1 IntKind.i8) l).length : Int)) (by omega) (by omega) (by (simp; omega))
  exact (VC.run (fn := Try.f198) (W := [.r [] [], .r [] [], .r [] [], .code [.any [2], .weak 3 (i64 (sumL l 0)), .weak 4 (i64 (↑0 : Int)), .sort] (Exit.exit 0) (zO oz2), .r [] [.callr (rO oz3), .w]]) (r := i8 (IntKind.i8.wrap (nearE (sumL l l.length) (↑(List.map (row1 IntKind.i8) l).length : Int)))) Try.func198 (by kernel_rfl) (.c (Weak.int (k := .i64) (show ((0) : Int) = (sumL l 0) from (by rfl))) <| .c (Weak.int (k := .i64) (show ((0) : Int) = ((↑0 : Int)) from (by omega))) <| .c oz2 <| .c oz3 <| .n)).weak (WeakL.refl _) (Weak.int (show ((IntKind.i8.wrap (nearE (sumL l l.length) (↑(List.map (row1 IntKind.i8) l).length : Int))) : Int) = (meanE l) from (by (unfold meanE; rw [List.length_map]))))
/-- The number at a place of what is pooled. -/
def poolF (T : Ten) (n : Nod) (s : Shp) (m : Bool) (i : Nat) : Int :=
  if m = true then reachHi (winL T n ((i : Int) / s.c / s.x) ((i : Int) / s.c % s.x) ((i : Int) % s.c)) (winL T n ((i : Int) / s.c / s.x) ((i : Int) / s.c % s.x) ((i : Int) % s.c)).length
  else meanE (winL T n ((i : Int) / s.c / s.x) ((i : Int) / s.c % s.x) ((i : Int) % s.c))
abbrev plS (T : Ten) (n : Nod) : Shp := (slideE ⟨T.h, T.x, T.c⟩ n.nk n.ns n.np T.c).1
def poolL (T : Ten) (n : Nod) (m : Bool) (k : Nat) : List Int := (List.range k).map (poolF T n (plS T n) m)
theorem poolL_succ (T : Ten) (n : Nod) (m : Bool) (k : Nat) : poolL T n m (k + 1) = poolL T n m k ++ [poolF T n (plS T n) m k] := by simp [poolL, List.range_succ]
theorem poolL_len (T : Ten) (n : Nod) (m : Bool) (k : Nat) : (poolL T n m k).length = k := by simp [poolL]
structure PlOk (T : Ten) (n : Nod) : Prop where
  ok : T.Ok
  okn : n.Ok
  r : tenRight T = true
  e : (slideE ⟨T.h, T.x, T.c⟩ n.nk n.ns n.np T.c).2 = 0
structure PlN (T : Ten) (n : Nod) : Prop where
  r : TRt T
  k1 : 1 ≤ n.nk
  k5 : n.nk ≤ 5
  s1 : 1 ≤ n.ns
  s4 : n.ns ≤ 4
  p0 : 0 ≤ n.np
  p4 : n.np ≤ 4
  pk : n.np < n.nk
  hk : n.nk ≤ T.h + 2 * n.np
  xk : n.nk ≤ T.x + 2 * n.np
  sh : (plS T n).h = (T.h + 2 * n.np - n.nk) / n.ns + 1
  sx : (plS T n).x = (T.x + 2 * n.np - n.nk) / n.ns + 1
  sc : (plS T n).c = T.c
  h1 : 1 ≤ (plS T n).h
  h2 : (plS T n).h ≤ 16
  x1 : 1 ≤ (plS T n).x
  x2 : (plS T n).x ≤ 16
  en : elems (plS T n).h (plS T n).x (plS T n).c = (plS T n).h * (plS T n).x * (plS T n).c
  el : (plS T n).h * (plS T n).x * (plS T n).c ≤ 1024
theorem PlOk.n {T : Ten} {n : Nod} (h : PlOk T n) : PlN T n := by
  obtain ⟨a1, a2, a3, a4, a5, a6, a7, a8, a9, a10, a11, a12⟩ := slideE_ok h.e
  have c := elems_ok a12
  have r := tenRight.rt h.r
  dsimp only at *
  have e1 : (plS T n).h = (T.h + 2 * n.np - n.nk) / n.ns + 1 := by unfold plS; rw [a11]
  have e2 : (plS T n).x = (T.x + 2 * n.np - n.nk) / n.ns + 1 := by unfold plS; rw [a11]
  have e3 : (plS T n).c = T.c := by unfold plS; rw [a11]
  rw [← e1, ← e2, ← e3] at c
  exact ⟨r, a2, a3, a4, a5, a6, a7, a8, by omega, by omega, e1, e2, e3, by omega, by omega, by omega, by omega, by omega, by omega⟩
/-- A place by its number. -/
theorem at_num {i h x c : Int} (i0 : 0 ≤ i) (i1 : i < h * x * c) (hx : 1 ≤ x) (hc : 1 ≤ c) : 0 ≤ i / c / x ∧ i / c / x < h ∧ 0 ≤ i / c % x ∧ i / c % x < x ∧ 0 ≤ i % c ∧ i % c < c ∧ 0 ≤ i / c ∧ i / c ≤ i := by
  have q1 := Int.ediv_nonneg i0 (show 0 ≤ c by omega)
  have q2 := Int.ediv_nonneg q1 (show 0 ≤ x by omega)
  have q3 : i / c < h * x := Int.ediv_lt_of_lt_mul (by omega) i1
  have q4 : i / c / x < h := Int.ediv_lt_of_lt_mul (by omega) q3
  exact ⟨q2, q4, Int.emod_nonneg _ (by omega), Int.emod_lt_of_pos _ (by omega), Int.emod_nonneg _ (by omega), Int.emod_lt_of_pos _ (by omega), q1, Int.ediv_le_self c i0⟩
noncomputable def pool_l_I (T : Ten) (n : Nod) (m : Bool) (k : Nat) : VS := stt 87 [(2, bv m), (3, .ptr 3 0 0), (4, .ptr 4 0 0), (6, .ptr 6 0 0), (8, .ptr 8 0 0), (10, .ptr 10 0 0), (11, i64 k)] [(3, .var [i64 T.h, i64 T.x, i64 T.c, ints .i8 T.d]), (4, .var (nodC n)), (6, .var [i64 0, i64 0, i64 0, nilv]), (8, .var [i64 (plS T n).h, i64 (plS T n).x, i64 (plS T n).c]), (10, .var [i64 (plS T n).h, i64 (plS T n).x, i64 (plS T n).c, .own 900]), (900, .slc 30 1 ((poolL T n m k).map (row1 .i8)))]
noncomputable def pool_l_Z (T : Ten) (n : Nod) (m : Bool) : VS := pool_l_I T n m ((elems (plS T n).h (plS T n).x (plS T n).c).toNat)
set_option maxRecDepth 100000 in
set_option maxHeartbeats 2000000 in
theorem pool_l_s (T : Ten) (n : Nod) (m : Bool) (ok : PlOk T n) (k : Nat) (hk : k < (elems (plS T n).h (plS T n).x (plS T n).c).toNat) : VT Try.prog (fnC Try.f133 [1, 1, 1, 1, 1, 0, 1, 0, 0]) (pool_l_I T n m k) .normal (pool_l_I T n m (k + 1)) := by
  obtain ⟨r, k1, k5, s1, s4, p0, p4, pk, hk', xk, sh, sx, sc, h1, h2, x1, x2, en, el⟩ := ok.n
  have g1 := r.c1
  have gz := r.c2
  have g2 := at_num (i := (k : Int)) (h := (plS T n).h) (x := (plS T n).x) (c := (plS T n).c) (by omega) (by omega) x1 (by omega)
  have g3 : WnOk T n ((k : Int) / (plS T n).c / (plS T n).x) ((k : Int) / (plS T n).c % (plS T n).x) ((k : Int) % (plS T n).c) := ⟨r, k1, k5, s1, s4, p0, p4, by omega, by omega, by omega, by omega, by omega, by omega⟩
  have g4 := winI_8 ok.ok n.nk.toNat ((k : Int) / (plS T n).c / (plS T n).x * n.ns - n.np) ((k : Int) / (plS T n).c % (plS T n).x * n.ns - n.np) ((k : Int) % (plS T n).c) n.nk.toNat
  have g5 := winI_len T n.nk.toNat ((k : Int) / (plS T n).c / (plS T n).x * n.ns - n.np) ((k : Int) / (plS T n).c % (plS T n).x * n.ns - n.np) ((k : Int) % (plS T n).c) n.nk.toNat
  have g6 : n.nk.toNat * n.nk.toNat ≤ 5 * 5 := Nat.mul_le_mul (by omega) (by omega)
  have g7 := poolL_len T n m k
  have g8 : (winL T n ((k : Int) / (plS T n).c / (plS T n).x) ((k : Int) / (plS T n).c % (plS T n).x) ((k : Int) % (plS T n).c)).length ≤ 25 := Nat.le_trans g5 g6
  have oz0 := @refElems_v ((plS T n).h) ((plS T n).x) ((plS T n).c) (by omega) (by omega) (by omega)
  have oz1 := (decide_eq_true (p := ((↑k : Int) < elems (plS T n).h (plS T n).x (plS T n).c)) (by omega))
  have oz2 := (show (plS T n).c ≠ 0 by omega)
  have oz3 := (show IntKind.i64.wrap ((↑k : Int).tdiv (plS T n).c) = (↑k : Int) / (plS T n).c from (Eq.trans (congrArg _ (Int.tdiv_eq_ediv_of_nonneg (by omega))) (by exact IntWalk.i64_in _ (by omega))))
  have oz4 := (show (plS T n).x ≠ 0 by omega)
  have oz5 := (show IntKind.i64.wrap (((↑k : Int) / (plS T n).c).tdiv (plS T n).x) = (↑k : Int) / (plS T n).c / (plS T n).x from (Eq.trans (congrArg _ (Int.tdiv_eq_ediv_of_nonneg (by omega))) (by exact IntWalk.i64_in _ (by omega))))
  have oz9 := (show ((↑k : Int) / (plS T n).c).tmod (plS T n).x = (↑k : Int) / (plS T n).c % (plS T n).x from (Int.tmod_eq_emod_of_nonneg (by omega)))
  have oz11 := (show (↑k : Int).tmod (plS T n).c = (↑k : Int) % (plS T n).c from (Int.tmod_eq_emod_of_nonneg (by omega)))
  have oz12 := @window_v (T) (n) ((↑k : Int) / (plS T n).c / (plS T n).x) ((↑k : Int) / (plS T n).c % (plS T n).x) ((↑k : Int) % (plS T n).c) g3
  rcases Bool.eq_false_or_eq_true (m) with hc0 | hc0
  · have gc0 : m = true := by first | exact hc0 | exact of_decide_eq_true hc0 | exact of_decide_eq_false hc0 | simpa [eqNums] using hc0 | (simp [eqNums] at hc0 ⊢; first | done | assumption | omega)
    have oz14 := @reach_v (winL T n ((↑k : Int) / (plS T n).c / (plS T n).x) ((↑k : Int) / (plS T n).c % (plS T n).x) ((↑k : Int) % (plS T n).c)) (by omega)
    exact VT.run (W := [.r [] [.callr (rO oz0)], .br true, .r [] [.n ((↑k : Int) / (plS T n).c), .n ((↑k : Int) / (plS T n).c / (plS T n).x), .n ((↑k : Int) / (plS T n).c), .n ((↑k : Int) / (plS T n).c % (plS T n).x), .n ((↑k : Int) % (plS T n).c), .callr (rO oz12)], .r [] [], .br true, .r [] [.callr (rO oz14)], .r [] [], .r [] [.n ((↑k : Int) + 1)]]) (G := [.any (rg [(12, 3), (40, 39)]), .drop [76], .ren 77 900, .weak 11 (i64 (↑(k + 1) : Int)), .blk 900 (Blk.slc 30 1 (List.map (row1 IntKind.i8) (poolL T n m (k + 1)))), .sort]) (by kernel_rfl) (.c oz0 <| .c oz1 <| .c oz2 <| .c oz3 <| .c oz4 <| .c oz5 <| .c oz2 <| .c oz3 <| .c oz4 <| .c oz9 <| .c oz2 <| .c oz11 <| .c oz12 <| .c hc0 <| .c oz14 <| .c (show ((List.map (row1 IntKind.i8) (poolL T n m k)).length + 1) * 1 ≤ 140737488355328 by (simp; omega)) <| .c (show (List.map (row1 IntKind.i8) (poolL T n m k)).length + 1 ≤ 9223372036854775807 by (simp; omega)) <| .c (IntWalk.i64_in ((↑k : Int) + 1) (by omega)) <| .c (Weak.int (k := .i64) (show (((↑k : Int) + 1) : Int) = ((↑(k + 1) : Int)) from (by omega))) <| .c (show BlkW (Blk.slc 30 1 (List.map (row1 IntKind.i8) (poolL T n m k) ++ [[i8 (reachHi (winL T n ((↑k : Int) / (plS T n).c / (plS T n).x) ((↑k : Int) / (plS T n).c % (plS T n).x) ((↑k : Int) % (plS T n).c)) (winL T n ((↑k : Int) / (plS T n).c / (plS T n).x) ((↑k : Int) / (plS T n).c % (plS T n).x) ((↑k : Int) % (plS T n).c)).length)]])) (Blk.slc 30 1 (List.map (row1 IntKind.i8) (poolL T n m (k + 1)))) from (BlkW.rows (rows_to (row1 IntKind.i8) (r := List.map (row1 IntKind.i8) (poolL T n m k) ++ [[i8 (reachHi (winL T n ((↑k : Int) / (plS T n).c / (plS T n).x) ((↑k : Int) / (plS T n).c % (plS T n).x) ((↑k : Int) % (plS T n).c)) (winL T n ((↑k : Int) / (plS T n).c / (plS T n).x) ((↑k : Int) / (plS T n).c % (plS T n).x) ((↑k : Int) % (plS T n).c)).length)]]) (l := poolL T n m k ++ [reachHi (winL T n ((↑k : Int) / (plS T n).c / (plS T n).x) ((↑k : Int) / (plS T n).c % (plS T n).x) ((↑k : Int) % (plS T n).c)) (winL T n ((↑k : Int) / (plS T n).c / (plS T n).x) ((↑k : Int) / (plS T n).c % (plS T n).x) ((↑k : Int) % (plS T n).c)).length]) (m := poolL T n m (k + 1)) (by first | (simp only [List.map_append, List.map_cons, List.map_nil, List.map_set, List.map_replicate, List.map_take, List.map_drop]; done) | rfl | (simp only [List.map_append, List.map_cons, List.map_nil, List.map_set, List.map_replicate, List.map_take, List.map_drop]; rfl)) (show (poolL T n m k ++ [reachHi (winL T n ((↑k : Int) / (plS T n).c / (plS T n).x) ((↑k : Int) / (plS T n).c % (plS T n).x) ((↑k : Int) % (plS T n).c)) (winL T n ((↑k : Int) / (plS T n).c / (plS T n).x) ((↑k : Int) / (plS T n).c % (plS T n).x) ((↑k : Int) % (plS T n).c)).length]) = (poolL T n m (k + 1)) from (by (rw [poolL_succ, poolF, if_pos (by assumption)])))))) <| .n)
  · have gc0 : m = false := by first | exact hc0 | exact of_decide_eq_true hc0 | exact of_decide_eq_false hc0 | simpa [eqNums] using hc0 | (simp [eqNums] at hc0 ⊢; first | done | assumption | omega)
    have oz14 := @mean_v (winL T n ((↑k : Int) / (plS T n).c / (plS T n).x) ((↑k : Int) / (plS T n).c % (plS T n).x) ((↑k : Int) % (plS T n).c)) (by omega) g4
    exact VT.run (W := [.r [] [.callr (rO oz0)], .br true, .r [] [.n ((↑k : Int) / (plS T n).c), .n ((↑k : Int) / (plS T n).c / (plS T n).x), .n ((↑k : Int) / (plS T n).c), .n ((↑k : Int) / (plS T n).c % (plS T n).x), .n ((↑k : Int) % (plS T n).c), .callr (rO oz12)], .r [] [], .br false, .r [] [.callr (rO oz14)], .r [] [.n ((↑k : Int) + 1)]]) (G := [.any (rg [(12, 1), (40, 28), (79, 7)]), .drop [83], .ren 84 900, .weak 11 (i64 (↑(k + 1) : Int)), .blk 900 (Blk.slc 30 1 (List.map (row1 IntKind.i8) (poolL T n m (k + 1)))), .sort]) (by kernel_rfl) (.c oz0 <| .c oz1 <| .c oz2 <| .c oz3 <| .c oz4 <| .c oz5 <| .c oz2 <| .c oz3 <| .c oz4 <| .c oz9 <| .c oz2 <| .c oz11 <| .c oz12 <| .c hc0 <| .c oz14 <| .c (show ((List.map (row1 IntKind.i8) (poolL T n m k)).length + 1) * 1 ≤ 140737488355328 by (simp; omega)) <| .c (show (List.map (row1 IntKind.i8) (poolL T n m k)).length + 1 ≤ 9223372036854775807 by (simp; omega)) <| .c (IntWalk.i64_in ((↑k : Int) + 1) (by omega)) <| .c (Weak.int (k := .i64) (show (((↑k : Int) + 1) : Int) = ((↑(k + 1) : Int)) from (by omega))) <| .c (show BlkW (Blk.slc 30 1 (List.map (row1 IntKind.i8) (poolL T n m k) ++ [[i8 (meanE (winL T n ((↑k : Int) / (plS T n).c / (plS T n).x) ((↑k : Int) / (plS T n).c % (plS T n).x) ((↑k : Int) % (plS T n).c)))]])) (Blk.slc 30 1 (List.map (row1 IntKind.i8) (poolL T n m (k + 1)))) from (BlkW.rows (rows_to (row1 IntKind.i8) (r := List.map (row1 IntKind.i8) (poolL T n m k) ++ [[i8 (meanE (winL T n ((↑k : Int) / (plS T n).c / (plS T n).x) ((↑k : Int) / (plS T n).c % (plS T n).x) ((↑k : Int) % (plS T n).c)))]]) (l := poolL T n m k ++ [meanE (winL T n ((↑k : Int) / (plS T n).c / (plS T n).x) ((↑k : Int) / (plS T n).c % (plS T n).x) ((↑k : Int) % (plS T n).c))]) (m := poolL T n m (k + 1)) (by first | (simp only [List.map_append, List.map_cons, List.map_nil, List.map_set, List.map_replicate, List.map_take, List.map_drop]; done) | rfl | (simp only [List.map_append, List.map_cons, List.map_nil, List.map_set, List.map_replicate, List.map_take, List.map_drop]; rfl)) (show (poolL T n m k ++ [meanE (winL T n ((↑k : Int) / (plS T n).c / (plS T n).x) ((↑k : Int) / (plS T n).c % (plS T n).x) ((↑k : Int) % (plS T n).c))]) = (poolL T n m (k + 1)) from (by (rw [poolL_succ, poolF, if_neg (by simp_all)])))))) <| .n)
set_option maxRecDepth 100000 in
set_option maxHeartbeats 2000000 in
theorem pool_l_e (T : Ten) (n : Nod) (m : Bool) (ok : PlOk T n) : VT Try.prog (fnC Try.f133 [1, 1, 1, 1, 1, 0, 1, 0, 0]) (pool_l_I T n m ((elems (plS T n).h (plS T n).x (plS T n).c).toNat)) (.exit 0) (pool_l_Z T n m) := by
  obtain ⟨r, k1, k5, s1, s4, p0, p4, pk, hk', xk, sh, sx, sc, h1, h2, x1, x2, en, el⟩ := ok.n
  have g1 := r.c1
  have gz := r.c2
  have g9 : 1 ≤ (plS T n).h * (plS T n).x * (plS T n).c := by exact Int.mul_pos (Int.mul_pos (by omega) (by omega)) (by omega)
  have oz0 := @refElems_v ((plS T n).h) ((plS T n).x) ((plS T n).c) (by omega) (by omega) (by omega)
  exact VT.run (W := [.r [] [.callr (rO oz0)], .br false]) (G := [.any (rg [(40, 4)]), .sort]) (by kernel_rfl) (.c oz0 <| .c (decide_eq_false (p := ((↑(elems (plS T n).h (plS T n).x (plS T n).c).toNat : Int) < elems (plS T n).h (plS T n).x (plS T n).c)) (by omega)) <| .n)
theorem pool_l (T : Ten) (n : Nod) (m : Bool) (ok : PlOk T n) : VT Try.prog (fnC Try.f133 [1, 1, 1, 1, 1, 0, 1, 0]) (pool_l_I T n m 0) (.exit 0) (pool_l_Z T n m) :=
  VT.loop (fun k => pool_l_I T n m k) ((elems (plS T n).h (plS T n).x (plS T n).c).toNat) (fun k hk => pool_l_s T n m ok k hk) (pool_l_e T n m ok) (by intro h; cases h)
/-- What is pooled. -/
def poolOf (T : Ten) (n : Nod) (m : Bool) : Ten × Int := if tenRight T = true then (if (slideE ⟨T.h, T.x, T.c⟩ n.nk n.ns n.np T.c).2 = 0 then (⟨(plS T n).h, (plS T n).x, (plS T n).c, poolL T n m (elems (plS T n).h (plS T n).x (plS T n).c).toNat⟩, 0) else (ten0, (slideE ⟨T.h, T.x, T.c⟩ n.nk n.ns n.np T.c).2)) else (ten0, 5)
set_option maxRecDepth 100000 in
set_option maxHeartbeats 2000000 in
theorem pool_y (T : Ten) (n : Nod) (m : Bool) (ok : PlOk T n) : VC Try.prog 133 ([ten .i8 T, nod n, bv m]) (.tup [ten .i8 (poolOf T n m).1, i64 (poolOf T n m).2]) := by
  have ok1 := ok.ok
  have okc := ok1.c
  have g1 := ok.e
  have g2 := ok.r
  have g3 := ok.n.en
  have oz0 := @refTRight_v (T) ok1
  have oz2 := @refSlide_v (Shp.mk T.h T.x T.c) (n.nk) (n.ns) (n.np) (T.c) (by (exact Shp.mk_ok ok1.h ok1.x ok1.c)) okc
  have oz5 := @pool_l (T) (n) (m) ok
  exact (VC.run (fn := Try.f133) (W := [.r [] [], .r [] [.callr (rO oz0)], .br false, .r [] [.callr (rO oz2)], .r [] [], .br false, .r [] [], .r [] [], .code [.any (rg [(0, 2), (7, 1), (9, 1), (15, 3), (19, 17), (38, 2)]), .weak 11 (i64 (↑0 : Int)), .nilc 900 30 1 10 3, .sort] (Exit.exit 0) (zO oz5), .r [] []]) (r := AV.tup [AV.agg [i64 (plS T n).h, i64 (plS T n).x, i64 (plS T n).c, AV.sl 1 (List.map (row1 IntKind.i8) (poolL T n m (elems (plS T n).h (plS T n).x (plS T n).c).toNat))], i64 0]) Try.func133 (by kernel_rfl) (.c oz0 <| .c (show (!tenRight T) = false by (simp; omega)) <| .c oz2 <| .c (show ((slideE (Shp.mk T.h T.x T.c) n.nk n.ns n.np T.c).snd != 0) = false by (simp; omega)) <| .c (Weak.int (k := .i64) (show ((0) : Int) = ((↑0 : Int)) from (by omega))) <| .c oz5 <| .n)).weak (WeakL.refl _) (Weak.tup (.cons (Weak.agg (.cons (Weak.int (show (((plS T n).h) : Int) = ((poolOf T n m).fst.h) from (by (unfold poolOf; rw [if_pos g2, if_pos g1])))) (.cons (Weak.int (show (((plS T n).x) : Int) = ((poolOf T n m).fst.x) from (by (unfold poolOf; rw [if_pos g2, if_pos g1])))) (.cons (Weak.int (show (((plS T n).c) : Int) = ((poolOf T n m).fst.c) from (by (unfold poolOf; rw [if_pos g2, if_pos g1])))) (.cons (Weak.rows (rows_to (row1 IntKind.i8) (r := List.map (row1 IntKind.i8) (poolL T n m (elems (plS T n).h (plS T n).x (plS T n).c).toNat)) (l := poolL T n m (elems (plS T n).h (plS T n).x (plS T n).c).toNat) (m := (poolOf T n m).fst.d) rfl (show (poolL T n m (elems (plS T n).h (plS T n).x (plS T n).c).toNat) = ((poolOf T n m).fst.d) from (by (unfold poolOf; rw [if_pos g2, if_pos g1]))))) .nil))))) (.cons (Weak.int (show ((0) : Int) = ((poolOf T n m).snd) from (by (unfold poolOf; rw [if_pos g2, if_pos g1])))) .nil)))

set_option maxRecDepth 100000 in
set_option maxHeartbeats 2000000 in
theorem pool_n (T : Ten) (n : Nod) (m : Bool) (ok : T.Ok) (okn : n.Ok) (hn : tenRight T = false ∨ (slideE ⟨T.h, T.x, T.c⟩ n.nk n.ns n.np T.c).2 ≠ 0) : VC Try.prog 133 ([ten .i8 T, nod n, bv m]) (.tup [ten .i8 (poolOf T n m).1, i64 (poolOf T n m).2]) := by
  have okc := ok.c
  have oz0 := @refTRight_v (T) ok
  rcases Bool.eq_false_or_eq_true (!tenRight T) with hc0 | hc0
  · have gc0 : tenRight T = false := by first | exact hc0 | exact of_decide_eq_true hc0 | exact of_decide_eq_false hc0 | simpa [eqNums] using hc0 | (simp [eqNums] at hc0 ⊢; first | done | assumption | omega)
    exact (VC.run (fn := Try.f133) (W := [.r [] [], .r [] [.callr (rO oz0)], .br true, .r [] []]) (r := AV.tup [AV.agg [i64 0, i64 0, i64 0, AV.lit (Value.slice none 0 0)], i64 5]) Try.func133 (by kernel_rfl) (.c oz0 <| .c hc0 <| .n)).weak (WeakL.refl _) (Weak.tup (.cons (Weak.agg (.cons (Weak.int (show ((0) : Int) = ((poolOf T n m).fst.h) from (by (unfold poolOf; rw [if_neg (by simp_all)]; first | done | rfl)))) (.cons (Weak.int (show ((0) : Int) = ((poolOf T n m).fst.x) from (by (unfold poolOf; rw [if_neg (by simp_all)]; first | done | rfl)))) (.cons (Weak.int (show ((0) : Int) = ((poolOf T n m).fst.c) from (by (unfold poolOf; rw [if_neg (by simp_all)]; first | done | rfl)))) (.cons (Weak.nilr (show [] = (List.map (row1 IntKind.i8) (poolOf T n m).fst.d) from (by (unfold poolOf; rw [if_neg (by simp_all)]; first | done | rfl)))) .nil))))) (.cons (Weak.int (show ((5) : Int) = ((poolOf T n m).snd) from (by (unfold poolOf; rw [if_neg (by simp_all)]; first | done | rfl)))) .nil)))
  · have gc0 : tenRight T = true := by first | exact hc0 | exact of_decide_eq_true hc0 | exact of_decide_eq_false hc0 | simpa [eqNums] using hc0 | (simp [eqNums] at hc0 ⊢; first | done | assumption | omega)
    have oz2 := @refSlide_v (Shp.mk T.h T.x T.c) (n.nk) (n.ns) (n.np) (T.c) (by (exact Shp.mk_ok ok.h ok.x ok.c)) okc
    exact (VC.run (fn := Try.f133) (W := [.r [] [], .r [] [.callr (rO oz0)], .br false, .r [] [.callr (rO oz2)], .r [] [], .br true, .r [] []]) (r := AV.tup [AV.agg [i64 0, i64 0, i64 0, AV.lit (Value.slice none 0 0)], i64 (slideE (Shp.mk T.h T.x T.c) n.nk n.ns n.np T.c).snd]) Try.func133 (by kernel_rfl) (.c oz0 <| .c hc0 <| .c oz2 <| .c (show ((slideE (Shp.mk T.h T.x T.c) n.nk n.ns n.np T.c).snd != 0) = true by (rcases hn with hn | hn <;> simp_all; done)) <| .n)).weak (WeakL.refl _) (Weak.tup (.cons (Weak.agg (.cons (Weak.int (show ((0) : Int) = ((poolOf T n m).fst.h) from (by (unfold poolOf; rw [if_pos (by simp_all), if_neg (by rcases hn with hn | hn <;> simp_all)]; first | done | rfl)))) (.cons (Weak.int (show ((0) : Int) = ((poolOf T n m).fst.x) from (by (unfold poolOf; rw [if_pos (by simp_all), if_neg (by rcases hn with hn | hn <;> simp_all)]; first | done | rfl)))) (.cons (Weak.int (show ((0) : Int) = ((poolOf T n m).fst.c) from (by (unfold poolOf; rw [if_pos (by simp_all), if_neg (by rcases hn with hn | hn <;> simp_all)]; first | done | rfl)))) (.cons (Weak.nilr (show [] = (List.map (row1 IntKind.i8) (poolOf T n m).fst.d) from (by (unfold poolOf; rw [if_pos (by simp_all), if_neg (by rcases hn with hn | hn <;> simp_all)]; first | done | rfl)))) .nil))))) (.cons (Weak.int (show (((slideE (Shp.mk T.h T.x T.c) n.nk n.ns n.np T.c).snd) : Int) = ((poolOf T n m).snd) from (by (unfold poolOf; rw [if_pos (by simp_all), if_neg (by rcases hn with hn | hn <;> simp_all)]; first | done | rfl)))) .nil)))
theorem pool_v (T : Ten) (n : Nod) (m : Bool) (ok : T.Ok) (okn : n.Ok) : VC Try.prog 133 [ten .i8 T, nod n, bv m] (.tup [ten .i8 (poolOf T n m).1, i64 (poolOf T n m).2]) := by
  cases hr : tenRight T with
  | false => exact pool_n T n m ok okn (.inl hr)
  | true =>
    by_cases he : (slideE ⟨T.h, T.x, T.c⟩ n.nk n.ns n.np T.c).2 = 0
    · exact pool_y T n m ⟨ok, okn, hr, he⟩
    · exact pool_n T n m ok okn (.inr he)
end Go.Proofs.Ytgecmooedhnenaa

/- Whether an exit stays within 32 bits. No condition. -/
namespace Go.Proofs.Ytgecmooedhnenaa
open Go.RowKit
set_option linter.unusedSimpArgs false
set_option linter.unusedVariables false
set_option linter.unnecessarySimpa false

/-- A number as another one. -/
def oneN (v : Int) (n : Nod) : Int := heldQ (v - n.za) n.qm n.qs n.qz n.lo n.hi
set_option maxRecDepth 100000 in
set_option maxHeartbeats 2000000 in
theorem actOne_w (v : Int) (n : Nod) (ok : n.Ok) (hv : In8 v) : VC Try.prog 128 ([i8 v, nod n]) (i8 (oneN v n)) := by
  obtain ⟨q1, q2⟩ := id hv
  obtain ⟨q3, q4⟩ := ok.za
  have oz3 := @held_v (v - n.za) (n.qm) (n.qs) (n.qz) (n.lo) (n.hi) (by omega) (by (exact ok.qm)) (by (exact ok.qz)) (by (exact ok.lo)) (by (exact ok.hi))
  exact (VC.run (fn := Try.f128) (W := [.r [] [], .r [] [.n v, .n n.za, .n (v - n.za), .callr (rO oz3)]]) (r := i8 (heldQ (v - n.za) n.qm n.qs n.qz n.lo n.hi)) Try.func128 (by kernel_rfl) (.c (IntWalk.i32_in v (by omega)) <| .c (IntWalk.i32_in n.za (by omega)) <| .c (IntWalk.i32_in (v - n.za) (by omega)) <| .c oz3 <| .n)).weak (WeakL.refl _) (Weak.int (show ((heldQ (v - n.za) n.qm n.qs n.qz n.lo n.hi) : Int) = (oneN v n) from (by rfl)))
theorem checkA_c : VC Try.prog 104 [.agg [i64 7, i64 0, i64 0, i64 0, i64 0, i64 0, i64 0, i8 0, i8 0, .sl 1 [], .sl 1 [], i32 1, i64 0, i8 0, i32 0, i64 0, i8 0, i8 0, i8 127]] (i64 0) :=
  VC.to (check_v ⟨7, 0, 0, 0, 0, 0, 0, 0, 0, [], [], 1, 0, 0, 0, 0, 0, 0, 127⟩ (by decide) (by decide) ⟨by decide, by decide⟩) (by kernel_rfl)
theorem kA_ok : Nod.Ok ⟨7, 0, 0, 0, 0, 0, 0, 0, 0, [], [], 1, 0, 0, 0, 0, 0, 0, 127⟩ := by
  constructor <;> first | (constructor <;> decide) | (intro v hv; cases hv)
theorem actA_c : VC Try.prog 128 [i8 (-128), .agg [i64 7, i64 0, i64 0, i64 0, i64 0, i64 0, i64 0, i8 0, i8 0, .sl 1 [], .sl 1 [], i32 1, i64 0, i8 0, i32 0, i64 0, i8 0, i8 0, i8 127]] (i8 0) :=
  VC.to (actOne_w (-128) ⟨7, 0, 0, 0, 0, 0, 0, 0, 0, [], [], 1, 0, 0, 0, 0, 0, 0, 127⟩ kA_ok ⟨by decide, by decide⟩) (by kernel_rfl)
theorem actB_c : VC Try.prog 128 [i8 50, .agg [i64 7, i64 0, i64 0, i64 0, i64 0, i64 0, i64 0, i8 0, i8 0, .sl 1 [], .sl 1 [], i32 1, i64 0, i8 0, i32 0, i64 0, i8 0, i8 0, i8 127]] (i8 50) :=
  VC.to (actOne_w 50 ⟨7, 0, 0, 0, 0, 0, 0, 0, 0, [], [], 1, 0, 0, 0, 0, 0, 0, 127⟩ kA_ok ⟨by decide, by decide⟩) (by kernel_rfl)
set_option maxRecDepth 100000 in
set_option maxHeartbeats 2000000 in
theorem upside_v (a b : Int)  : VC Try.prog 68 ([.agg [i8 a, i8 b]]) (bv (decide (a > b))) := by
  exact VC.run (fn := Try.f68) (W := [.r [] [], .r [] []]) Try.func68 (by kernel_rfl) (.n)

set_option maxRecDepth 100000 in
set_option maxHeartbeats 2000000 in
theorem gnode_c   : VC Try.prog 67 ([.agg [i64 7, i64 0, i64 0, i64 0, i64 0, i64 0, i64 0, i8 0, i8 0, .sl 1 [], .sl 1 [], i32 1, i64 0, i8 0, i32 0, i64 0, i8 0, i8 0, i8 127], .agg [i8 (-128), i8 50], .agg [i8 0, i8 0]]) (.tup [.agg [i8 0, i8 50], i64 0]) := by
  have oz0 := @checkA_c
  have oz1 := (show false = false by with_reducible rfl)
  have oz2 := @upside_v (-128) (50)
  have oz7 := (show false = !true by (simp; done))
  have oz13 := @sumsK_v (7)
  have oz17 := @actA_c
  have oz18 := @actB_c
  exact VC.run (fn := Try.f67) (W := [.r [] [], .r [] [.callr (rO oz0)], .r [] [], .br false, .r [] [.callr (rO oz2), .br true, .br true, .br true, .br true, .br false, .br false, .br true, .br false, .br false], .br false, .r [] [.callr (rO oz13)], .br false, .r [] [], .br false, .r [] [], .br true, .r [] [.callr (rO oz17), .callr (rO oz18)]]) Try.func67 (by kernel_rfl) (.c oz0 <| .c oz1 <| .c oz2 <| .c oz1 <| .c oz1 <| .c oz1 <| .c oz1 <| .c oz7 <| .c oz7 <| .c oz1 <| .c oz1 <| .c oz1 <| .c oz1 <| .c oz13 <| .c oz1 <| .c oz1 <| .c (show true = true by with_reducible rfl) <| .c oz17 <| .c oz18 <| .n)

set_option maxRecDepth 100000 in
set_option maxHeartbeats 2000000 in
theorem known32_v   : VC Try.prog 14 ([]) (bv true) := by
  have oz1 := @gnode_c
  have oz2 := (show true = true by with_reducible rfl)
  exact VC.run (fn := Try.f14) (W := [.r [] [], .r [] [.call (aO oz1) (rO oz1)], .r [] [.br true, .br true, .br true, .v (Value.bool (eqNums [(IntKind.i8, 0, 0), (IntKind.i8, 50, 50)])), .br true]]) Try.func14 (by kernel_rfl) (.c (show WeakL [AV.agg [i64 7, i64 0, i64 0, i64 0, i64 0, i64 0, i64 0, i8 0, i8 0, AV.lit (Value.slice none 0 0), AV.lit (Value.slice none 0 0), i32 1, i64 0, i8 0, i32 0, i64 0, i8 0, i8 0, i8 127], AV.agg [i8 (-128), i8 50], AV.agg [i8 0, i8 0]] [AV.agg [i64 7, i64 0, i64 0, i64 0, i64 0, i64 0, i64 0, i8 0, i8 0, AV.sl 1 [], AV.sl 1 [], i32 1, i64 0, i8 0, i32 0, i64 0, i8 0, i8 0, i8 127], AV.agg [i8 (-128), i8 50], AV.agg [i8 0, i8 0]] from (.cons (Weak.agg (.cons (.refl _) (.cons (.refl _) (.cons (.refl _) (.cons (.refl _) (.cons (.refl _) (.cons (.refl _) (.cons (.refl _) (.cons (.refl _) (.cons (.refl _) (.cons (Weak.nil _) (.cons (Weak.nil _) (.cons (.refl _) (.cons (.refl _) (.cons (.refl _) (.cons (.refl _) (.cons (.refl _) (.cons (.refl _) (.cons (.refl _) (.cons (.refl _) .nil)))))))))))))))))))) (.cons (.refl _) (.cons (.refl _) .nil)))) <| .c oz1 <| .c oz2 <| .c oz2 <| .c oz2 <| .c (show BinTo Try.prog BinOp.eql (38 : Nat) (Operand.tmp (14 : Nat)) (Operand.tmp (15 : Nat)) (Value.agg #[Value.int IntKind.i8 (0 : Int), Value.int IntKind.i8 (50 : Int)]) (Value.agg #[Value.int IntKind.i8 (0 : Int), Value.int IntKind.i8 (50 : Int)]) (Value.bool (eqNums [(IntKind.i8, (0 : Int), (0 : Int)), (IntKind.i8, (50 : Int), (50 : Int))])) from ((bin_nums (l := [(IntKind.i8, 0, 0), (IntKind.i8, 50, 50)]) (by kernel_rfl) (by kernel_rfl) (by kernel_rfl) (by kernel_rfl) _ _).1)) <| .c oz2 <| .n)
end Go.Proofs.Ytgecmooedhnenaa

/- Between which numbers what a node makes lies, by the program and by the document. No condition. -/
namespace Go.Proofs.Ytgecmooedhnenaa
open Go.RowKit
set_option linter.unusedSimpArgs false
set_option linter.unusedVariables false
set_option linter.unnecessarySimpa false

abbrev rchC (r : Rng) : List AV := [i8 r.lo, i8 r.hi]
abbrev rch (r : Rng) : AV := .agg (rchC r)
/-- From where to where all of a list goes. -/
def bothR (l : List Rng) : Nat → Rng
  | 0 => l.getD 0 default
  | k + 1 => ⟨min (bothR l k).lo (l.getD k default).lo, max (bothR l k).hi (l.getD k default).hi⟩
noncomputable def both_l_I (l : List Rng) (k : Nat) : VS := stt 32 [(2, .ptr 2 0 0), (3, .ptr 3 0 0), (13, .sl 2 (l.map rngC)), (14, i64 l.length), (15, i64 k)] [(2, .var [i64 0, i64 0]), (3, .var (rngC (bothR l k)))]
noncomputable def both_l_Z (l : List Rng) : VS := both_l_I l (l.length)
set_option maxRecDepth 100000 in
set_option maxHeartbeats 2000000 in
theorem both_l_s (l : List Rng) (hl : l.length ≤ 1000000) (k : Nat) (hk : k < l.length) : VT Try.prog (fnC Try.f193 [1, 1, 1, 0, 1, 0, 0]) (both_l_I l k) .normal (both_l_I l (k + 1)) := by
  have oz2 := (map_at (rngC) (default) (l := l) (i := k) hk)
  exact VT.run (W := [.r [] [], .br true, .r [] [.row (sO oz2)], .r [] [], .r [] [.n ((↑k : Int) + 1)]]) (G := [.any (rg [(5, 1), (16, 15)]), .drop [5], .weak 15 (i64 (↑(k + 1) : Int)), .blk 3 (Blk.var [i64 (bothR l (k + 1)).lo, i64 (bothR l (k + 1)).hi]), .sort]) (by kernel_rfl) (.c (decide_eq_true (p := ((↑k : Int) < (↑l.length : Int))) (by omega)) <| .c (show 0 ≤ (↑k : Int) by omega) <| .c oz2 <| .c (IntWalk.i64_in ((↑k : Int) + 1) (by omega)) <| .c (Weak.int (k := .i64) (show (((↑k : Int) + 1) : Int) = ((↑(k + 1) : Int)) from (by omega))) <| .c (show BlkW (Blk.var [i64 (if (l.getD k default).lo < (bothR l k).lo then (l.getD k default).lo else (bothR l k).lo), i64 (if (l.getD k default).hi > (bothR l k).hi then (l.getD k default).hi else (bothR l k).hi)]) (Blk.var [i64 (bothR l (k + 1)).lo, i64 (bothR l (k + 1)).hi]) from (BlkW.var (.cons (Weak.int (show ((if (l.getD k default).lo < (bothR l k).lo then (l.getD k default).lo else (bothR l k).lo) : Int) = ((bothR l (k + 1)).lo) from (by (simp only [bothR]; split <;> omega)))) (.cons (Weak.int (show ((if (l.getD k default).hi > (bothR l k).hi then (l.getD k default).hi else (bothR l k).hi) : Int) = ((bothR l (k + 1)).hi) from (by (simp only [bothR]; split <;> omega)))) .nil)))) <| .n)
set_option maxRecDepth 100000 in
set_option maxHeartbeats 2000000 in
theorem both_l_e (l : List Rng) (hl : l.length ≤ 1000000) : VT Try.prog (fnC Try.f193 [1, 1, 1, 0, 1, 0, 0]) (both_l_I l (l.length)) (.exit 0) (both_l_Z l) := by
  exact VT.run (W := [.r [] [], .br false]) (G := [.any [16], .sort]) (by kernel_rfl) (.c (decide_eq_false (p := ((↑l.length : Int) < (↑l.length : Int))) (by omega)) <| .n)
theorem both_l (l : List Rng) (hl : l.length ≤ 1000000) : VT Try.prog (fnC Try.f193 [1, 1, 1, 0, 1, 0]) (both_l_I l 0) (.exit 0) (both_l_Z l) :=
  VT.loop (fun k => both_l_I l k) (l.length) (fun k hk => both_l_s l hl k hk) (both_l_e l hl) (by intro h; cases h)

set_option maxRecDepth 100000 in
set_option maxHeartbeats 2000000 in
theorem both_v (l : List Rng) (hl : l.length ≤ 1000000) : VC Try.prog 193 ([.sl 2 (l.map rngC)]) (rng (bothR l l.length)) := by
  rcases Bool.eq_false_or_eq_true ((↑(List.map rngC l).length : Int) == 0) with hc0 | hc0
  · have gc0 : (↑(List.map rngC l).length : Int) = 0 := bet hc0
    exact (VC.run (fn := Try.f193) (W := [.r [] [], .r [] [], .br true, .r [] []]) (r := AV.agg [i64 0, i64 0]) Try.func193 (by kernel_rfl) (.c hc0 <| .n)).weak (WeakL.refl _) (Weak.agg (.cons (Weak.int (show ((0) : Int) = ((bothR l l.length).lo) from (by (have : l = [] := List.eq_nil_of_length_eq_zero (by simp only [List.length_map] at *; omega); subst this; rfl)))) (.cons (Weak.int (show ((0) : Int) = ((bothR l l.length).hi) from (by (have : l = [] := List.eq_nil_of_length_eq_zero (by simp only [List.length_map] at *; omega); subst this; rfl)))) .nil)))
  · have gc0 : ¬(↑(List.map rngC l).length : Int) = 0 := bef hc0
    have oz2 := (map_at (rngC) (default) (l := l) (i := 0) (by (simp only [List.length_map] at *; omega)))
    have oz6 := @both_l (l) hl
    exact VC.run (fn := Try.f193) (W := [.r [] [], .r [] [], .br false, .r [] [.row (sO oz2)], .r [] [], .code [.any [0, 6, 7, 8, 10, 11, 12], .weak 14 (i64 (↑l.length : Int)), .weak 15 (i64 (↑0 : Int)), .blk 3 (Blk.var [i64 (bothR l 0).lo, i64 (bothR l 0).hi]), .sort] (Exit.exit 0) (zO oz6), .r [] []]) Try.func193 (by kernel_rfl) (.c hc0 <| .c (show (0 : Int) ≤ (0 : Int) by omega) <| .c oz2 <| .c (Weak.int (k := .i64) (show (((↑(List.map rngC l).length : Int)) : Int) = ((↑l.length : Int)) from (by (simp; done)))) <| .c (Weak.int (k := .i64) (show ((0) : Int) = ((↑0 : Int)) from (by omega))) <| .c (show BlkW (Blk.var [i64 (l.getD 0 default).lo, i64 (l.getD 0 default).hi]) (Blk.var [i64 (bothR l 0).lo, i64 (bothR l 0).hi]) from (BlkW.var (.cons (Weak.int (show (((l.getD 0 default).lo) : Int) = ((bothR l 0).lo) from (by rfl))) (.cons (Weak.int (show (((l.getD 0 default).hi) : Int) = ((bothR l 0).hi) from (by rfl))) .nil)))) <| .c oz6 <| .n)
def held32 (v : Int) : Int := if 2147483647 < if -2147483648 > v then -2147483648 else v then 2147483647 else if -2147483648 > v then -2147483648 else v
theorem held32_in (v : Int) : In32 (held32 v) := by unfold held32 In32; omega
theorem min_if (a b : Int) : (if b < a then b else a) = min a b := by omega
theorem max_if (a b : Int) : (if b > a then b else a) = max a b := by omega
def afterE (r : Rng) (n : Nod) : Rng := ⟨min (heldQ (held32 r.lo) n.qm n.qs n.qz n.lo n.hi) (heldQ (held32 r.hi) n.qm n.qs n.qz n.lo n.hi), max (heldQ (held32 r.lo) n.qm n.qs n.qz n.lo n.hi) (heldQ (held32 r.hi) n.qm n.qs n.qz n.lo n.hi)⟩
set_option maxRecDepth 100000 in
set_option maxHeartbeats 2000000 in
theorem after_v (r : Rng) (n : Nod) (ok : n.Ok) : VC Try.prog 192 ([rng r, .agg [i32 n.qm, i64 n.qs, i8 n.qz], i8 n.lo, i8 n.hi]) (.tup [i8 (afterE r n).lo, i8 (afterE r n).hi]) := by
  have ok_qm := ok.qm
  have ok_qz := ok.qz
  have ok_lo := ok.lo
  have ok_hi := ok.hi
  have q1 := held32_in r.lo
  have q2 := held32_in r.hi
  have oz0 := (IntWalk.i32_in (if 2147483647 < if -2147483648 > r.lo then -2147483648 else r.lo then 2147483647 else if -2147483648 > r.lo then -2147483648 else r.lo) (by omega))
  have oz1 := @held_v (if 2147483647 < if -2147483648 > r.lo then -2147483648 else r.lo then 2147483647 else if -2147483648 > r.lo then -2147483648 else r.lo) (n.qm) (n.qs) (n.qz) (n.lo) (n.hi) (by omega) ok_qm ok_qz ok_lo ok_hi
  have oz2 := (IntWalk.i32_in (if 2147483647 < if -2147483648 > r.hi then -2147483648 else r.hi then 2147483647 else if -2147483648 > r.hi then -2147483648 else r.hi) (by omega))
  have oz3 := @held_v (if 2147483647 < if -2147483648 > r.hi then -2147483648 else r.hi then 2147483647 else if -2147483648 > r.hi then -2147483648 else r.hi) (n.qm) (n.qs) (n.qz) (n.lo) (n.hi) (by omega) ok_qm ok_qz ok_lo ok_hi
  exact (VC.run (fn := Try.f192) (W := [.r [] [], .r [] [.n (nO oz0), .callr (rO oz1)], .r [] [.n (nO oz2), .callr (rO oz3)], .r [] []]) (r := AV.tup [i8 (if heldQ (if 2147483647 < if -2147483648 > r.hi then -2147483648 else r.hi then 2147483647 else if -2147483648 > r.hi then -2147483648 else r.hi) n.qm n.qs n.qz n.lo n.hi < heldQ (if 2147483647 < if -2147483648 > r.lo then -2147483648 else r.lo then 2147483647 else if -2147483648 > r.lo then -2147483648 else r.lo) n.qm n.qs n.qz n.lo n.hi then heldQ (if 2147483647 < if -2147483648 > r.hi then -2147483648 else r.hi then 2147483647 else if -2147483648 > r.hi then -2147483648 else r.hi) n.qm n.qs n.qz n.lo n.hi else heldQ (if 2147483647 < if -2147483648 > r.lo then -2147483648 else r.lo then 2147483647 else if -2147483648 > r.lo then -2147483648 else r.lo) n.qm n.qs n.qz n.lo n.hi), i8 (if heldQ (if 2147483647 < if -2147483648 > r.hi then -2147483648 else r.hi then 2147483647 else if -2147483648 > r.hi then -2147483648 else r.hi) n.qm n.qs n.qz n.lo n.hi > heldQ (if 2147483647 < if -2147483648 > r.lo then -2147483648 else r.lo then 2147483647 else if -2147483648 > r.lo then -2147483648 else r.lo) n.qm n.qs n.qz n.lo n.hi then heldQ (if 2147483647 < if -2147483648 > r.hi then -2147483648 else r.hi then 2147483647 else if -2147483648 > r.hi then -2147483648 else r.hi) n.qm n.qs n.qz n.lo n.hi else heldQ (if 2147483647 < if -2147483648 > r.lo then -2147483648 else r.lo then 2147483647 else if -2147483648 > r.lo then -2147483648 else r.lo) n.qm n.qs n.qz n.lo n.hi)]) Try.func192 (by kernel_rfl) (.c oz0 <| .c oz1 <| .c oz2 <| .c oz3 <| .n)).weak (WeakL.refl _) (Weak.tup (.cons (Weak.int (show ((if heldQ (if 2147483647 < if -2147483648 > r.hi then -2147483648 else r.hi then 2147483647 else if -2147483648 > r.hi then -2147483648 else r.hi) n.qm n.qs n.qz n.lo n.hi < heldQ (if 2147483647 < if -2147483648 > r.lo then -2147483648 else r.lo then 2147483647 else if -2147483648 > r.lo then -2147483648 else r.lo) n.qm n.qs n.qz n.lo n.hi then heldQ (if 2147483647 < if -2147483648 > r.hi then -2147483648 else r.hi then 2147483647 else if -2147483648 > r.hi then -2147483648 else r.hi) n.qm n.qs n.qz n.lo n.hi else heldQ (if 2147483647 < if -2147483648 > r.lo then -2147483648 else r.lo then 2147483647 else if -2147483648 > r.lo then -2147483648 else r.lo) n.qm n.qs n.qz n.lo n.hi) : Int) = ((afterE r n).lo) from (by (exact min_if _ _)))) (.cons (Weak.int (show ((if heldQ (if 2147483647 < if -2147483648 > r.hi then -2147483648 else r.hi then 2147483647 else if -2147483648 > r.hi then -2147483648 else r.hi) n.qm n.qs n.qz n.lo n.hi > heldQ (if 2147483647 < if -2147483648 > r.lo then -2147483648 else r.lo then 2147483647 else if -2147483648 > r.lo then -2147483648 else r.lo) n.qm n.qs n.qz n.lo n.hi then heldQ (if 2147483647 < if -2147483648 > r.hi then -2147483648 else r.hi then 2147483647 else if -2147483648 > r.hi then -2147483648 else r.hi) n.qm n.qs n.qz n.lo n.hi else heldQ (if 2147483647 < if -2147483648 > r.lo then -2147483648 else r.lo then 2147483647 else if -2147483648 > r.lo then -2147483648 else r.lo) n.qm n.qs n.qz n.lo n.hi) : Int) = ((afterE r n).hi) from (by (exact max_if _ _)))) .nil)))
theorem clamp_in (v : Int) {lo hi : Int} (h1 : In8 lo) (h2 : In8 hi) : In8 (clampI v lo hi) := by
  unfold clampI; split
  · exact h1
  · split
    · exact h2
    · omega
set_option maxRecDepth 100000 in
set_option maxHeartbeats 2000000 in
theorem refHeld_v (a m s z lo hi : Int) (ha : In32 a) (hm : In32 m) (hz : In8 z) (hl : In8 lo) (hh : In8 hi) : VC Try.prog 221 ([i32 a, .agg [i32 m, i64 s, i8 z], i8 lo, i8 hi]) (i8 (heldQ a m s z lo hi)) := by
  have q1 := mul_bd32 a m ha.1 ha.2 hm.1 hm.2
  have q2 := rnd_bd (a * m) s 4611686018427387904 q1.1 q1.2
  have q3 := clamp_in (rnd (a * m) s + z) hl hh
  have oz0 := @refRight_v (m) (s) (z)
  rcases Bool.eq_false_or_eq_true (!rightQ m s) with hc0 | hc0
  · have gc0 : rightQ m s = false := by first | exact hc0 | exact of_decide_eq_true hc0 | exact of_decide_eq_false hc0 | simpa [eqNums] using hc0 | (simp [eqNums] at hc0 ⊢; first | done | assumption | omega)
    exact (VC.run (fn := Try.f221) (W := [.r [] [], .r [] [.callr (rO oz0)], .br true, .r [] []]) (r := i8 0) Try.func221 (by kernel_rfl) (.c oz0 <| .c hc0 <| .n)).weak (WeakL.refl _) (Weak.int (show ((0) : Int) = (heldQ a m s z lo hi) from (by (unfold heldQ; rw [if_neg (by simp_all)]))))
  · have gc0 : rightQ m s = true := by first | exact hc0 | exact of_decide_eq_true hc0 | exact of_decide_eq_false hc0 | simpa [eqNums] using hc0 | (simp [eqNums] at hc0 ⊢; first | done | assumption | omega)
    have oz5 := @refRound_v (a * m) (s) (by omega)
    have oz10 := @refSatHeld_v (rnd (a * m) s + z) (lo) (hi)
    have oz11 := (IntWalk.i8_in (clampI (rnd (a * m) s + z) lo hi) (by omega))
    exact (VC.run (fn := Try.f221) (W := [.r [] [], .r [] [.callr (rO oz0)], .br false, .r [] [.n a, .n m, .n (a * m), .callr (rO oz5), .n z, .n (rnd (a * m) s + z)], .r [] [.n lo, .n hi, .callr (rO oz10), .n (nO oz11)]]) (r := i8 (clampI (rnd (a * m) s + z) lo hi)) Try.func221 (by kernel_rfl) (.c oz0 <| .c hc0 <| .c (IntWalk.i64_in a (by omega)) <| .c (IntWalk.i64_in m (by omega)) <| .c (IntWalk.i64_in (a * m) (by omega)) <| .c oz5 <| .c (IntWalk.i64_in z (by omega)) <| .c (IntWalk.i64_in (rnd (a * m) s + z) (by omega)) <| .c (IntWalk.i64_in lo (by omega)) <| .c (IntWalk.i64_in hi (by omega)) <| .c oz10 <| .c oz11 <| .n)).weak (WeakL.refl _) (Weak.int (show ((clampI (rnd (a * m) s + z) lo hi) : Int) = (heldQ a m s z lo hi) from (by (unfold heldQ; rw [if_pos (by simp_all)]))))

/-- Two numbers as one. -/
def joinE (x y : Int) (n : Nod) : Int := if (rightQ n.qm n.qs && rightQ n.rm n.rs) = true then clampI (rnd ((x - n.za) * n.qm) n.qs + rnd ((y - n.zb) * n.rm) n.rs + n.qz) n.lo n.hi else 0
theorem mul_bd9 (a m : Int) (a0 : -255 ≤ a) (a1 : a ≤ 255) (hm : In32 m) : -547608330240 ≤ a * m ∧ a * m ≤ 547608330240 := by
  obtain ⟨m0, m1⟩ := hm
  have h1 : (a.natAbs * m.natAbs : Nat) ≤ 255 * 2147483648 := Nat.mul_le_mul (by omega) (by omega)
  have := Int.natAbs_mul a m
  omega
theorem joinP (v z m s : Int) (h1 : In8 v) (h2 : In8 z) (h3 : In32 m) : (-547608330240 ≤ (v - z) * m ∧ (v - z) * m ≤ 547608330240) ∧ -547608330240 ≤ rnd ((v - z) * m) s ∧ rnd ((v - z) * m) s ≤ 547608330240 := by
  have q := mul_bd9 (v - z) m (by omega) (by omega) h3
  exact ⟨q, rnd_bd _ s _ q.1 q.2⟩
set_option maxRecDepth 100000 in
set_option maxHeartbeats 2000000 in
theorem joinMay_v (n : Nod)  : VC Try.prog 97 ([nod n]) (bv (rightQ n.qm n.qs && rightQ n.rm n.rs)) := by
  have oz0 := @right_v (n.qm) (n.qs) (n.qz)
  have oz1 := @right_v (n.rm) (n.rs) (n.rz)
  exact VC.run (fn := Try.f97) (W := [.r [] [], .r [] [.callr (rO oz0), .op false, .op false, .op false, .callr (rO oz1), .sel 2]]) Try.func97 (by kernel_rfl) (.c oz0 <| .c oz1 <| .n)

set_option maxRecDepth 100000 in
set_option maxHeartbeats 2000000 in
theorem joinScaled_v (v z m s z2 : Int) (h1 : In8 v) (h2 : In8 z) (h3 : In32 m) : VC Try.prog 101 ([i8 v, i8 z, .agg [i32 m, i64 s, i8 z2]]) (i64 (rnd ((v - z) * m) s)) := by
  have oz3 := @scale_v (v - z) (m) (s) (by omega) h3
  exact VC.run (fn := Try.f101) (W := [.r [] [], .r [] [.n v, .n z, .n (v - z), .callr (rO oz3)]]) Try.func101 (by kernel_rfl) (.c (IntWalk.i32_in v (by omega)) <| .c (IntWalk.i32_in z (by omega)) <| .c (IntWalk.i32_in (v - z) (by omega)) <| .c oz3 <| .n)

set_option maxRecDepth 100000 in
set_option maxHeartbeats 2000000 in
theorem joinOne_v (x y : Int) (n : Nod) (ok : n.Ok) (hx : In8 x) (hy : In8 y) : VC Try.prog 33 ([i8 x, i8 y, nod n]) (i8 (joinE x y n)) := by
  have ok_za := ok.za
  have ok_zb := ok.zb
  have ok_qm := ok.qm
  have ok_rm := ok.rm
  have ok_lo := ok.lo
  have ok_hi := ok.hi
  have ok_qz := ok.qz
  have q1 := joinP x n.za n.qm n.qs hx ok.za ok.qm
  have q2 := joinP y n.zb n.rm n.rs hy ok.zb ok.rm
  have oz0 := @joinMay_v (n)
  rcases Bool.eq_false_or_eq_true (!(rightQ n.qm n.qs && rightQ n.rm n.rs)) with hc0 | hc0
  · have gc0 : rightQ n.qm n.qs = false ∨ rightQ n.rm n.rs = false := by first | (simp only [Bool.or_eq_true, Bool.or_eq_false_iff, Bool.and_eq_true, Bool.and_eq_false_iff, Bool.not_eq_true', Bool.not_eq_false', decide_eq_true_eq, decide_eq_false_iff_not, beq_iff_eq, bne_iff_ne, ne_eq, beq_eq_false_iff_ne, bne_eq_false_iff_eq, eqNums, Bool.and_true] at hc0; first | exact hc0 | omega) | simpa using hc0 | (simp at hc0 ⊢; omega) | (apply Classical.byContradiction; intro hn; simp_all [eqNums]; done) | (apply Classical.byContradiction; intro hn; simp [eqNums] at hc0 hn; omega)
    exact (VC.run (fn := Try.f33) (W := [.r [] [], .r [] [.callr (rO oz0)], .br true, .r [] []]) (r := i8 0) Try.func33 (by kernel_rfl) (.c oz0 <| .c hc0 <| .n)).weak (WeakL.refl _) (Weak.int (show ((0) : Int) = (joinE x y n) from (by (unfold joinE; rw [if_neg (by intro hh; simp only [Bool.and_eq_true] at hh; simp_all)]))))
  · have gc0 : rightQ n.qm n.qs = true ∧ rightQ n.rm n.rs = true := by first | (simp only [Bool.or_eq_true, Bool.or_eq_false_iff, Bool.and_eq_true, Bool.and_eq_false_iff, Bool.not_eq_true', Bool.not_eq_false', decide_eq_true_eq, decide_eq_false_iff_not, beq_iff_eq, bne_iff_ne, ne_eq, beq_eq_false_iff_ne, bne_eq_false_iff_eq, eqNums, Bool.and_true] at hc0; first | exact hc0 | omega) | simpa using hc0 | (simp at hc0 ⊢; omega) | (apply Classical.byContradiction; intro hn; simp_all [eqNums]; done) | (apply Classical.byContradiction; intro hn; simp [eqNums] at hc0 hn; omega)
    have oz2 := @joinScaled_v (x) (n.za) (n.qm) (n.qs) (n.qz) hx ok_za ok_qm
    have oz3 := @joinScaled_v (y) (n.zb) (n.rm) (n.rs) (n.rz) hy ok_zb ok_rm
    have oz4 := (IntWalk.i64_in (rnd ((x - n.za) * n.qm) n.qs + rnd ((y - n.zb) * n.rm) n.rs) (by omega))
    have oz6 := (IntWalk.i64_in (rnd ((x - n.za) * n.qm) n.qs + rnd ((y - n.zb) * n.rm) n.rs + n.qz) (by omega))
    have oz7 := @clamp_v (rnd ((x - n.za) * n.qm) n.qs + rnd ((y - n.zb) * n.rm) n.rs + n.qz) (n.lo) (n.hi) ok_lo ok_hi
    exact (VC.run (fn := Try.f33) (W := [.r [] [], .r [] [.callr (rO oz0)], .br false, .r [] [.callr (rO oz2), .callr (rO oz3), .n (nO oz4), .n n.qz, .n (nO oz6), .callr (rO oz7)]]) (r := i8 (clampI (rnd ((x - n.za) * n.qm) n.qs + rnd ((y - n.zb) * n.rm) n.rs + n.qz) n.lo n.hi)) Try.func33 (by kernel_rfl) (.c oz0 <| .c hc0 <| .c oz2 <| .c oz3 <| .c oz4 <| .c (IntWalk.i64_in n.qz (by omega)) <| .c oz6 <| .c oz7 <| .n)).weak (WeakL.refl _) (Weak.int (show ((clampI (rnd ((x - n.za) * n.qm) n.qs + rnd ((y - n.zb) * n.rm) n.rs + n.qz) n.lo n.hi) : Int) = (joinE x y n) from (by (unfold joinE; rw [if_pos (by simp_all)]))))

set_option maxRecDepth 100000 in
set_option maxHeartbeats 2000000 in
theorem refJoinOne_v (x y : Int) (n : Nod) (ok : n.Ok) (hx : In8 x) (hy : In8 y) : VC Try.prog 34 ([i8 x, i8 y, nod n]) (i8 (joinE x y n)) := by
  have ok_za := ok.za
  have ok_zb := ok.zb
  have ok_qm := ok.qm
  have ok_rm := ok.rm
  have ok_lo := ok.lo
  have ok_hi := ok.hi
  have ok_qz := ok.qz
  have q1 := joinP x n.za n.qm n.qs hx ok.za ok.qm
  have q2 := joinP y n.zb n.rm n.rs hy ok.zb ok.rm
  have q3 := clamp_in (rnd ((x - n.za) * n.qm) n.qs + rnd ((y - n.zb) * n.rm) n.rs + n.qz) ok.lo ok.hi
  have oz0 := @refRight_v (n.qm) (n.qs) (n.qz)
  have oz1 := @refRight_v (n.rm) (n.rs) (n.rz)
  rcases Bool.eq_false_or_eq_true (!rightQ n.qm n.qs || !rightQ n.rm n.rs) with hc0 | hc0
  · have gc0 : rightQ n.qm n.qs = false ∨ rightQ n.rm n.rs = false := by first | (simp only [Bool.or_eq_true, Bool.or_eq_false_iff, Bool.and_eq_true, Bool.and_eq_false_iff, Bool.not_eq_true', Bool.not_eq_false', decide_eq_true_eq, decide_eq_false_iff_not, beq_iff_eq, bne_iff_ne, ne_eq, beq_eq_false_iff_ne, bne_eq_false_iff_eq, eqNums, Bool.and_true] at hc0; first | exact hc0 | omega) | simpa using hc0 | (simp at hc0 ⊢; omega) | (apply Classical.byContradiction; intro hn; simp_all [eqNums]; done) | (apply Classical.byContradiction; intro hn; simp [eqNums] at hc0 hn; omega)
    exact (VC.run (fn := Try.f34) (W := [.r [] [], .r [] [.callr (rO oz0), .op false, .op false, .op false, .callr (rO oz1), .op false, .sel 1], .br true, .r [] []]) (r := i8 0) Try.func34 (by kernel_rfl) (.c oz0 <| .c oz1 <| .c hc0 <| .n)).weak (WeakL.refl _) (Weak.int (show ((0) : Int) = (joinE x y n) from (by (unfold joinE; rw [if_neg (by intro hh; simp only [Bool.and_eq_true] at hh; simp_all)]))))
  · have gc0 : rightQ n.qm n.qs = true ∧ rightQ n.rm n.rs = true := by first | (simp only [Bool.or_eq_true, Bool.or_eq_false_iff, Bool.and_eq_true, Bool.and_eq_false_iff, Bool.not_eq_true', Bool.not_eq_false', decide_eq_true_eq, decide_eq_false_iff_not, beq_iff_eq, bne_iff_ne, ne_eq, beq_eq_false_iff_ne, bne_eq_false_iff_eq, eqNums, Bool.and_true] at hc0; first | exact hc0 | omega) | simpa using hc0 | (simp at hc0 ⊢; omega) | (apply Classical.byContradiction; intro hn; simp_all [eqNums]; done) | (apply Classical.byContradiction; intro hn; simp [eqNums] at hc0 hn; omega)
    have oz8 := @refRound_v ((x - n.za) * n.qm) (n.qs) (by omega)
    have oz14 := @refRound_v ((y - n.zb) * n.rm) (n.rs) (by omega)
    have oz15 := (IntWalk.i64_in (rnd ((x - n.za) * n.qm) n.qs + rnd ((y - n.zb) * n.rm) n.rs) (by omega))
    have oz17 := (IntWalk.i64_in (rnd ((x - n.za) * n.qm) n.qs + rnd ((y - n.zb) * n.rm) n.rs + n.qz) (by omega))
    have oz20 := @refSatHeld_v (rnd ((x - n.za) * n.qm) n.qs + rnd ((y - n.zb) * n.rm) n.rs + n.qz) (n.lo) (n.hi)
    have oz21 := (IntWalk.i8_in (clampI (rnd ((x - n.za) * n.qm) n.qs + rnd ((y - n.zb) * n.rm) n.rs + n.qz) n.lo n.hi) (by omega))
    exact (VC.run (fn := Try.f34) (W := [.r [] [], .r [] [.callr (rO oz0), .op false, .op false, .op false, .callr (rO oz1), .op false, .sel 1], .br false, .r [] [.n x, .n n.za, .n (x - n.za), .n n.qm, .n ((x - n.za) * n.qm), .callr (rO oz8)], .r [] [.n y, .n n.zb, .n (y - n.zb), .n n.rm, .n ((y - n.zb) * n.rm), .callr (rO oz14)], .r [] [.n (nO oz15), .n n.qz, .n (nO oz17), .n n.lo, .n n.hi, .callr (rO oz20), .n (nO oz21)]]) (r := i8 (clampI (rnd ((x - n.za) * n.qm) n.qs + rnd ((y - n.zb) * n.rm) n.rs + n.qz) n.lo n.hi)) Try.func34 (by kernel_rfl) (.c oz0 <| .c oz1 <| .c hc0 <| .c (IntWalk.i64_in x (by omega)) <| .c (IntWalk.i64_in n.za (by omega)) <| .c (IntWalk.i64_in (x - n.za) (by omega)) <| .c (IntWalk.i64_in n.qm (by omega)) <| .c (IntWalk.i64_in ((x - n.za) * n.qm) (by omega)) <| .c oz8 <| .c (IntWalk.i64_in y (by omega)) <| .c (IntWalk.i64_in n.zb (by omega)) <| .c (IntWalk.i64_in (y - n.zb) (by omega)) <| .c (IntWalk.i64_in n.rm (by omega)) <| .c (IntWalk.i64_in ((y - n.zb) * n.rm) (by omega)) <| .c oz14 <| .c oz15 <| .c (IntWalk.i64_in n.qz (by omega)) <| .c oz17 <| .c (IntWalk.i64_in n.lo (by omega)) <| .c (IntWalk.i64_in n.hi (by omega)) <| .c oz20 <| .c oz21 <| .n)).weak (WeakL.refl _) (Weak.int (show ((clampI (rnd ((x - n.za) * n.qm) n.qs + rnd ((y - n.zb) * n.rm) n.rs + n.qz) n.lo n.hi) : Int) = (joinE x y n) from (by (unfold joinE; rw [if_pos (by simp_all)]))))

set_option maxRecDepth 100000 in
set_option maxHeartbeats 2000000 in
theorem refActOne_v (v : Int) (n : Nod) (ok : n.Ok) (hv : In8 v) : VC Try.prog 199 ([i8 v, nod n]) (i8 (oneN v n)) := by
  have ok_za := ok.za
  have ok_qm := ok.qm
  have ok_qz := ok.qz
  have ok_lo := ok.lo
  have ok_hi := ok.hi
  have oz3 := @refHeld_v (v - n.za) (n.qm) (n.qs) (n.qz) (n.lo) (n.hi) (by omega) ok_qm ok_qz ok_lo ok_hi
  exact (VC.run (fn := Try.f199) (W := [.r [] [], .r [] [.n v, .n n.za, .n (v - n.za), .callr (rO oz3)]]) (r := i8 (heldQ (v - n.za) n.qm n.qs n.qz n.lo n.hi)) Try.func199 (by kernel_rfl) (.c (IntWalk.i32_in v (by omega)) <| .c (IntWalk.i32_in n.za (by omega)) <| .c (IntWalk.i32_in (v - n.za) (by omega)) <| .c oz3 <| .n)).weak (WeakL.refl _) (Weak.int (show ((heldQ (v - n.za) n.qm n.qs n.qz n.lo n.hi) : Int) = (oneN v n) from (by rfl)))
theorem all_le (w b : List Int) (lo hi z : Int) (g : Bool) (bl : b.length ≤ 100000) : (allR w b lo hi z g (if sharedB w b = true then b.length else 0)).length ≤ 1000000 := by
  have : (allR w b lo hi z g (if sharedB w b = true then b.length else 0)).length = if sharedB w b = true then b.length else 0 := by simp [allR]
  rw [this]; split <;> omega
/-- The ranges of a node's rows. -/
def spansN (n : Nod) (a : Rng) : List Rng := allR n.w n.b a.lo a.hi n.za (decide (n.np > 0)) (if sharedB n.w n.b = true then n.b.length else 0)
def sumG (n : Nod) (a : Rng) : Rng × Int := if (spansN n a).all holdB = true then (afterE (bothR (spansN n a) (spansN n a).length) n, 0) else (⟨0, 0⟩, 10)
theorem sumG_y {n : Nod} {a : Rng} (h : (allR n.w n.b a.lo a.hi n.za (decide (n.np > 0)) (if sharedB n.w n.b = true then n.b.length else 0)).all holdB = true) : sumG n a = (afterE (bothR (spansN n a) (spansN n a).length) n, 0) := if_pos h
set_option maxRecDepth 100000 in
set_option maxHeartbeats 2000000 in
theorem summed_v (n : Nod) (a : Rng) (ok : n.Ok) (h1 : In8 a.lo) (h2 : In8 a.hi) (wl : n.w.length ≤ 100000) (bl : n.b.length ≤ 100000) : VC Try.prog 127 ([nod n, rch a]) (.tup [rch (sumG n a).1, i64 (sumG n a).2]) := by
  have q := all_le n.w n.b a.lo a.hi n.za (decide (n.np > 0)) bl
  have oz0 := @all_v (n) (a.lo) (a.hi) ok h1 h2 wl bl
  have oz1 := @holds_v (allR n.w n.b a.lo a.hi n.za (decide (n.np > 0)) (if sharedB n.w n.b = true then n.b.length else 0)) q
  rcases Bool.eq_false_or_eq_true (!(allR n.w n.b a.lo a.hi n.za (decide (n.np > 0)) (if sharedB n.w n.b = true then n.b.length else 0)).all holdB) with hc0 | hc0
  · have gc0 : (allR n.w n.b a.lo a.hi n.za (decide (n.np > 0)) (if sharedB n.w n.b = true then n.b.length else 0)).all holdB = false := by first | exact hc0 | exact of_decide_eq_true hc0 | exact of_decide_eq_false hc0 | simpa [eqNums] using hc0 | (simp [eqNums] at hc0 ⊢; first | done | assumption | omega)
    exact (VC.run (fn := Try.f127) (W := [.r [] [], .r [] [.callr (rO oz0)], .r [] [.callr (rO oz1)], .br true, .r [] []]) (r := AV.tup [AV.agg [i8 0, i8 0], i64 10]) Try.func127 (by kernel_rfl) (.c oz0 <| .c oz1 <| .c hc0 <| .n)).weak (WeakL.refl _) (Weak.tup (.cons (Weak.agg (.cons (Weak.int (show ((0) : Int) = ((sumG n a).fst.lo) from (by (unfold sumG spansN; rw [if_neg (by simp_all)])))) (.cons (Weak.int (show ((0) : Int) = ((sumG n a).fst.hi) from (by (unfold sumG spansN; rw [if_neg (by simp_all)])))) .nil))) (.cons (Weak.int (show ((10) : Int) = ((sumG n a).snd) from (by (unfold sumG spansN; rw [if_neg (by simp_all)])))) .nil)))
  · have gc0 : (allR n.w n.b a.lo a.hi n.za (decide (n.np > 0)) (if sharedB n.w n.b = true then n.b.length else 0)).all holdB = true := by first | exact hc0 | exact of_decide_eq_true hc0 | exact of_decide_eq_false hc0 | simpa [eqNums] using hc0 | (simp [eqNums] at hc0 ⊢; first | done | assumption | omega)
    have oz3 := @both_v (allR n.w n.b a.lo a.hi n.za (decide (n.np > 0)) (if sharedB n.w n.b = true then n.b.length else 0)) q
    have oz4 := @after_v (bothR (allR n.w n.b a.lo a.hi n.za (decide (n.np > 0)) (if sharedB n.w n.b = true then n.b.length else 0)) (allR n.w n.b a.lo a.hi n.za (decide (n.np > 0)) (if sharedB n.w n.b = true then n.b.length else 0)).length) (n) ok
    exact (VC.run (fn := Try.f127) (W := [.r [] [], .r [] [.callr (rO oz0)], .r [] [.callr (rO oz1)], .br false, .r [] [.callr (rO oz3), .callr (rO oz4)], .r [] []]) (r := AV.tup [AV.agg [i8 (afterE (bothR (allR n.w n.b a.lo a.hi n.za (decide (n.np > 0)) (if sharedB n.w n.b = true then n.b.length else 0)) (allR n.w n.b a.lo a.hi n.za (decide (n.np > 0)) (if sharedB n.w n.b = true then n.b.length else 0)).length) n).lo, i8 (afterE (bothR (allR n.w n.b a.lo a.hi n.za (decide (n.np > 0)) (if sharedB n.w n.b = true then n.b.length else 0)) (allR n.w n.b a.lo a.hi n.za (decide (n.np > 0)) (if sharedB n.w n.b = true then n.b.length else 0)).length) n).hi], i64 0]) Try.func127 (by kernel_rfl) (.c oz0 <| .c oz1 <| .c hc0 <| .c oz3 <| .c oz4 <| .n)).weak (WeakL.refl _) (Weak.tup (.cons (Weak.agg (.cons (Weak.int (show (((afterE (bothR (allR n.w n.b a.lo a.hi n.za (decide (n.np > 0)) (if sharedB n.w n.b = true then n.b.length else 0)) (allR n.w n.b a.lo a.hi n.za (decide (n.np > 0)) (if sharedB n.w n.b = true then n.b.length else 0)).length) n).lo) : Int) = ((sumG n a).fst.lo) from (by (rw [sumG_y (by assumption)] <;> rfl)))) (.cons (Weak.int (show (((afterE (bothR (allR n.w n.b a.lo a.hi n.za (decide (n.np > 0)) (if sharedB n.w n.b = true then n.b.length else 0)) (allR n.w n.b a.lo a.hi n.za (decide (n.np > 0)) (if sharedB n.w n.b = true then n.b.length else 0)).length) n).hi) : Int) = ((sumG n a).fst.hi) from (by (rw [sumG_y (by assumption)] <;> rfl)))) .nil))) (.cons (Weak.int (show ((0) : Int) = ((sumG n a).snd) from (by (rw [sumG_y (by assumption)] <;> rfl)))) .nil)))
end Go.Proofs.Ytgecmooedhnenaa

/- Each channel has its own window: the law. No condition. -/
namespace Go.Proofs.Ytgecmooedhnenaa
open Go.RowKit
set_option linter.unusedSimpArgs false
set_option linter.unusedVariables false
set_option linter.unnecessarySimpa false

theorem split_div {a b c : Int} (hb : 0 ≤ b) (hc : b < c) : (a * c + b) / c = a ∧ (a * c + b) % c = b := by
  constructor
  · rw [Int.add_comm, Int.add_mul_ediv_right _ _ (by omega), Int.ediv_eq_zero_of_lt hb hc]; omega
  · rw [Int.add_comm, Int.add_mul_emod_self_right, Int.emod_eq_of_lt hb hc]
theorem dAcc_j {T : Ten} {n : Nod} (ok : DpOk T n) (h w c : Int) (i : Nat) (h0 : dAcc T n h w c (i * n.nk.toNat) = IntKind.i32.wrap (accN (n.b.getD c.toNat 0) (drow T n h w c) i)) :
    ∀ j, j ≤ n.nk.toNat → dAcc T n h w c (i * n.nk.toNat + j) = IntKind.i32.wrap (accN (n.b.getD c.toNat 0) (drow T n h w c) i + sumN (dcell T n h w c i) j)
  | 0, _ => by rw [Nat.add_zero, h0, sumN, Int.add_zero]
  | j + 1, hj => by
    have k1 := ok.n.k1
    rw [← Nat.add_assoc, dAcc, dAcc_j ok h w c i h0 j (by omega), sumN, dcell]
    have e : ((i * n.nk.toNat + j : Nat) : Int) = (i : Int) * n.nk + (j : Int) := by rw [Int.natCast_add, Int.natCast_mul, Int.toNat_of_nonneg (by omega)]
    obtain ⟨e1, e2⟩ := split_div (a := (i : Int)) (b := (j : Int)) (c := n.nk) (by omega) (by omega)
    rw [e, e1, e2]
    split
    · rw [w32_add, Int.add_assoc]
    · rw [Int.add_zero]
theorem dAcc_i {T : Ten} {n : Nod} (ok : DpOk T n) (h w c : Int) : ∀ i, dAcc T n h w c (i * n.nk.toNat) = IntKind.i32.wrap (accN (n.b.getD c.toNat 0) (drow T n h w c) i)
  | 0 => by rw [Nat.zero_mul, dAcc, accN, IntWalk.i32_in _ (gt32 ok.okn.b _)]
  | i + 1 => by rw [Nat.add_mul, Nat.one_mul, dAcc_j ok h w c i (dAcc_i ok h w c i) _ (Nat.le_refl _), accN]; rfl
theorem dAcc_eq {T : Ten} {n : Nod} (ok : DpOk T n) (h w c : Int) : dAcc T n h w c (n.nk * n.nk).toNat = IntKind.i32.wrap (dE T n h w c) := by
  have k1 := ok.n.k1
  have : (n.nk * n.nk).toNat = n.nk.toNat * n.nk.toNat := by
    apply Int.ofNat_inj.1
    rw [Int.natCast_mul, Int.toNat_of_nonneg (Int.mul_nonneg (by omega) (by omega)), Int.toNat_of_nonneg (by omega)]
  rw [this, dAcc_i ok]; rfl
/-- A list laid by three loops, seen from one. -/
theorem g_row {F : Nat → Int} {f : Nat → Nat → Nat → Int} {m x h : Nat} (hF : ∀ w c, w < x → c < m → F ((h * x + w) * m + c) = f h w c) (h0 : (List.range (h * (x * m))).map F = gH f m x h) :
    ∀ w, w ≤ x → (List.range (h * (x * m) + w * m)).map F = gH f m x h ++ gW f m h w
  | 0, _ => by simp [gW, h0]
  | w + 1, hw => by
    rw [Nat.add_mul, Nat.one_mul, ← Nat.add_assoc, List.range_add, List.map_append, g_row hF h0 w (by omega), gW, List.append_assoc, List.map_map]
    congr 2
    unfold gO
    apply List.map_congr_left
    intro c hc
    rw [← hF w c (by omega) (List.mem_range.1 hc)]
    simp only [Function.comp]
    congr 1
    rw [Nat.add_mul, Nat.mul_assoc]
theorem g_all {F : Nat → Int} {f : Nat → Nat → Nat → Int} {m x : Nat} : ∀ h, (∀ h' w c, h' < h → w < x → c < m → F ((h' * x + w) * m + c) = f h' w c) → (List.range (h * (x * m))).map F = gH f m x h
  | 0, _ => by simp [gH]
  | h + 1, hF => by
    rw [Nat.add_mul, Nat.one_mul, g_row (fun w c hw hc => hF h w c (by omega) hw hc) (g_all h fun h' w c hh => hF h' w c (by omega)) x (Nat.le_refl _), gH]
theorem dL_eq {T : Ten} {n : Nod} (ok : DpOk T n) : dL T n = gH (dF T n) T.c.toNat (depthE ⟨T.h, T.x, T.c⟩ n).1.x.toNat (depthE ⟨T.h, T.x, T.c⟩ n).1.h.toNat := by
  have nn := ok.n
  have h1 := nn.he
  have h2 := nn.xe
  have h3 := nn.c1
  unfold dL
  have e : dN T n = (depthE ⟨T.h, T.x, T.c⟩ n).1.h.toNat * ((depthE ⟨T.h, T.x, T.c⟩ n).1.x.toNat * T.c.toNat) := by
    unfold dN
    apply Int.ofNat_inj.1
    rw [Int.natCast_mul, Int.natCast_mul, Int.toNat_of_nonneg (Int.mul_nonneg (Int.mul_nonneg (by omega) (by omega)) (by omega)), Int.toNat_of_nonneg (by omega), Int.toNat_of_nonneg (by omega), Int.toNat_of_nonneg (by omega), Int.mul_assoc]
  rw [e]
  refine g_all _ fun h w c hh hw hc => ?_
  have e0 : (((h * (depthE ⟨T.h, T.x, T.c⟩ n).1.x.toNat + w) * T.c.toNat + c : Nat) : Int) = ((h : Int) * (depthE ⟨T.h, T.x, T.c⟩ n).1.x + (w : Int)) * T.c + (c : Int) := by
    rw [Int.natCast_add, Int.natCast_mul, Int.natCast_add, Int.natCast_mul, Int.toNat_of_nonneg (by omega), Int.toNat_of_nonneg (by omega)]
  obtain ⟨e1, e2⟩ := split_div (a := (h : Int) * (depthE ⟨T.h, T.x, T.c⟩ n).1.x + (w : Int)) (b := (c : Int)) (c := T.c) (by omega) (by omega)
  obtain ⟨e3, e4⟩ := split_div (a := (h : Int)) (b := (w : Int)) (c := (depthE ⟨T.h, T.x, T.c⟩ n).1.x) (by omega) (by omega)
  simp only [e0, e1, e2, e3, e4]
  exact dAcc_eq ok _ _ _
/-- What comes of it, or why nothing. -/
def depthOf (T : Ten) (n : Nod) : Ten × Int := if tenRight T = false then (⟨0, 0, 0, []⟩, 5) else if (depthE ⟨T.h, T.x, T.c⟩ n).2 ≠ 0 then (⟨0, 0, 0, []⟩, (depthE ⟨T.h, T.x, T.c⟩ n).2) else (⟨(depthE ⟨T.h, T.x, T.c⟩ n).1.h, (depthE ⟨T.h, T.x, T.c⟩ n).1.x, (depthE ⟨T.h, T.x, T.c⟩ n).1.c, dL T n⟩, 0)

set_option maxRecDepth 100000 in
set_option maxHeartbeats 2000000 in
theorem rdOf_n (T : Ten) (n : Nod) (ok : T.Ok) (okn : n.Ok) (hn : tenRight T = false ∨ (depthE ⟨T.h, T.x, T.c⟩ n).2 ≠ 0) : VC Try.prog 75 ([ten .i8 T, nod n]) (.tup [ten .i32 (depthOf T n).1, i64 (depthOf T n).2]) := by
  have oz0 := @refTRight_v (T) ok
  rcases Bool.eq_false_or_eq_true (!tenRight T) with hc0 | hc0
  · have gc0 : tenRight T = false := by first | exact hc0 | exact of_decide_eq_true hc0 | exact of_decide_eq_false hc0 | simpa [eqNums] using hc0 | (simp [eqNums] at hc0 ⊢; first | done | assumption | omega)
    exact (VC.run (fn := Try.f75) (W := [.r [] [], .r [] [.callr (rO oz0)], .br true, .r [] []]) (r := AV.tup [AV.agg [i64 0, i64 0, i64 0, AV.lit (Value.slice none 0 0)], i64 5]) Try.func75 (by kernel_rfl) (.c oz0 <| .c hc0 <| .n)).weak (WeakL.refl _) (Weak.tup (.cons (Weak.agg (.cons (Weak.int (show ((0) : Int) = ((depthOf T n).fst.h) from (by (simp only [depthOf]; rw [if_pos (by simp_all)]; first | done | rfl)))) (.cons (Weak.int (show ((0) : Int) = ((depthOf T n).fst.x) from (by (simp only [depthOf]; rw [if_pos (by simp_all)]; first | done | rfl)))) (.cons (Weak.int (show ((0) : Int) = ((depthOf T n).fst.c) from (by (simp only [depthOf]; rw [if_pos (by simp_all)]; first | done | rfl)))) (.cons (Weak.nilr (show [] = (List.map (row1 IntKind.i32) (depthOf T n).fst.d) from (by (simp only [depthOf]; rw [if_pos (by simp_all)]; first | done | rfl)))) .nil))))) (.cons (Weak.int (show ((5) : Int) = ((depthOf T n).snd) from (by (simp only [depthOf]; rw [if_pos (by simp_all)]; first | done | rfl)))) .nil)))
  · have gc0 : tenRight T = true := by first | exact hc0 | exact of_decide_eq_true hc0 | exact of_decide_eq_false hc0 | simpa [eqNums] using hc0 | (simp [eqNums] at hc0 ⊢; first | done | assumption | omega)
    have oz2 := @refDepthShape_v (Shp.mk T.h T.x T.c) (n) (by (exact Shp.mk_ok ok.h ok.x ok.c)) okn
    exact (VC.run (fn := Try.f75) (W := [.r [] [], .r [] [.callr (rO oz0)], .br false, .r [] [.callr (rO oz2)], .r [] [], .br true, .r [] []]) (r := AV.tup [AV.agg [i64 0, i64 0, i64 0, AV.lit (Value.slice none 0 0)], i64 (depthE (Shp.mk T.h T.x T.c) n).snd]) Try.func75 (by kernel_rfl) (.c oz0 <| .c hc0 <| .c oz2 <| .c (show ((depthE (Shp.mk T.h T.x T.c) n).snd != 0) = true by (rcases hn with hn | hn <;> simp_all; done)) <| .n)).weak (WeakL.refl _) (Weak.tup (.cons (Weak.agg (.cons (Weak.int (show ((0) : Int) = ((depthOf T n).fst.h) from (by (simp only [depthOf]; rw [if_neg (by simp_all), if_pos (by rcases hn with hn | hn <;> simp_all)]; first | done | rfl)))) (.cons (Weak.int (show ((0) : Int) = ((depthOf T n).fst.x) from (by (simp only [depthOf]; rw [if_neg (by simp_all), if_pos (by rcases hn with hn | hn <;> simp_all)]; first | done | rfl)))) (.cons (Weak.int (show ((0) : Int) = ((depthOf T n).fst.c) from (by (simp only [depthOf]; rw [if_neg (by simp_all), if_pos (by rcases hn with hn | hn <;> simp_all)]; first | done | rfl)))) (.cons (Weak.nilr (show [] = (List.map (row1 IntKind.i32) (depthOf T n).fst.d) from (by (simp only [depthOf]; rw [if_neg (by simp_all), if_pos (by rcases hn with hn | hn <;> simp_all)]; first | done | rfl)))) .nil))))) (.cons (Weak.int (show (((depthE (Shp.mk T.h T.x T.c) n).snd) : Int) = ((depthOf T n).snd) from (by (simp only [depthOf]; rw [if_neg (by simp_all), if_pos (by rcases hn with hn | hn <;> simp_all)]; first | done | rfl)))) .nil)))
theorem rdOf_v (T : Ten) (n : Nod) (ok : T.Ok) (okn : n.Ok) : VC Try.prog 75 [ten .i8 T, nod n] (.tup [ten .i32 (depthOf T n).1, i64 (depthOf T n).2]) := by
  cases hr : tenRight T with
  | false => exact rdOf_n T n ok okn (.inl hr)
  | true =>
    by_cases he : (depthE ⟨T.h, T.x, T.c⟩ n).2 = 0
    · have h := rdOf_x T n ⟨ok, okn, hr, he⟩
      have e : depthOf T n = (⟨(depthE ⟨T.h, T.x, T.c⟩ n).1.h, (depthE ⟨T.h, T.x, T.c⟩ n).1.x, (depthE ⟨T.h, T.x, T.c⟩ n).1.c, dL T n⟩, 0) := by
        unfold depthOf
        rw [if_neg (by simp [hr]), if_neg (by simpa using he)]
      rw [e]; rw [dL_eq ⟨ok, okn, hr, he⟩]; exact h
    · exact rdOf_n T n ok okn (.inr he)
theorem depthOf_len (T : Ten) (n : Nod) (ok : T.Ok) (okn : n.Ok) : (depthOf T n).1.d.length ≤ 1024 := by
  unfold depthOf
  split
  · simp
  · split
    · simp
    · rename_i h1 h2
      have nn := DpOk.n (T := T) (n := n) ⟨ok, okn, by simpa using h1, by simpa using h2⟩
      rw [dL_len]
      have h3 := nn.el
      unfold dN; omega
end Go.Proofs.Ytgecmooedhnenaa

/- Sums of all numbers; numbers one by one; two tensors as one; by the document. No condition. -/
namespace Go.Proofs.Ytgecmooedhnenaa
open Go.RowKit
set_option linter.unusedSimpArgs false
set_option linter.unusedVariables false
set_option linter.unnecessarySimpa false

/-- A sum of all numbers, over whole numbers. -/
def dnT (x w : List Int) (z o : Int) (i : Nat) : Int := w.getD (o * x.length + i).toNat 0 * (x.getD i 0 - z)
def dnS (x w b : List Int) (z o : Int) : Int := accN (b.getD o.toNat 0) (dnT x w z o) x.length
theorem dnT_bd {x w : List Int} (hx : ∀ v ∈ x, In8 v) (hw : ∀ v ∈ w, In8 v) {z : Int} (hz : In8 z) (o : Int) (i : Nat) : -32640 ≤ dnT x w z o i ∧ dnT x w z o i ≤ 32640 := by
  have h1 := gt8 hw (o * x.length + i).toNat
  have h2 := gt8 hx i
  have := prod_bd h1 (b := x.getD i 0 - z) (by omega)
  unfold dnT; omega
noncomputable def dense_s_I (x w b : List Int) (z o : Int) (k : Nat) : VS := stt 46 [(0, ints .i8 x), (1, ints .i8 w), (3, i8 z), (4, i64 o), (11, i64 (accN (b.getD o.toNat 0) (dnT x w z o) k)), (12, i64 k)] []
noncomputable def dense_s_Z (x w b : List Int) (z o : Int) : VS := dense_s_I x w b z o (x.length)
set_option maxRecDepth 100000 in
set_option maxHeartbeats 2000000 in
theorem dense_s_s (x w b : List Int) (z o : Int) (hx : ∀ v ∈ x, In8 v) (hw : ∀ v ∈ w, In8 v) (hb : ∀ v ∈ b, In32 v) (hz : In8 z) (o0 : 0 ≤ o) (o1 : o < b.length) (xl : x.length ≤ 1024) (hl : w.length = x.length * b.length) (wl : w.length ≤ 16384) (k : Nat) (hk : k < x.length) : VT Try.prog (fnC Try.f79 [1, 1, 0, 1, 0, 0]) (dense_s_I x w b z o k) .normal (dense_s_I x w b z o (k + 1)) := by
  have g1 := dnT_bd hx hw hz o k
  have g2 := sumN_bd (B := 32640) (f := dnT x w z o) k fun i _ => dnT_bd hx hw hz o i
  have g3 := accN_eq (b.getD o.toNat 0) (dnT x w z o) k
  have g4 := gt32 hb o.toNat
  have g5 := gt8 hw (o * x.length + k).toNat
  have g6 := gt8 hx k
  have g7 := idx_bd (a := o) (m := b.length) (b := (k : Int)) (n := x.length) o0 o1 (by omega) (by omega)
  have g8 : ((b.length : Int) * x.length) = (w.length : Int) := by rw [hl, Int.natCast_mul, Int.mul_comm]
  have g9 : 0 ≤ o * x.length := Int.mul_nonneg o0 (by omega)
  have ga : (List.map (row1 .i8) x).length = x.length := List.length_map _
  have gb := prod_bd g5 (b := x.getD k 0 - z) (by omega)
  have gc : accN (b.getD o.toNat 0) (dnT x w z o) (k + 1) = accN (b.getD o.toNat 0) (dnT x w z o) k + w.getD (o * x.length + k).toNat 0 * (x.getD k 0 - z) := rfl
  rw [← ga] at g5 gb g7 g8 g9 gc
  have gd : IntKind.i64.wrap (o * ((List.map (row1 .i8) x).length : Int)) = o * ((List.map (row1 .i8) x).length : Int) := IntWalk.i64_in _ (by omega)
  have ge : IntKind.i64.wrap (o * ((List.map (row1 .i8) x).length : Int) + k) = o * ((List.map (row1 .i8) x).length : Int) + k := IntWalk.i64_in _ (by omega)
  have oz4 := (map_at (row1 IntKind.i8) (0) (l := w) (i := (o * (↑(List.map (row1 IntKind.i8) x).length : Int) + (↑k : Int)).toNat) (by omega))
  have oz5 := (IntWalk.i64_in (w.getD (o * (↑(List.map (row1 IntKind.i8) x).length : Int) + (↑k : Int)).toNat 0) (by omega))
  have oz11 := (IntWalk.i64_in (w.getD (o * (↑(List.map (row1 IntKind.i8) x).length : Int) + (↑k : Int)).toNat 0 * (x.getD k 0 - z)) (by omega))
  have oz12 := (IntWalk.i64_in (accN (b.getD o.toNat 0) (dnT x w z o) k + w.getD (o * (↑(List.map (row1 IntKind.i8) x).length : Int) + (↑k : Int)).toNat 0 * (x.getD k 0 - z)) (by omega))
  have oz14 := (Weak.int (k := .i64) (show ((accN (b.getD o.toNat 0) (dnT x w z o) k + w.getD (o * (↑(List.map (row1 IntKind.i8) x).length : Int) + (↑k : Int)).toNat 0 * (x.getD k 0 - z)) : Int) = (accN (b.getD o.toNat 0) (dnT x w z o) (k + 1)) from (by omega)))
  exact VT.run (W := [.r [] [], .br true, .r [] [.n (nO gd), .n (nO ge), .row (sO oz4), .n (nO oz5), .row [i8 (x.getD k 0)], .n (x.getD k 0), .n z, .n (x.getD k 0 - z), .n (nO oz11), .n (nO oz12)], .r [] [.n ((↑k : Int) + 1)]]) (G := [.any (rg [(18, 27)]), .weak 11 (wO oz14), .weak 12 (i64 (↑(k + 1) : Int)), .sort]) (by kernel_rfl) (.c (decide_eq_true (p := ((↑k : Int) < (↑(List.map (row1 IntKind.i8) x).length : Int))) (by omega)) <| .c gd <| .c ge <| .c (show 0 ≤ o * (↑(List.map (row1 IntKind.i8) x).length : Int) + (↑k : Int) by omega) <| .c oz4 <| .c oz5 <| .c (show 0 ≤ (↑k : Int) by omega) <| .c (map_at (row1 IntKind.i8) (0) (l := x) (i := k) hk) <| .c (IntWalk.i64_in (x.getD k 0) (by omega)) <| .c (IntWalk.i64_in z (by omega)) <| .c (IntWalk.i64_in (x.getD k 0 - z) (by omega)) <| .c oz11 <| .c oz12 <| .c (IntWalk.i64_in ((↑k : Int) + 1) (by omega)) <| .c oz14 <| .c (Weak.int (k := .i64) (show (((↑k : Int) + 1) : Int) = ((↑(k + 1) : Int)) from (by omega))) <| .n)
set_option maxRecDepth 100000 in
set_option maxHeartbeats 2000000 in
theorem dense_s_e (x w b : List Int) (z o : Int) (hx : ∀ v ∈ x, In8 v) (hw : ∀ v ∈ w, In8 v) (hb : ∀ v ∈ b, In32 v) (hz : In8 z) (o0 : 0 ≤ o) (o1 : o < b.length) (xl : x.length ≤ 1024) (hl : w.length = x.length * b.length) (wl : w.length ≤ 16384) : VT Try.prog (fnC Try.f79 [1, 1, 0, 1, 0, 0]) (dense_s_I x w b z o (x.length)) (.exit 0) (dense_s_Z x w b z o) := by
  exact VT.run (W := [.r [] [], .br false]) (G := [.any (rg [(18, 4)]), .sort]) (by kernel_rfl) (.c (show decide ((↑x.length : Int) < (↑(List.map (row1 IntKind.i8) x).length : Int)) = false by (simp; done)) <| .n)
theorem dense_s (x w b : List Int) (z o : Int) (hx : ∀ v ∈ x, In8 v) (hw : ∀ v ∈ w, In8 v) (hb : ∀ v ∈ b, In32 v) (hz : In8 z) (o0 : 0 ≤ o) (o1 : o < b.length) (xl : x.length ≤ 1024) (hl : w.length = x.length * b.length) (wl : w.length ≤ 16384) : VT Try.prog (fnC Try.f79 [1, 1, 0, 1, 0]) (dense_s_I x w b z o 0) (.exit 0) (dense_s_Z x w b z o) :=
  VT.loop (fun k => dense_s_I x w b z o k) (x.length) (fun k hk => dense_s_s x w b z o hx hw hb hz o0 o1 xl hl wl k hk) (dense_s_e x w b z o hx hw hb hz o0 o1 xl hl wl) (by intro h; cases h)

set_option maxRecDepth 100000 in
set_option maxHeartbeats 2000000 in
theorem denseS_v (x w b : List Int) (z o : Int) (hx : ∀ v ∈ x, In8 v) (hw : ∀ v ∈ w, In8 v) (hb : ∀ v ∈ b, In32 v) (hz : In8 z) (o0 : 0 ≤ o) (o1 : o < b.length) (xl : x.length ≤ 1024) (hl : w.length = x.length * b.length) (wl : w.length ≤ 16384) : VC Try.prog 79 ([ints .i8 x, ints .i8 w, ints .i32 b, i8 z, i64 o]) (i64 (dnS x w b z o)) := by
  have g4 := gt32 hb o.toNat
  have oz4 := @dense_s (x) (w) (b) (z) (o) hx hw hb hz o0 o1 xl hl wl
  exact (VC.run (fn := Try.f79) (W := [.r [] [], .r [] [.row [i32 (b.getD o.toNat 0)], .n (b.getD o.toNat 0)], .r [] [], .code [.any [2, 10, 13, 14, 15, 16, 17], .weak 12 (i64 (↑0 : Int)), .sort] (Exit.exit 0) (zO oz4), .r [] []]) (r := i64 (accN (b.getD o.toNat 0) (dnT x w z o) x.length)) Try.func79 (by kernel_rfl) (.c o0 <| .c (map_at (row1 IntKind.i32) (0) (l := b) (i := o.toNat) (by omega)) <| .c (IntWalk.i64_in (b.getD o.toNat 0) (by omega)) <| .c (Weak.int (k := .i64) (show ((0) : Int) = ((↑0 : Int)) from (by omega))) <| .c oz4 <| .n)).weak (WeakL.refl _) (Weak.int (show ((accN (b.getD o.toNat 0) (dnT x w z o) x.length) : Int) = (dnS x w b z o) from (by rfl)))
def lineL (x w b : List Int) (z : Int) (k : Nat) : List Int := (List.range k).map fun o : Nat => IntKind.i32.wrap (dnS x w b z o)
theorem lineL_succ (x w b : List Int) (z : Int) (k : Nat) : lineL x w b z (k + 1) = lineL x w b z k ++ [IntKind.i32.wrap (dnS x w b z k)] := by simp [lineL, List.range_succ]
theorem lineL_len (x w b : List Int) (z : Int) (k : Nat) : (lineL x w b z k).length = k := by simp [lineL]
noncomputable def line_l_I (x w b : List Int) (z : Int) (k : Nat) : VS := stt 46 [(0, ints .i8 x), (1, ints .i8 w), (2, ints .i32 b), (3, i8 z), (9, .own 900), (10, i64 k)] [(900, .slc 21 1 ((lineL x w b z k).map (row1 .i32)))]
noncomputable def line_l_Z (x w b : List Int) (z : Int) : VS := line_l_I x w b z (b.length)
set_option maxRecDepth 100000 in
set_option maxHeartbeats 2000000 in
theorem line_l_s (x w b : List Int) (z : Int) (hx : ∀ v ∈ x, In8 v) (hw : ∀ v ∈ w, In8 v) (hb : ∀ v ∈ b, In32 v) (hz : In8 z) (xl : x.length ≤ 1024) (hl : w.length = x.length * b.length) (wl : w.length ≤ 16384) (bl : b.length ≤ 1024) (k : Nat) (hk : k < b.length) : VT Try.prog (fnC Try.f142 [1, 1, 1, 0, 1, 0, 0]) (line_l_I x w b z k) .normal (line_l_I x w b z (k + 1)) := by
  have g1 := lineL_len x w b z k
  have oz1 := @denseS_v (x) (w) (b) (z) ((↑k : Int)) hx hw hb hz (by omega) (by omega) xl hl wl
  exact VT.run (W := [.r [] [], .br true, .r [] [.callr (rO oz1), .w], .r [] [.n ((↑k : Int) + 1)]]) (G := [.any (rg [(29, 16)]), .drop [43], .ren 44 900, .weak 10 (i64 (↑(k + 1) : Int)), .blk 900 (Blk.slc 21 1 (List.map (row1 IntKind.i32) (lineL x w b z (k + 1)))), .sort]) (by kernel_rfl) (.c (show decide ((↑k : Int) < (↑(List.map (row1 IntKind.i32) b).length : Int)) = true by (simp; omega)) <| .c oz1 <| .c (show ((List.map (row1 IntKind.i32) (lineL x w b z k)).length + 1) * 4 ≤ 140737488355328 by (simp; omega)) <| .c (show (List.map (row1 IntKind.i32) (lineL x w b z k)).length + 1 ≤ 9223372036854775807 by (simp; omega)) <| .c (IntWalk.i64_in ((↑k : Int) + 1) (by omega)) <| .c (Weak.int (k := .i64) (show (((↑k : Int) + 1) : Int) = ((↑(k + 1) : Int)) from (by omega))) <| .c (show BlkW (Blk.slc 21 1 (List.map (row1 IntKind.i32) (lineL x w b z k) ++ [[i32 (IntKind.i32.wrap (dnS x w b z (↑k : Int)))]])) (Blk.slc 21 1 (List.map (row1 IntKind.i32) (lineL x w b z (k + 1)))) from (BlkW.rows (rows_to (row1 IntKind.i32) (r := List.map (row1 IntKind.i32) (lineL x w b z k) ++ [[i32 (IntKind.i32.wrap (dnS x w b z (↑k : Int)))]]) (l := lineL x w b z k ++ [IntKind.i32.wrap (dnS x w b z (↑k : Int))]) (m := lineL x w b z (k + 1)) (by first | (simp only [List.map_append, List.map_cons, List.map_nil, List.map_set, List.map_replicate, List.map_take, List.map_drop]; done) | rfl | (simp only [List.map_append, List.map_cons, List.map_nil, List.map_set, List.map_replicate, List.map_take, List.map_drop]; rfl)) (show (lineL x w b z k ++ [IntKind.i32.wrap (dnS x w b z (↑k : Int))]) = (lineL x w b z (k + 1)) from (by (rw [lineL_succ])))))) <| .n)
set_option maxRecDepth 100000 in
set_option maxHeartbeats 2000000 in
theorem line_l_e (x w b : List Int) (z : Int) (hx : ∀ v ∈ x, In8 v) (hw : ∀ v ∈ w, In8 v) (hb : ∀ v ∈ b, In32 v) (hz : In8 z) (xl : x.length ≤ 1024) (hl : w.length = x.length * b.length) (wl : w.length ≤ 16384) (bl : b.length ≤ 1024) : VT Try.prog (fnC Try.f142 [1, 1, 1, 0, 1, 0, 0]) (line_l_I x w b z (b.length)) (.exit 0) (line_l_Z x w b z) := by
  exact VT.run (W := [.r [] [], .br false]) (G := [.any (rg [(29, 4)]), .sort]) (by kernel_rfl) (.c (show decide ((↑b.length : Int) < (↑(List.map (row1 IntKind.i32) b).length : Int)) = false by (simp; done)) <| .n)
theorem line_l (x w b : List Int) (z : Int) (hx : ∀ v ∈ x, In8 v) (hw : ∀ v ∈ w, In8 v) (hb : ∀ v ∈ b, In32 v) (hz : In8 z) (xl : x.length ≤ 1024) (hl : w.length = x.length * b.length) (wl : w.length ≤ 16384) (bl : b.length ≤ 1024) : VT Try.prog (fnC Try.f142 [1, 1, 1, 0, 1, 0]) (line_l_I x w b z 0) (.exit 0) (line_l_Z x w b z) :=
  VT.loop (fun k => line_l_I x w b z k) (b.length) (fun k hk => line_l_s x w b z hx hw hb hz xl hl wl bl k hk) (line_l_e x w b z hx hw hb hz xl hl wl bl) (by intro h; cases h)

set_option maxRecDepth 100000 in
set_option maxHeartbeats 2000000 in
theorem line_v (x w b : List Int) (z : Int) (hx : ∀ v ∈ x, In8 v) (hw : ∀ v ∈ w, In8 v) (hb : ∀ v ∈ b, In32 v) (hz : In8 z) (x0 : x ≠ []) (b0 : b ≠ []) (xl : x.length ≤ 1024) (hl : w.length = x.length * b.length) (wl : w.length ≤ 16384) (bl : b.length ≤ 1024) : VC Try.prog 142 ([ints .i8 x, ints .i8 w, ints .i32 b, i8 z]) (ints .i32 (lineL x w b z b.length)) := by
  have g1 : (x.length : Int) * b.length = w.length := by rw [hl, Int.natCast_mul]
  have g2 : x.length ≠ 0 := by simpa using x0
  have g3 : b.length ≠ 0 := by simpa using b0
  have g4 : (List.map (row1 .i8) x).length = x.length := List.length_map _
  have g5 : (List.map (row1 .i32) b).length = b.length := List.length_map _
  have g6 : (List.map (row1 .i8) w).length = w.length := List.length_map _
  have g7 : ((List.map (row1 .i8) x).length : Int) * ((List.map (row1 .i32) b).length : Int) = w.length := by rw [g4, g5]; exact g1
  have oz0 := (show ((↑(List.map (row1 IntKind.i8) x).length : Int) == 0) = false by (refine decide_eq_false ?_; omega))
  have oz4 := (show ((↑(List.map (row1 IntKind.i32) b).length : Int) == 0) = false by (refine decide_eq_false ?_; omega))
  have oz11 := (IntWalk.i64_in ((↑(List.map (row1 IntKind.i8) x).length : Int) * (↑(List.map (row1 IntKind.i32) b).length : Int)) (by omega))
  have oz16 := @line_l (x) (w) (b) (z) hx hw hb hz xl hl wl bl
  exact VC.run (fn := Try.f142) (W := [.r [] [], .r [] [.br true, .br true, .br true, .br false, .br true, .br true, .br true, .br true, .br true, .br true, .br true, .n (nO oz11), .br true, .br false], .br false, .r [] [], .r [] [], .code [.any (rg [(8, 1), (11, 18)]), .weak 10 (i64 (↑0 : Int)), .nils 9 900 21 1, .sort] (Exit.exit 0) (zO oz16), .r [] []]) Try.func142 (by kernel_rfl) (.c oz0 <| .c oz0 <| .c oz0 <| .c oz0 <| .c oz4 <| .c oz4 <| .c oz4 <| .c oz4 <| .c oz4 <| .c oz4 <| .c oz4 <| .c oz11 <| .c oz4 <| .c oz4 <| .c (show ((↑(List.map (row1 IntKind.i8) w).length : Int) != (↑(List.map (row1 IntKind.i8) x).length : Int) * (↑(List.map (row1 IntKind.i32) b).length : Int)) = false by (simp; omega)) <| .c (Weak.int (k := .i64) (show ((0) : Int) = ((↑0 : Int)) from (by omega))) <| .c oz16 <| .n)
/-- Sums of a tensor's numbers, row by row of weights. -/
def denseOf (T : Ten) (n : Nod) : Ten × Int := if tenRight T = false then (ten0, 5) else if (denseE ⟨T.h, T.x, T.c⟩ n).2 ≠ 0 then (ten0, (denseE ⟨T.h, T.x, T.c⟩ n).2) else (⟨(denseE ⟨T.h, T.x, T.c⟩ n).1.h, (denseE ⟨T.h, T.x, T.c⟩ n).1.x, (denseE ⟨T.h, T.x, T.c⟩ n).1.c, lineL T.d n.w n.b n.za n.b.length⟩, 0)
theorem denseE_ok {t : Shp} {n : Nod} (h : (denseE t n).2 = 0) : 0 < elems t.h t.x t.c ∧ 1 ≤ n.no ∧ n.no ≤ 1024 ∧ (n.w.length : Int) = n.no * elems t.h t.x t.c ∧ n.w.length ≤ 16384 ∧ (n.b.length : Int) = n.no ∧ (denseE t n).1 = ⟨1, 1, n.no⟩ := by
  unfold denseE at h ⊢
  have e0 := elems_in t.h t.x t.c
  have e1 := elems_in 1 1 n.no
  split at h
  · simp at h
  · split at h
    · simp at h
    · rename_i h1 h2
      rw [if_neg h1, if_neg h2]
      have c := elems_ok (h := 1) (x := 1) (c := n.no) (by omega)
      exact ⟨by omega, by omega, by omega, by omega, by omega, by omega, rfl⟩
structure DnOk (T : Ten) (n : Nod) : Prop where
  ok : T.Ok
  okn : n.Ok
  r : tenRight T = true
  e : (denseE ⟨T.h, T.x, T.c⟩ n).2 = 0
theorem DnOk.n {T : Ten} {n : Nod} (h : DnOk T n) : T.d ≠ [] ∧ n.b ≠ [] ∧ T.d.length ≤ 1024 ∧ n.w.length = T.d.length * n.b.length ∧ n.w.length ≤ 16384 ∧ n.b.length ≤ 1024 := by
  obtain ⟨e1, e2, e3, e4, e5, e6, e7⟩ := denseE_ok h.e
  have r := tenRight.rt h.r
  have r1 := r.dl
  have r2 := r.en
  have r3 := r.el
  dsimp only at *
  refine ⟨?_, ?_, by omega, ?_, e5, by omega⟩
  · intro h0; rw [h0] at r1; simp at r1; omega
  · intro h0; rw [h0] at e6; simp at e6; omega
  · apply Int.ofNat_inj.1
    rw [Int.natCast_mul, e4, r2, ← r1, ← e6, Int.mul_comm]
set_option maxRecDepth 100000 in
set_option maxHeartbeats 2000000 in
theorem dense_y (T : Ten) (n : Nod) (ok : DnOk T n) : VC Try.prog 76 ([ten .i8 T, nod n]) (.tup [ten .i32 (denseOf T n).1, i64 (denseOf T n).2]) := by
  obtain ⟨o1, o2, o3, o4⟩ := id ok
  obtain ⟨g1, g2, g3, g4, g5, g6⟩ := ok.n
  have k1 := o1.d
  have k2 := o2.w
  have k3 := o2.b
  have k4 := o2.za
  have oz0 := @refTRight_v (T) o1
  have oz2 := @refDenseShape_v (Shp.mk T.h T.x T.c) (n) (by (exact Shp.mk_ok o1.h o1.x o1.c)) o2
  have oz4 := @line_v (T.d) (n.w) (n.b) (n.za) k1 k2 k3 k4 g1 g2 g3 g4 g5 g6
  exact (VC.run (fn := Try.f76) (W := [.r [] [], .r [] [.callr (rO oz0)], .br false, .r [] [.callr (rO oz2)], .r [] [], .br false, .r [] [.callr (rO oz4)]]) (r := AV.tup [AV.agg [i64 (denseE (Shp.mk T.h T.x T.c) n).fst.h, i64 (denseE (Shp.mk T.h T.x T.c) n).fst.x, i64 (denseE (Shp.mk T.h T.x T.c) n).fst.c, AV.sl 1 (List.map (row1 IntKind.i32) (lineL T.d n.w n.b n.za n.b.length))], i64 0]) Try.func76 (by kernel_rfl) (.c oz0 <| .c (show (!tenRight T) = false by (simp; omega)) <| .c oz2 <| .c (show ((denseE (Shp.mk T.h T.x T.c) n).snd != 0) = false by (simp; omega)) <| .c oz4 <| .n)).weak (WeakL.refl _) (Weak.tup (.cons (Weak.agg (.cons (Weak.int (show (((denseE (Shp.mk T.h T.x T.c) n).fst.h) : Int) = ((denseOf T n).fst.h) from (by (unfold denseOf; rw [if_neg (by simp [o3]), if_neg (by simp [o4])])))) (.cons (Weak.int (show (((denseE (Shp.mk T.h T.x T.c) n).fst.x) : Int) = ((denseOf T n).fst.x) from (by (unfold denseOf; rw [if_neg (by simp [o3]), if_neg (by simp [o4])])))) (.cons (Weak.int (show (((denseE (Shp.mk T.h T.x T.c) n).fst.c) : Int) = ((denseOf T n).fst.c) from (by (unfold denseOf; rw [if_neg (by simp [o3]), if_neg (by simp [o4])])))) (.cons (Weak.rows (rows_to (row1 IntKind.i32) (r := List.map (row1 IntKind.i32) (lineL T.d n.w n.b n.za n.b.length)) (l := lineL T.d n.w n.b n.za n.b.length) (m := (denseOf T n).fst.d) rfl (show (lineL T.d n.w n.b n.za n.b.length) = ((denseOf T n).fst.d) from (by (unfold denseOf; rw [if_neg (by simp [o3]), if_neg (by simp [o4])]))))) .nil))))) (.cons (Weak.int (show ((0) : Int) = ((denseOf T n).snd) from (by (unfold denseOf; rw [if_neg (by simp [o3]), if_neg (by simp [o4])])))) .nil)))

set_option maxRecDepth 100000 in
set_option maxHeartbeats 2000000 in
theorem dense_n (T : Ten) (n : Nod) (ok : T.Ok) (okn : n.Ok) (hn : tenRight T = false ∨ (denseE ⟨T.h, T.x, T.c⟩ n).2 ≠ 0) : VC Try.prog 76 ([ten .i8 T, nod n]) (.tup [ten .i32 (denseOf T n).1, i64 (denseOf T n).2]) := by
  have oz0 := @refTRight_v (T) ok
  rcases Bool.eq_false_or_eq_true (!tenRight T) with hc0 | hc0
  · have gc0 : tenRight T = false := by first | exact hc0 | exact of_decide_eq_true hc0 | exact of_decide_eq_false hc0 | simpa [eqNums] using hc0 | (simp [eqNums] at hc0 ⊢; first | done | assumption | omega)
    exact (VC.run (fn := Try.f76) (W := [.r [] [], .r [] [.callr (rO oz0)], .br true, .r [] []]) (r := AV.tup [AV.agg [i64 0, i64 0, i64 0, AV.lit (Value.slice none 0 0)], i64 5]) Try.func76 (by kernel_rfl) (.c oz0 <| .c hc0 <| .n)).weak (WeakL.refl _) (Weak.tup (.cons (Weak.agg (.cons (Weak.int (show ((0) : Int) = ((denseOf T n).fst.h) from (by (simp only [denseOf]; rw [if_pos (by simp_all)]; first | done | rfl)))) (.cons (Weak.int (show ((0) : Int) = ((denseOf T n).fst.x) from (by (simp only [denseOf]; rw [if_pos (by simp_all)]; first | done | rfl)))) (.cons (Weak.int (show ((0) : Int) = ((denseOf T n).fst.c) from (by (simp only [denseOf]; rw [if_pos (by simp_all)]; first | done | rfl)))) (.cons (Weak.nilr (show [] = (List.map (row1 IntKind.i32) (denseOf T n).fst.d) from (by (simp only [denseOf]; rw [if_pos (by simp_all)]; first | done | rfl)))) .nil))))) (.cons (Weak.int (show ((5) : Int) = ((denseOf T n).snd) from (by (simp only [denseOf]; rw [if_pos (by simp_all)]; first | done | rfl)))) .nil)))
  · have gc0 : tenRight T = true := by first | exact hc0 | exact of_decide_eq_true hc0 | exact of_decide_eq_false hc0 | simpa [eqNums] using hc0 | (simp [eqNums] at hc0 ⊢; first | done | assumption | omega)
    have oz2 := @refDenseShape_v (Shp.mk T.h T.x T.c) (n) (by (exact Shp.mk_ok ok.h ok.x ok.c)) okn
    exact (VC.run (fn := Try.f76) (W := [.r [] [], .r [] [.callr (rO oz0)], .br false, .r [] [.callr (rO oz2)], .r [] [], .br true, .r [] []]) (r := AV.tup [AV.agg [i64 0, i64 0, i64 0, AV.lit (Value.slice none 0 0)], i64 (denseE (Shp.mk T.h T.x T.c) n).snd]) Try.func76 (by kernel_rfl) (.c oz0 <| .c hc0 <| .c oz2 <| .c (show ((denseE (Shp.mk T.h T.x T.c) n).snd != 0) = true by (rcases hn with hn | hn <;> simp_all; done)) <| .n)).weak (WeakL.refl _) (Weak.tup (.cons (Weak.agg (.cons (Weak.int (show ((0) : Int) = ((denseOf T n).fst.h) from (by (simp only [denseOf]; rw [if_neg (by simp_all), if_pos (by rcases hn with hn | hn <;> simp_all)]; first | done | rfl)))) (.cons (Weak.int (show ((0) : Int) = ((denseOf T n).fst.x) from (by (simp only [denseOf]; rw [if_neg (by simp_all), if_pos (by rcases hn with hn | hn <;> simp_all)]; first | done | rfl)))) (.cons (Weak.int (show ((0) : Int) = ((denseOf T n).fst.c) from (by (simp only [denseOf]; rw [if_neg (by simp_all), if_pos (by rcases hn with hn | hn <;> simp_all)]; first | done | rfl)))) (.cons (Weak.nilr (show [] = (List.map (row1 IntKind.i32) (denseOf T n).fst.d) from (by (simp only [denseOf]; rw [if_neg (by simp_all), if_pos (by rcases hn with hn | hn <;> simp_all)]; first | done | rfl)))) .nil))))) (.cons (Weak.int (show (((denseE (Shp.mk T.h T.x T.c) n).snd) : Int) = ((denseOf T n).snd) from (by (simp only [denseOf]; rw [if_neg (by simp_all), if_pos (by rcases hn with hn | hn <;> simp_all)]; first | done | rfl)))) .nil)))
theorem dense_v (T : Ten) (n : Nod) (ok : T.Ok) (okn : n.Ok) : VC Try.prog 76 [ten .i8 T, nod n] (.tup [ten .i32 (denseOf T n).1, i64 (denseOf T n).2]) := by
  cases hr : tenRight T with
  | false => exact dense_n T n ok okn (.inl hr)
  | true =>
    by_cases he : (denseE ⟨T.h, T.x, T.c⟩ n).2 = 0
    · exact dense_y T n ⟨ok, okn, hr, he⟩
    · exact dense_n T n ok okn (.inr he)
/-- Sums by the kind of a node. -/
def sumOf (T : Ten) (n : Nod) : Ten × Int := if n.kd = 1 then convOf T n else if n.kd = 2 then depthOf T n else if n.kd = 3 then denseOf T n else (ten0, 6)
set_option maxRecDepth 100000 in
set_option maxHeartbeats 2000000 in
theorem rsum_v (T : Ten) (n : Nod) (ok : T.Ok) (okn : n.Ok) : VC Try.prog 137 ([nod n, ten .i8 T]) (.tup [ten .i32 (sumOf T n).1, i64 (sumOf T n).2]) := by
  rcases Bool.eq_false_or_eq_true (n.kd == 1) with hc0 | hc0
  · have gc0 : n.kd = 1 := bet hc0
    have oz1 := @rcOf_v (T) (n) ok okn
    exact (VC.run (fn := Try.f137) (W := [.r [] [], .r [] [], .br true, .r [] [.callr (rO oz1)]]) (r := AV.tup [AV.agg [i64 (convOf T n).fst.h, i64 (convOf T n).fst.x, i64 (convOf T n).fst.c, AV.sl 1 (List.map (row1 IntKind.i32) (convOf T n).fst.d)], i64 (convOf T n).snd]) Try.func137 (by kernel_rfl) (.c hc0 <| .c oz1 <| .n)).weak (WeakL.refl _) (Weak.tup (.cons (Weak.agg (.cons (Weak.int (show (((convOf T n).fst.h) : Int) = ((sumOf T n).fst.h) from (by (unfold sumOf; rw [if_pos (by omega)])))) (.cons (Weak.int (show (((convOf T n).fst.x) : Int) = ((sumOf T n).fst.x) from (by (unfold sumOf; rw [if_pos (by omega)])))) (.cons (Weak.int (show (((convOf T n).fst.c) : Int) = ((sumOf T n).fst.c) from (by (unfold sumOf; rw [if_pos (by omega)])))) (.cons (Weak.rows (rows_to (row1 IntKind.i32) (r := List.map (row1 IntKind.i32) (convOf T n).fst.d) (l := (convOf T n).fst.d) (m := (sumOf T n).fst.d) rfl (show ((convOf T n).fst.d) = ((sumOf T n).fst.d) from (by (unfold sumOf; rw [if_pos (by omega)]))))) .nil))))) (.cons (Weak.int (show (((convOf T n).snd) : Int) = ((sumOf T n).snd) from (by (unfold sumOf; rw [if_pos (by omega)])))) .nil)))
  · have gc0 : ¬n.kd = 1 := bef hc0
    rcases Bool.eq_false_or_eq_true (n.kd == 2) with hc1 | hc1
    · have gc1 : n.kd = 2 := bet hc1
      have oz2 := @rdOf_v (T) (n) ok okn
      exact (VC.run (fn := Try.f137) (W := [.r [] [], .r [] [], .br false, .r [] [], .br true, .r [] [.callr (rO oz2)]]) (r := AV.tup [AV.agg [i64 (depthOf T n).fst.h, i64 (depthOf T n).fst.x, i64 (depthOf T n).fst.c, AV.sl 1 (List.map (row1 IntKind.i32) (depthOf T n).fst.d)], i64 (depthOf T n).snd]) Try.func137 (by kernel_rfl) (.c hc0 <| .c hc1 <| .c oz2 <| .n)).weak (WeakL.refl _) (Weak.tup (.cons (Weak.agg (.cons (Weak.int (show (((depthOf T n).fst.h) : Int) = ((sumOf T n).fst.h) from (by (unfold sumOf; rw [if_neg (by omega), if_pos (by omega)])))) (.cons (Weak.int (show (((depthOf T n).fst.x) : Int) = ((sumOf T n).fst.x) from (by (unfold sumOf; rw [if_neg (by omega), if_pos (by omega)])))) (.cons (Weak.int (show (((depthOf T n).fst.c) : Int) = ((sumOf T n).fst.c) from (by (unfold sumOf; rw [if_neg (by omega), if_pos (by omega)])))) (.cons (Weak.rows (rows_to (row1 IntKind.i32) (r := List.map (row1 IntKind.i32) (depthOf T n).fst.d) (l := (depthOf T n).fst.d) (m := (sumOf T n).fst.d) rfl (show ((depthOf T n).fst.d) = ((sumOf T n).fst.d) from (by (unfold sumOf; rw [if_neg (by omega), if_pos (by omega)]))))) .nil))))) (.cons (Weak.int (show (((depthOf T n).snd) : Int) = ((sumOf T n).snd) from (by (unfold sumOf; rw [if_neg (by omega), if_pos (by omega)])))) .nil)))
    · have gc1 : ¬n.kd = 2 := bef hc1
      rcases Bool.eq_false_or_eq_true (n.kd == 3) with hc2 | hc2
      · have gc2 : n.kd = 3 := bet hc2
        have oz3 := @dense_v (T) (n) ok okn
        exact (VC.run (fn := Try.f137) (W := [.r [] [], .r [] [], .br false, .r [] [], .br false, .r [] [], .br true, .r [] [.callr (rO oz3)]]) (r := AV.tup [AV.agg [i64 (denseOf T n).fst.h, i64 (denseOf T n).fst.x, i64 (denseOf T n).fst.c, AV.sl 1 (List.map (row1 IntKind.i32) (denseOf T n).fst.d)], i64 (denseOf T n).snd]) Try.func137 (by kernel_rfl) (.c hc0 <| .c hc1 <| .c hc2 <| .c oz3 <| .n)).weak (WeakL.refl _) (Weak.tup (.cons (Weak.agg (.cons (Weak.int (show (((denseOf T n).fst.h) : Int) = ((sumOf T n).fst.h) from (by (unfold sumOf; rw [if_neg (by omega), if_neg (by omega), if_pos (by omega)])))) (.cons (Weak.int (show (((denseOf T n).fst.x) : Int) = ((sumOf T n).fst.x) from (by (unfold sumOf; rw [if_neg (by omega), if_neg (by omega), if_pos (by omega)])))) (.cons (Weak.int (show (((denseOf T n).fst.c) : Int) = ((sumOf T n).fst.c) from (by (unfold sumOf; rw [if_neg (by omega), if_neg (by omega), if_pos (by omega)])))) (.cons (Weak.rows (rows_to (row1 IntKind.i32) (r := List.map (row1 IntKind.i32) (denseOf T n).fst.d) (l := (denseOf T n).fst.d) (m := (sumOf T n).fst.d) rfl (show ((denseOf T n).fst.d) = ((sumOf T n).fst.d) from (by (unfold sumOf; rw [if_neg (by omega), if_neg (by omega), if_pos (by omega)]))))) .nil))))) (.cons (Weak.int (show (((denseOf T n).snd) : Int) = ((sumOf T n).snd) from (by (unfold sumOf; rw [if_neg (by omega), if_neg (by omega), if_pos (by omega)])))) .nil)))
      · have gc2 : ¬n.kd = 3 := bef hc2
        exact (VC.run (fn := Try.f137) (W := [.r [] [], .r [] [], .br false, .r [] [], .br false, .r [] [], .br false, .r [] []]) (r := AV.tup [AV.agg [i64 0, i64 0, i64 0, AV.lit (Value.slice none 0 0)], i64 6]) Try.func137 (by kernel_rfl) (.c hc0 <| .c hc1 <| .c hc2 <| .n)).weak (WeakL.refl _) (Weak.tup (.cons (Weak.agg (.cons (Weak.int (show ((0) : Int) = ((sumOf T n).fst.h) from (by (unfold sumOf; rw [if_neg (by omega), if_neg (by omega), if_neg (by omega)])))) (.cons (Weak.int (show ((0) : Int) = ((sumOf T n).fst.x) from (by (unfold sumOf; rw [if_neg (by omega), if_neg (by omega), if_neg (by omega)])))) (.cons (Weak.int (show ((0) : Int) = ((sumOf T n).fst.c) from (by (unfold sumOf; rw [if_neg (by omega), if_neg (by omega), if_neg (by omega)])))) (.cons (Weak.nilr (show [] = (List.map (row1 IntKind.i32) (sumOf T n).fst.d) from (by (unfold sumOf; rw [if_neg (by omega), if_neg (by omega), if_neg (by omega)]; rfl)))) .nil))))) (.cons (Weak.int (show ((6) : Int) = ((sumOf T n).snd) from (by (unfold sumOf; rw [if_neg (by omega), if_neg (by omega), if_neg (by omega)])))) .nil)))
end Go.Proofs.Ytgecmooedhnenaa

/- Numbers one by one, two tensors as one, and what any node makes, by the document. No condition. -/
namespace Go.Proofs.Ytgecmooedhnenaa
open Go.RowKit
set_option linter.unusedSimpArgs false
set_option linter.unusedVariables false
set_option linter.unnecessarySimpa false

theorem map_take {α β : Type} (f : α → β) (l : List α) (d : α) {k : Nat} (hk : k < l.length) : (l.take (k + 1)).map f = (l.take k).map f ++ [f (l.getD k d)] := by
  rw [List.take_add_one, List.getD_eq_getElem?_getD, List.getElem?_eq_getElem hk]; simp only [Option.toList_some, List.map_append, List.map_cons, List.map_nil, Option.getD_some]
/-- Each number becomes another one. -/
def actOf (T : Ten) (n : Nod) : Ten × Int := if tenRight T = false then (ten0, 5) else if rightQ n.qm n.qs = false then (ten0, 7) else (⟨T.h, T.x, T.c, T.d.map fun v => oneN v n⟩, 0)
noncomputable def ract_l_I (T : Ten) (n : Nod) (k : Nat) : VS := stt 40 [(2, .ptr 2 0 0), (3, .ptr 3 0 0), (4, .ptr 4 0 0), (6, .ptr 6 0 0), (7, i64 k)] [(2, .var [i64 T.h, i64 T.x, i64 T.c, ints .i8 T.d]), (3, .var (nodC n)), (4, .var [i64 0, i64 0, i64 0, nilv]), (6, .var [i64 T.h, i64 T.x, i64 T.c, .own 900]), (900, .slc 30 1 (((T.d.take k).map fun v => oneN v n).map (row1 .i8)))]
noncomputable def ract_l_Z (T : Ten) (n : Nod) : VS := ract_l_I T n (T.d.length)
set_option maxRecDepth 100000 in
set_option maxHeartbeats 2000000 in
theorem ract_l_s (T : Ten) (n : Nod) (ok : T.Ok) (okn : n.Ok) (hl : T.d.length ≤ 1024) (k : Nat) (hk : k < T.d.length) : VT Try.prog (fnC Try.f134 [1, 1, 1, 1, 0, 1, 0, 0]) (ract_l_I T n k) .normal (ract_l_I T n (k + 1)) := by
  have g1 := gt8 ok.d k
  have g2 := map_take (fun v => oneN v n) T.d 0 hk
  have g3 : (List.map (row1 .i8) ((T.d.take k).map fun v => oneN v n)).length = k := by rw [List.length_map, List.length_map, List.length_take]; omega
  have oz3 := @refActOne_v (T.d.getD k 0) (n) okn g1
  exact VT.run (W := [.r [] [], .br true, .r [] [.row [i8 (T.d.getD k 0)], .callr (rO oz3)], .r [] [.n ((↑k : Int) + 1)]]) (G := [.any (rg [(20, 19)]), .drop [36], .ren 37 900, .weak 7 (i64 (↑(k + 1) : Int)), .blk 900 (Blk.slc 30 1 (List.map (row1 IntKind.i8) (List.map (fun (v : Int) => oneN v n) (List.take (k + 1) T.d)))), .sort]) (by kernel_rfl) (.c (show decide ((↑k : Int) < (↑(List.map (row1 IntKind.i8) T.d).length : Int)) = true by (simp; omega)) <| .c (show 0 ≤ (↑k : Int) by omega) <| .c (map_at (row1 IntKind.i8) (0) (l := T.d) (i := k) hk) <| .c oz3 <| .c (show ((List.map (row1 IntKind.i8) (List.map (fun (v : Int) => oneN v n) (List.take k T.d))).length + 1) * 1 ≤ 140737488355328 by omega) <| .c (show (List.map (row1 IntKind.i8) (List.map (fun (v : Int) => oneN v n) (List.take k T.d))).length + 1 ≤ 9223372036854775807 by omega) <| .c (IntWalk.i64_in ((↑k : Int) + 1) (by omega)) <| .c (Weak.int (k := .i64) (show (((↑k : Int) + 1) : Int) = ((↑(k + 1) : Int)) from (by omega))) <| .c (show BlkW (Blk.slc 30 1 (List.map (row1 IntKind.i8) (List.map (fun (v : Int) => oneN v n) (List.take k T.d)) ++ [[i8 (oneN (T.d.getD k 0) n)]])) (Blk.slc 30 1 (List.map (row1 IntKind.i8) (List.map (fun (v : Int) => oneN v n) (List.take (k + 1) T.d)))) from (BlkW.rows (rows_to (row1 IntKind.i8) (r := List.map (row1 IntKind.i8) (List.map (fun (v : Int) => oneN v n) (List.take k T.d)) ++ [[i8 (oneN (T.d.getD k 0) n)]]) (l := List.map (fun (v : Int) => oneN v n) (List.take k T.d) ++ [oneN (T.d.getD k 0) n]) (m := List.map (fun (v : Int) => oneN v n) (List.take (k + 1) T.d)) (by first | (simp only [List.map_append, List.map_cons, List.map_nil, List.map_set, List.map_replicate, List.map_take, List.map_drop]; done) | rfl | (simp only [List.map_append, List.map_cons, List.map_nil, List.map_set, List.map_replicate, List.map_take, List.map_drop]; rfl)) (show (List.map (fun (v : Int) => oneN v n) (List.take k T.d) ++ [oneN (T.d.getD k 0) n]) = (List.map (fun (v : Int) => oneN v n) (List.take (k + 1) T.d)) from (by (rw [g2])))))) <| .n)
set_option maxRecDepth 100000 in
set_option maxHeartbeats 2000000 in
theorem ract_l_e (T : Ten) (n : Nod) (ok : T.Ok) (okn : n.Ok) (hl : T.d.length ≤ 1024) : VT Try.prog (fnC Try.f134 [1, 1, 1, 1, 0, 1, 0, 0]) (ract_l_I T n (T.d.length)) (.exit 0) (ract_l_Z T n) := by
  exact VT.run (W := [.r [] [], .br false]) (G := [.any (rg [(20, 5)]), .sort]) (by kernel_rfl) (.c (show decide ((↑T.d.length : Int) < (↑(List.map (row1 IntKind.i8) T.d).length : Int)) = false by (simp; done)) <| .n)
theorem ract_l (T : Ten) (n : Nod) (ok : T.Ok) (okn : n.Ok) (hl : T.d.length ≤ 1024) : VT Try.prog (fnC Try.f134 [1, 1, 1, 1, 0, 1, 0]) (ract_l_I T n 0) (.exit 0) (ract_l_Z T n) :=
  VT.loop (fun k => ract_l_I T n k) (T.d.length) (fun k hk => ract_l_s T n ok okn hl k hk) (ract_l_e T n ok okn hl) (by intro h; cases h)

set_option maxRecDepth 100000 in
set_option maxHeartbeats 2000000 in
theorem ract_v (T : Ten) (n : Nod) (ok : T.Ok) (okn : n.Ok) : VC Try.prog 134 ([ten .i8 T, nod n]) (.tup [ten .i8 (actOf T n).1, i64 (actOf T n).2]) := by
  have g1 := @tenRight.rt T
  have g2 := fun h => (g1 h).dl
  have g3 := fun h => (g1 h).el
  have gk : (!tenRight T) = false → T.d.length ≤ 1024 := fun h => by
    have h1 : tenRight T = true := by cases e : tenRight T with
      | true => rfl
      | false => rw [e] at h; cases h
    have := g2 h1; have := g3 h1; omega
  have oz0 := @refTRight_v (T) ok
  rcases Bool.eq_false_or_eq_true (!tenRight T) with hc0 | hc0
  · have gc0 : tenRight T = false := by first | exact hc0 | exact of_decide_eq_true hc0 | exact of_decide_eq_false hc0 | simpa [eqNums] using hc0 | (simp [eqNums] at hc0 ⊢; first | done | assumption | omega)
    exact (VC.run (fn := Try.f134) (W := [.r [] [], .r [] [.callr (rO oz0)], .br true, .r [] []]) (r := AV.tup [AV.agg [i64 0, i64 0, i64 0, AV.lit (Value.slice none 0 0)], i64 5]) Try.func134 (by kernel_rfl) (.c oz0 <| .c hc0 <| .n)).weak (WeakL.refl _) (Weak.tup (.cons (Weak.agg (.cons (Weak.int (show ((0) : Int) = ((actOf T n).fst.h) from (by (simp only [actOf]; rw [if_pos (by simp_all)]; first | done | rfl)))) (.cons (Weak.int (show ((0) : Int) = ((actOf T n).fst.x) from (by (simp only [actOf]; rw [if_pos (by simp_all)]; first | done | rfl)))) (.cons (Weak.int (show ((0) : Int) = ((actOf T n).fst.c) from (by (simp only [actOf]; rw [if_pos (by simp_all)]; first | done | rfl)))) (.cons (Weak.nilr (show [] = (List.map (row1 IntKind.i8) (actOf T n).fst.d) from (by (simp only [actOf]; rw [if_pos (by simp_all)]; first | done | rfl)))) .nil))))) (.cons (Weak.int (show ((5) : Int) = ((actOf T n).snd) from (by (simp only [actOf]; rw [if_pos (by simp_all)]; first | done | rfl)))) .nil)))
  · have gc0 : tenRight T = true := by first | exact hc0 | exact of_decide_eq_true hc0 | exact of_decide_eq_false hc0 | simpa [eqNums] using hc0 | (simp [eqNums] at hc0 ⊢; first | done | assumption | omega)
    have oz2 := @refRight_v (n.qm) (n.qs) (n.qz)
    rcases Bool.eq_false_or_eq_true (!rightQ n.qm n.qs) with hc1 | hc1
    · have gc1 : rightQ n.qm n.qs = false := by first | exact hc1 | exact of_decide_eq_true hc1 | exact of_decide_eq_false hc1 | simpa [eqNums] using hc1 | (simp [eqNums] at hc1 ⊢; first | done | assumption | omega)
      exact (VC.run (fn := Try.f134) (W := [.r [] [], .r [] [.callr (rO oz0)], .br false, .r [] [.callr (rO oz2)], .br true, .r [] []]) (r := AV.tup [AV.agg [i64 0, i64 0, i64 0, AV.lit (Value.slice none 0 0)], i64 7]) Try.func134 (by kernel_rfl) (.c oz0 <| .c hc0 <| .c oz2 <| .c hc1 <| .n)).weak (WeakL.refl _) (Weak.tup (.cons (Weak.agg (.cons (Weak.int (show ((0) : Int) = ((actOf T n).fst.h) from (by (simp only [actOf]; rw [if_neg (by simp_all), if_pos (by simp_all)]; first | done | rfl)))) (.cons (Weak.int (show ((0) : Int) = ((actOf T n).fst.x) from (by (simp only [actOf]; rw [if_neg (by simp_all), if_pos (by simp_all)]; first | done | rfl)))) (.cons (Weak.int (show ((0) : Int) = ((actOf T n).fst.c) from (by (simp only [actOf]; rw [if_neg (by simp_all), if_pos (by simp_all)]; first | done | rfl)))) (.cons (Weak.nilr (show [] = (List.map (row1 IntKind.i8) (actOf T n).fst.d) from (by (simp only [actOf]; rw [if_neg (by simp_all), if_pos (by simp_all)]; first | done | rfl)))) .nil))))) (.cons (Weak.int (show ((7) : Int) = ((actOf T n).snd) from (by (simp only [actOf]; rw [if_neg (by simp_all), if_pos (by simp_all)]; first | done | rfl)))) .nil)))
    · have gc1 : rightQ n.qm n.qs = true := by first | exact hc1 | exact of_decide_eq_true hc1 | exact of_decide_eq_false hc1 | simpa [eqNums] using hc1 | (simp [eqNums] at hc1 ⊢; first | done | assumption | omega)
      have oz5 := @ract_l (T) (n) ok okn (by (exact gk (by assumption)))
      exact (VC.run (fn := Try.f134) (W := [.r [] [], .r [] [.callr (rO oz0)], .br false, .r [] [.callr (rO oz2)], .br false, .r [] [], .r [] [], .code [.any [0, 1, 5, 8, 9, 10, 12, 13, 14, 15, 17, 18, 19], .weak 7 (i64 (↑0 : Int)), .nilc 900 30 1 6 3, .sort] (Exit.exit 0) (zO oz5), .r [] []]) (r := AV.tup [AV.agg [i64 T.h, i64 T.x, i64 T.c, AV.sl 1 (List.map (row1 IntKind.i8) (List.map (fun (v : Int) => oneN v n) (List.take T.d.length T.d)))], i64 0]) Try.func134 (by kernel_rfl) (.c oz0 <| .c hc0 <| .c oz2 <| .c hc1 <| .c (Weak.int (k := .i64) (show ((0) : Int) = ((↑0 : Int)) from (by omega))) <| .c oz5 <| .n)).weak (WeakL.refl _) (Weak.tup (.cons (Weak.agg (.cons (Weak.int (show ((T.h) : Int) = ((actOf T n).fst.h) from (by (simp only [actOf]; rw [if_neg (by simp_all), if_neg (by simp_all)]; first | done | rfl)))) (.cons (Weak.int (show ((T.x) : Int) = ((actOf T n).fst.x) from (by (simp only [actOf]; rw [if_neg (by simp_all), if_neg (by simp_all)]; first | done | rfl)))) (.cons (Weak.int (show ((T.c) : Int) = ((actOf T n).fst.c) from (by (simp only [actOf]; rw [if_neg (by simp_all), if_neg (by simp_all)]; first | done | rfl)))) (.cons (Weak.rows (rows_to (row1 IntKind.i8) (r := List.map (row1 IntKind.i8) (List.map (fun (v : Int) => oneN v n) (List.take T.d.length T.d))) (l := List.map (fun (v : Int) => oneN v n) (List.take T.d.length T.d)) (m := (actOf T n).fst.d) rfl (show (List.map (fun (v : Int) => oneN v n) (List.take T.d.length T.d)) = ((actOf T n).fst.d) from (by (simp only [actOf]; rw [if_neg (by simp_all), if_neg (by simp_all), List.take_length]))))) .nil))))) (.cons (Weak.int (show ((0) : Int) = ((actOf T n).snd) from (by (simp only [actOf]; rw [if_neg (by simp_all), if_neg (by simp_all)]; first | done | rfl)))) .nil)))
/-- Sums become numbers. -/
def heldN (n : Nod) (v : Int) : Int := heldQ v n.qm n.qs n.qz n.lo n.hi
noncomputable def rall_l_I (l : List Int) (n : Nod) (k : Nat) : VS := stt 33 [(0, ints .i32 l), (2, i8 n.lo), (3, i8 n.hi), (5, .ptr 5 0 0), (9, .own 900), (10, i64 k)] [(5, .var [i32 n.qm, i64 n.qs, i8 n.qz]), (900, .slc 30 1 (((l.take k).map (heldN n)).map (row1 .i8)))]
noncomputable def rall_l_Z (l : List Int) (n : Nod) : VS := rall_l_I l n (l.length)
set_option maxRecDepth 100000 in
set_option maxHeartbeats 2000000 in
theorem rall_l_s (l : List Int) (n : Nod) (ok : n.Ok) (hl : l.length ≤ 1024) (hd : ∀ v ∈ l, In32 v) (hq : rightQ n.qm n.qs = true) (k : Nat) (hk : k < l.length) : VT Try.prog (fnC Try.f201 [1, 1, 0, 1, 0, 0]) (rall_l_I l n k) .normal (rall_l_I l n (k + 1)) := by
  have g1 := gt32 hd k
  have g2 := map_take (heldN n) l 0 hk
  have g3 : (List.map (row1 .i8) ((l.take k).map (heldN n))).length = k := by rw [List.length_map, List.length_map, List.length_take]; omega
  have g4 : (List.map (row1 .i32) l).length = l.length := List.length_map _
  have ok_qm := ok.qm
  have ok_qz := ok.qz
  have ok_lo := ok.lo
  have ok_hi := ok.hi
  have oz0 := (decide_eq_true (p := ((↑k : Int) < (↑(List.map (row1 IntKind.i32) l).length : Int))) (by omega))
  have oz2 := @refRight_v (n.qm) (n.qs) (n.qz)
  have oz7 := @refHeld_v (l.getD k 0) (n.qm) (n.qs) (n.qz) (n.lo) (n.hi) g1 ok_qm ok_qz ok_lo ok_hi
  exact VT.run (W := [.r [] [.br true, .br true, .callr (rO oz2), .br true], .br true, .r [] [.row [i32 (l.getD k 0)], .callr (rO oz7)], .r [] [.n ((↑k : Int) + 1)]]) (G := [.any (rg [(11, 21)]), .drop [30], .ren 31 900, .weak 10 (i64 (↑(k + 1) : Int)), .blk 900 (Blk.slc 30 1 (List.map (row1 IntKind.i8) (List.map (heldN n) (List.take (k + 1) l)))), .sort]) (by kernel_rfl) (.c oz0 <| .c oz0 <| .c oz2 <| .c oz0 <| .c hq <| .c (show 0 ≤ (↑k : Int) by omega) <| .c (map_at (row1 IntKind.i32) (0) (l := l) (i := k) hk) <| .c oz7 <| .c (show ((List.map (row1 IntKind.i8) (List.map (heldN n) (List.take k l))).length + 1) * 1 ≤ 140737488355328 by omega) <| .c (show (List.map (row1 IntKind.i8) (List.map (heldN n) (List.take k l))).length + 1 ≤ 9223372036854775807 by omega) <| .c (IntWalk.i64_in ((↑k : Int) + 1) (by omega)) <| .c (Weak.int (k := .i64) (show (((↑k : Int) + 1) : Int) = ((↑(k + 1) : Int)) from (by omega))) <| .c (show BlkW (Blk.slc 30 1 (List.map (row1 IntKind.i8) (List.map (heldN n) (List.take k l)) ++ [[i8 (heldQ (l.getD k 0) n.qm n.qs n.qz n.lo n.hi)]])) (Blk.slc 30 1 (List.map (row1 IntKind.i8) (List.map (heldN n) (List.take (k + 1) l)))) from (BlkW.rows (rows_to (row1 IntKind.i8) (r := List.map (row1 IntKind.i8) (List.map (heldN n) (List.take k l)) ++ [[i8 (heldQ (l.getD k 0) n.qm n.qs n.qz n.lo n.hi)]]) (l := List.map (heldN n) (List.take k l) ++ [heldQ (l.getD k 0) n.qm n.qs n.qz n.lo n.hi]) (m := List.map (heldN n) (List.take (k + 1) l)) (by first | (simp only [List.map_append, List.map_cons, List.map_nil, List.map_set, List.map_replicate, List.map_take, List.map_drop]; done) | rfl | (simp only [List.map_append, List.map_cons, List.map_nil, List.map_set, List.map_replicate, List.map_take, List.map_drop]; rfl)) (show (List.map (heldN n) (List.take k l) ++ [heldQ (l.getD k 0) n.qm n.qs n.qz n.lo n.hi]) = (List.map (heldN n) (List.take (k + 1) l)) from (by (rw [g2]; rfl)))))) <| .n)
set_option maxRecDepth 100000 in
set_option maxHeartbeats 2000000 in
theorem rall_l_e (l : List Int) (n : Nod) (ok : n.Ok) (hl : l.length ≤ 1024) (hd : ∀ v ∈ l, In32 v) (hq : rightQ n.qm n.qs = true) : VT Try.prog (fnC Try.f201 [1, 1, 0, 1, 0, 0]) (rall_l_I l n (l.length)) (.exit 0) (rall_l_Z l n) := by
  have g4 : (List.map (row1 .i32) l).length = l.length := List.length_map _
  have oz0 := (show decide ((↑l.length : Int) < (↑(List.map (row1 IntKind.i32) l).length : Int)) = !true by (refine decide_eq_false ?_; omega))
  exact VT.run (W := [.r [] [.br false, .br false, .br false], .br false]) (G := [.any (rg [(11, 8)]), .sort]) (by kernel_rfl) (.c oz0 <| .c oz0 <| .c (decide_eq_false (p := ((↑l.length : Int) < (↑(List.map (row1 IntKind.i32) l).length : Int))) (by omega)) <| .c (show false = false by with_reducible rfl) <| .n)
theorem rall_l (l : List Int) (n : Nod) (ok : n.Ok) (hl : l.length ≤ 1024) (hd : ∀ v ∈ l, In32 v) (hq : rightQ n.qm n.qs = true) : VT Try.prog (fnC Try.f201 [1, 1, 0, 1, 0]) (rall_l_I l n 0) (.exit 0) (rall_l_Z l n) :=
  VT.loop (fun k => rall_l_I l n k) (l.length) (fun k hk => rall_l_s l n ok hl hd hq k hk) (rall_l_e l n ok hl hd hq) (by intro h; cases h)

set_option maxRecDepth 100000 in
set_option maxHeartbeats 2000000 in
theorem rall_v (l : List Int) (n : Nod) (ok : n.Ok) (hl : l.length ≤ 1024) (hd : ∀ v ∈ l, In32 v) (hq : rightQ n.qm n.qs = true) : VC Try.prog 201 ([ints .i32 l, .agg [i32 n.qm, i64 n.qs, i8 n.qz], i8 n.lo, i8 n.hi]) (ints .i8 (l.map (heldN n))) := by
  have oz1 := @rall_l (l) (n) ok hl hd hq
  exact (VC.run (fn := Try.f201) (W := [.r [] [], .r [] [], .r [] [], .code [.any [1, 8], .weak 10 (i64 (↑0 : Int)), .nils 9 900 30 1, .sort] (Exit.exit 0) (zO oz1), .r [] []]) (r := AV.sl 1 (List.map (row1 IntKind.i8) (List.map (heldN n) (List.take l.length l)))) Try.func201 (by kernel_rfl) (.c (Weak.int (k := .i64) (show ((0) : Int) = ((↑0 : Int)) from (by omega))) <| .c oz1 <| .n)).weak (WeakL.refl _) (Weak.rows (rows_to (row1 IntKind.i8) (r := List.map (row1 IntKind.i8) (List.map (heldN n) (List.take l.length l))) (l := List.map (heldN n) (List.take l.length l)) (m := List.map (heldN n) l) rfl (show (List.map (heldN n) (List.take l.length l)) = (List.map (heldN n) l) from (by (simp; done)))))
def putOf (A : Ten) (n : Nod) : Ten × Int := if elems A.h A.x A.c = 0 ∨ elems A.h A.x A.c ≠ (A.d.length : Int) then (ten0, 5) else if rightQ n.qm n.qs = false then (ten0, 7) else (⟨A.h, A.x, A.c, A.d.map (heldN n)⟩, 0)
structure Ten.Ok32 (T : Ten) : Prop where
  h : In64 T.h
  x : In64 T.x
  c : In64 T.c
  d : ∀ v ∈ T.d, In32 v
set_option maxRecDepth 100000 in
set_option maxHeartbeats 2000000 in
theorem rput_v (A : Ten) (n : Nod) (ok : A.Ok32) (okn : n.Ok) : VC Try.prog 138 ([ten .i32 A, nod n]) (.tup [ten .i8 (putOf A n).1, i64 (putOf A n).2]) := by
  obtain ⟨oh, ox, oc, g2⟩ := id ok
  have g1 := elems_in A.h A.x A.c
  have g3 : (List.map (row1 .i32) A.d).length = A.d.length := List.length_map _
  have gk : (elems A.h A.x A.c == 0 || elems A.h A.x A.c != ((List.map (row1 .i32) A.d).length : Int)) = false → A.d.length ≤ 1024 := fun h => by
    simp only [Bool.or_eq_false_iff, bne_eq_false_iff_eq] at h; omega
  have oz0 := @refElems_v (A.h) (A.x) (A.c) oh ox oc
  rcases Bool.eq_false_or_eq_true (elems A.h A.x A.c == 0 || elems A.h A.x A.c != (↑(List.map (row1 IntKind.i32) A.d).length : Int)) with hc0 | hc0
  · have gc0 : elems A.h A.x A.c = 0 ∨ ¬elems A.h A.x A.c = (↑(List.map (row1 IntKind.i32) A.d).length : Int) := by first | (simp only [Bool.or_eq_true, Bool.or_eq_false_iff, Bool.and_eq_true, Bool.and_eq_false_iff, Bool.not_eq_true', Bool.not_eq_false', decide_eq_true_eq, decide_eq_false_iff_not, beq_iff_eq, bne_iff_ne, ne_eq, beq_eq_false_iff_ne, bne_eq_false_iff_eq, eqNums, Bool.and_true] at hc0; first | exact hc0 | omega) | simpa using hc0 | (simp at hc0 ⊢; omega) | (apply Classical.byContradiction; intro hn; simp_all [eqNums]; done) | (apply Classical.byContradiction; intro hn; simp [eqNums] at hc0 hn; omega)
    exact (VC.run (fn := Try.f138) (W := [.r [] [], .r [] [.callr (rO oz0), .op false, .op false, .op false, .callr (rO oz0), .op false, .op false, .op false, .op false, .sel 1], .br true, .r [] []]) (r := AV.tup [AV.agg [i64 0, i64 0, i64 0, AV.lit (Value.slice none 0 0)], i64 5]) Try.func138 (by kernel_rfl) (.c oz0 <| .c oz0 <| .c hc0 <| .n)).weak (WeakL.refl _) (Weak.tup (.cons (Weak.agg (.cons (Weak.int (show ((0) : Int) = ((putOf A n).fst.h) from (by (simp only [putOf]; rw [if_pos (by simp_all)]; first | done | rfl)))) (.cons (Weak.int (show ((0) : Int) = ((putOf A n).fst.x) from (by (simp only [putOf]; rw [if_pos (by simp_all)]; first | done | rfl)))) (.cons (Weak.int (show ((0) : Int) = ((putOf A n).fst.c) from (by (simp only [putOf]; rw [if_pos (by simp_all)]; first | done | rfl)))) (.cons (Weak.nilr (show [] = (List.map (row1 IntKind.i8) (putOf A n).fst.d) from (by (simp only [putOf]; rw [if_pos (by simp_all)]; first | done | rfl)))) .nil))))) (.cons (Weak.int (show ((5) : Int) = ((putOf A n).snd) from (by (simp only [putOf]; rw [if_pos (by simp_all)]; first | done | rfl)))) .nil)))
  · have gc0 : ¬elems A.h A.x A.c = 0 ∧ elems A.h A.x A.c = (↑(List.map (row1 IntKind.i32) A.d).length : Int) := by first | (simp only [Bool.or_eq_true, Bool.or_eq_false_iff, Bool.and_eq_true, Bool.and_eq_false_iff, Bool.not_eq_true', Bool.not_eq_false', decide_eq_true_eq, decide_eq_false_iff_not, beq_iff_eq, bne_iff_ne, ne_eq, beq_eq_false_iff_ne, bne_eq_false_iff_eq, eqNums, Bool.and_true] at hc0; first | exact hc0 | omega) | simpa using hc0 | (simp at hc0 ⊢; omega) | (apply Classical.byContradiction; intro hn; simp_all [eqNums]; done) | (apply Classical.byContradiction; intro hn; simp [eqNums] at hc0 hn; omega)
    have oz3 := @refRight_v (n.qm) (n.qs) (n.qz)
    rcases Bool.eq_false_or_eq_true (!rightQ n.qm n.qs) with hc1 | hc1
    · have gc1 : rightQ n.qm n.qs = false := by first | exact hc1 | exact of_decide_eq_true hc1 | exact of_decide_eq_false hc1 | simpa [eqNums] using hc1 | (simp [eqNums] at hc1 ⊢; first | done | assumption | omega)
      exact (VC.run (fn := Try.f138) (W := [.r [] [], .r [] [.callr (rO oz0), .op false, .op false, .op false, .callr (rO oz0), .op false, .op false, .op false, .op false, .sel 1], .br false, .r [] [.callr (rO oz3)], .br true, .r [] []]) (r := AV.tup [AV.agg [i64 0, i64 0, i64 0, AV.lit (Value.slice none 0 0)], i64 7]) Try.func138 (by kernel_rfl) (.c oz0 <| .c oz0 <| .c hc0 <| .c oz3 <| .c hc1 <| .n)).weak (WeakL.refl _) (Weak.tup (.cons (Weak.agg (.cons (Weak.int (show ((0) : Int) = ((putOf A n).fst.h) from (by (simp only [putOf]; rw [if_neg (by simp_all), if_pos (by simp_all)]; first | done | rfl)))) (.cons (Weak.int (show ((0) : Int) = ((putOf A n).fst.x) from (by (simp only [putOf]; rw [if_neg (by simp_all), if_pos (by simp_all)]; first | done | rfl)))) (.cons (Weak.int (show ((0) : Int) = ((putOf A n).fst.c) from (by (simp only [putOf]; rw [if_neg (by simp_all), if_pos (by simp_all)]; first | done | rfl)))) (.cons (Weak.nilr (show [] = (List.map (row1 IntKind.i8) (putOf A n).fst.d) from (by (simp only [putOf]; rw [if_neg (by simp_all), if_pos (by simp_all)]; first | done | rfl)))) .nil))))) (.cons (Weak.int (show ((7) : Int) = ((putOf A n).snd) from (by (simp only [putOf]; rw [if_neg (by simp_all), if_pos (by simp_all)]; first | done | rfl)))) .nil)))
    · have gc1 : rightQ n.qm n.qs = true := by first | exact hc1 | exact of_decide_eq_true hc1 | exact of_decide_eq_false hc1 | simpa [eqNums] using hc1 | (simp [eqNums] at hc1 ⊢; first | done | assumption | omega)
      have oz5 := @rall_v (A.d) (n) okn (by omega) g2 gc1
      exact (VC.run (fn := Try.f138) (W := [.r [] [], .r [] [.callr (rO oz0), .op false, .op false, .op false, .callr (rO oz0), .op false, .op false, .op false, .op false, .sel 1], .br false, .r [] [.callr (rO oz3)], .br false, .r [] [.callr (rO oz5)]]) (r := AV.tup [AV.agg [i64 A.h, i64 A.x, i64 A.c, AV.sl 1 (List.map (row1 IntKind.i8) (List.map (heldN n) A.d))], i64 0]) Try.func138 (by kernel_rfl) (.c oz0 <| .c oz0 <| .c hc0 <| .c oz3 <| .c hc1 <| .c oz5 <| .n)).weak (WeakL.refl _) (Weak.tup (.cons (Weak.agg (.cons (Weak.int (show ((A.h) : Int) = ((putOf A n).fst.h) from (by (simp only [putOf]; rw [if_neg (by simp_all), if_neg (by simp_all)]; first | done | rfl)))) (.cons (Weak.int (show ((A.x) : Int) = ((putOf A n).fst.x) from (by (simp only [putOf]; rw [if_neg (by simp_all), if_neg (by simp_all)]; first | done | rfl)))) (.cons (Weak.int (show ((A.c) : Int) = ((putOf A n).fst.c) from (by (simp only [putOf]; rw [if_neg (by simp_all), if_neg (by simp_all)]; first | done | rfl)))) (.cons (Weak.rows (rows_to (row1 IntKind.i8) (r := List.map (row1 IntKind.i8) (List.map (heldN n) A.d)) (l := List.map (heldN n) A.d) (m := (putOf A n).fst.d) rfl (show (List.map (heldN n) A.d) = ((putOf A n).fst.d) from (by (simp only [putOf]; rw [if_neg (by simp_all), if_neg (by simp_all)]; first | done | rfl))))) .nil))))) (.cons (Weak.int (show ((0) : Int) = ((putOf A n).snd) from (by (simp only [putOf]; rw [if_neg (by simp_all), if_neg (by simp_all)]; first | done | rfl)))) .nil)))
/-- Two tensors as one. -/
def joinOf (T U : Ten) (n : Nod) : Ten × Int := if (tenRight T && tenRight U && decide (T.h = U.h ∧ T.x = U.x ∧ T.c = U.c)) = false then (ten0, 5) else if (rightQ n.qm n.qs && rightQ n.rm n.rs) = false then (ten0, 7) else (⟨T.h, T.x, T.c, (List.range T.d.length).map fun i => joinE (T.d.getD i 0) (U.d.getD i 0) n⟩, 0)
noncomputable def rjoin_l_I (T U : Ten) (n : Nod) (k : Nat) : VS := stt 65 [(3, .ptr 3 0 0), (4, .ptr 4 0 0), (5, .ptr 5 0 0), (6, .ptr 6 0 0), (8, .ptr 8 0 0), (9, i64 k)] [(3, .var [i64 T.h, i64 T.x, i64 T.c, ints .i8 T.d]), (4, .var [i64 U.h, i64 U.x, i64 U.c, ints .i8 U.d]), (5, .var (nodC n)), (6, .var [i64 0, i64 0, i64 0, nilv]), (8, .var [i64 T.h, i64 T.x, i64 T.c, .own 900]), (900, .slc 30 1 (((List.range k).map fun i => joinE (T.d.getD i 0) (U.d.getD i 0) n).map (row1 .i8)))]
noncomputable def rjoin_l_Z (T U : Ten) (n : Nod) : VS := rjoin_l_I T U n (T.d.length)
set_option maxRecDepth 100000 in
set_option maxHeartbeats 2000000 in
theorem rjoin_l_s (T U : Ten) (n : Nod) (ok : T.Ok) (oku : U.Ok) (okn : n.Ok) (hl : T.d.length ≤ 1024) (hu : U.d.length = T.d.length) (k : Nat) (hk : k < T.d.length) : VT Try.prog (fnC Try.f32 [1, 1, 1, 1, 0, 1, 0, 0]) (rjoin_l_I T U n k) .normal (rjoin_l_I T U n (k + 1)) := by
  have g1 := gt8 ok.d k
  have g2 := gt8 oku.d k
  have g3 : (List.map (row1 .i8) ((List.range k).map fun i => joinE (T.d.getD i 0) (U.d.getD i 0) n)).length = k := by rw [List.length_map, List.length_map, List.length_range]
  have oz1 := (show 0 ≤ (↑k : Int) by omega)
  have oz5 := @refJoinOne_v (T.d.getD k 0) (U.d.getD k 0) (n) okn g1 g2
  exact VT.run (W := [.r [] [], .br true, .r [] [.row [i8 (T.d.getD k 0)], .row [i8 (U.d.getD k 0)], .callr (rO oz5)], .r [] [.n ((↑k : Int) + 1)]]) (G := [.any (rg [(40, 24)]), .drop [61], .ren 62 900, .weak 9 (i64 (↑(k + 1) : Int)), .blk 900 (Blk.slc 30 1 (List.map (row1 IntKind.i8) (List.map (fun (i : Nat) => joinE (T.d.getD i 0) (U.d.getD i 0) n) (List.range (k + 1))))), .sort]) (by kernel_rfl) (.c (show decide ((↑k : Int) < (↑(List.map (row1 IntKind.i8) T.d).length : Int)) = true by (simp; omega)) <| .c oz1 <| .c (map_at (row1 IntKind.i8) (0) (l := T.d) (i := k) hk) <| .c oz1 <| .c (map_at (row1 IntKind.i8) (0) (l := U.d) (i := k) (by omega)) <| .c oz5 <| .c (show ((List.map (row1 IntKind.i8) (List.map (fun (i : Nat) => joinE (T.d.getD i 0) (U.d.getD i 0) n) (List.range k))).length + 1) * 1 ≤ 140737488355328 by omega) <| .c (show (List.map (row1 IntKind.i8) (List.map (fun (i : Nat) => joinE (T.d.getD i 0) (U.d.getD i 0) n) (List.range k))).length + 1 ≤ 9223372036854775807 by omega) <| .c (IntWalk.i64_in ((↑k : Int) + 1) (by omega)) <| .c (Weak.int (k := .i64) (show (((↑k : Int) + 1) : Int) = ((↑(k + 1) : Int)) from (by omega))) <| .c (show BlkW (Blk.slc 30 1 (List.map (row1 IntKind.i8) (List.map (fun (i : Nat) => joinE (T.d.getD i 0) (U.d.getD i 0) n) (List.range k)) ++ [[i8 (joinE (T.d.getD k 0) (U.d.getD k 0) n)]])) (Blk.slc 30 1 (List.map (row1 IntKind.i8) (List.map (fun (i : Nat) => joinE (T.d.getD i 0) (U.d.getD i 0) n) (List.range (k + 1))))) from (BlkW.rows (rows_to (row1 IntKind.i8) (r := List.map (row1 IntKind.i8) (List.map (fun (i : Nat) => joinE (T.d.getD i 0) (U.d.getD i 0) n) (List.range k)) ++ [[i8 (joinE (T.d.getD k 0) (U.d.getD k 0) n)]]) (l := List.map (fun (i : Nat) => joinE (T.d.getD i 0) (U.d.getD i 0) n) (List.range k) ++ [joinE (T.d.getD k 0) (U.d.getD k 0) n]) (m := List.map (fun (i : Nat) => joinE (T.d.getD i 0) (U.d.getD i 0) n) (List.range (k + 1))) (by first | (simp only [List.map_append, List.map_cons, List.map_nil, List.map_set, List.map_replicate, List.map_take, List.map_drop]; done) | rfl | (simp only [List.map_append, List.map_cons, List.map_nil, List.map_set, List.map_replicate, List.map_take, List.map_drop]; rfl)) (show (List.map (fun (i : Nat) => joinE (T.d.getD i 0) (U.d.getD i 0) n) (List.range k) ++ [joinE (T.d.getD k 0) (U.d.getD k 0) n]) = (List.map (fun (i : Nat) => joinE (T.d.getD i 0) (U.d.getD i 0) n) (List.range (k + 1))) from (by (rw [List.range_succ, List.map_append]; rfl)))))) <| .n)
set_option maxRecDepth 100000 in
set_option maxHeartbeats 2000000 in
theorem rjoin_l_e (T U : Ten) (n : Nod) (ok : T.Ok) (oku : U.Ok) (okn : n.Ok) (hl : T.d.length ≤ 1024) (hu : U.d.length = T.d.length) : VT Try.prog (fnC Try.f32 [1, 1, 1, 1, 0, 1, 0, 0]) (rjoin_l_I T U n (T.d.length)) (.exit 0) (rjoin_l_Z T U n) := by
  exact VT.run (W := [.r [] [], .br false]) (G := [.any (rg [(40, 5)]), .sort]) (by kernel_rfl) (.c (show decide ((↑T.d.length : Int) < (↑(List.map (row1 IntKind.i8) T.d).length : Int)) = false by (simp; done)) <| .n)
theorem rjoin_l (T U : Ten) (n : Nod) (ok : T.Ok) (oku : U.Ok) (okn : n.Ok) (hl : T.d.length ≤ 1024) (hu : U.d.length = T.d.length) : VT Try.prog (fnC Try.f32 [1, 1, 1, 1, 0, 1, 0]) (rjoin_l_I T U n 0) (.exit 0) (rjoin_l_Z T U n) :=
  VT.loop (fun k => rjoin_l_I T U n k) (T.d.length) (fun k hk => rjoin_l_s T U n ok oku okn hl hu k hk) (rjoin_l_e T U n ok oku okn hl hu) (by intro h; cases h)

set_option maxRecDepth 100000 in
set_option maxHeartbeats 2000000 in
theorem rjoin_v (T U : Ten) (n : Nod) (ok : T.Ok) (oku : U.Ok) (okn : n.Ok) : VC Try.prog 32 ([ten .i8 T, ten .i8 U, nod n]) (.tup [ten .i8 (joinOf T U n).1, i64 (joinOf T U n).2]) := by
  have g1 := @tenRight.rt T
  have g2 := fun h => (g1 h).dl
  have g3 := fun h => (g1 h).el
  have k1 := @tenRight.rt U
  have k2 := fun h => (k1 h).dl
  have gq : (!rightQ n.qm n.qs || !rightQ n.rm n.rs) = true → (rightQ n.qm n.qs && rightQ n.rm n.rs) = false := by cases rightQ n.qm n.qs <;> cases rightQ n.rm n.rs <;> simp
  have gk : (!tenRight T || !tenRight U || !eqNums [(IntKind.i64, T.h, U.h), (IntKind.i64, T.x, U.x), (IntKind.i64, T.c, U.c)]) = false → T.d.length ≤ 1024 ∧ U.d.length = T.d.length := fun h => by
    simp only [Bool.or_eq_false_iff, Bool.not_eq_false', eqNums, Bool.and_eq_true, beq_iff_eq] at h
    obtain ⟨⟨h1, h2⟩, h3, h4, h5, _⟩ := h
    have a1 := g2 h1; have a2 := g3 h1; have a3 := k2 h2
    rw [← h3, ← h4, ← h5] at a3
    exact ⟨by omega, by omega⟩
  have gj : (!tenRight T || !tenRight U || !eqNums [(IntKind.i64, T.h, U.h), (IntKind.i64, T.x, U.x), (IntKind.i64, T.c, U.c)]) = !(tenRight T && tenRight U && decide (T.h = U.h ∧ T.x = U.x ∧ T.c = U.c)) := by
    have e : eqNums [(IntKind.i64, T.h, U.h), (IntKind.i64, T.x, U.x), (IntKind.i64, T.c, U.c)] = decide (T.h = U.h ∧ T.x = U.x ∧ T.c = U.c) := by
      rw [Bool.eq_iff_iff]; simp [eqNums]
    rw [e]; cases tenRight T <;> cases tenRight U <;> simp
  have gz : (!tenRight T || !tenRight U || !eqNums [(IntKind.i64, T.h, U.h), (IntKind.i64, T.x, U.x), (IntKind.i64, T.c, U.c)]) = true → (tenRight T && tenRight U && decide (T.h = U.h ∧ T.x = U.x ∧ T.c = U.c)) = false := fun h => by rw [gj] at h; simpa only [Bool.not_eq_true'] using h
  have gn : (!tenRight T || !tenRight U || !eqNums [(IntKind.i64, T.h, U.h), (IntKind.i64, T.x, U.x), (IntKind.i64, T.c, U.c)]) = false → ¬ (tenRight T && tenRight U && decide (T.h = U.h ∧ T.x = U.x ∧ T.c = U.c)) = false := fun h => by rw [gj] at h; simp only [Bool.not_eq_false'] at h; rw [h]; simp
  have oz0 := @refTRight_v (T) ok
  have oz1 := @refTRight_v (U) oku
  have oz2 := (show BinTo Try.prog BinOp.neq 24 (Operand.tmp 20) (Operand.tmp 22) (Value.agg #[Value.int IntKind.i64 T.h, Value.int IntKind.i64 T.x, Value.int IntKind.i64 T.c]) (Value.agg #[Value.int IntKind.i64 U.h, Value.int IntKind.i64 U.x, Value.int IntKind.i64 U.c]) (Value.bool !eqNums [(IntKind.i64, T.h, U.h), (IntKind.i64, T.x, U.x), (IntKind.i64, T.c, U.c)]) from ((bin_nums (l := [(IntKind.i64, T.h, U.h), (IntKind.i64, T.x, U.x), (IntKind.i64, T.c, U.c)]) (by kernel_rfl) (by kernel_rfl) (by kernel_rfl) (by kernel_rfl) _ _).2))
  rcases Bool.eq_false_or_eq_true (!tenRight T || !tenRight U || !eqNums [(IntKind.i64, T.h, U.h), (IntKind.i64, T.x, U.x), (IntKind.i64, T.c, U.c)]) with hc0 | hc0
  · have gc0 : (tenRight T = false ∨ tenRight U = false) ∨ ¬(T.h = U.h ∧ T.x = U.x ∧ T.c = U.c) := by first | (simp only [Bool.or_eq_true, Bool.or_eq_false_iff, Bool.and_eq_true, Bool.and_eq_false_iff, Bool.not_eq_true', Bool.not_eq_false', decide_eq_true_eq, decide_eq_false_iff_not, beq_iff_eq, bne_iff_ne, ne_eq, beq_eq_false_iff_ne, bne_eq_false_iff_eq, eqNums, Bool.and_true] at hc0; first | exact hc0 | omega) | simpa using hc0 | (simp at hc0 ⊢; omega) | (apply Classical.byContradiction; intro hn; simp_all [eqNums]; done) | (apply Classical.byContradiction; intro hn; simp [eqNums] at hc0 hn; omega)
    exact (VC.run (fn := Try.f32) (W := [.r [] [], .r [] [.callr (rO oz0), .op false, .op false, .callr (rO oz1), .op false, .sel 1, .op false, .op false, .op false, .op false, .op false, .v (Value.bool !eqNums [(IntKind.i64, T.h, U.h), (IntKind.i64, T.x, U.x), (IntKind.i64, T.c, U.c)]), .sel 1], .br true, .r [] []]) (r := AV.tup [AV.agg [i64 0, i64 0, i64 0, AV.lit (Value.slice none 0 0)], i64 5]) Try.func32 (by kernel_rfl) (.c oz0 <| .c oz1 <| .c oz2 <| .c hc0 <| .n)).weak (WeakL.refl _) (Weak.tup (.cons (Weak.agg (.cons (Weak.int (show ((0) : Int) = ((joinOf T U n).fst.h) from (by (simp only [joinOf]; rw [if_pos (gz (by assumption))]; first | done | rfl)))) (.cons (Weak.int (show ((0) : Int) = ((joinOf T U n).fst.x) from (by (simp only [joinOf]; rw [if_pos (gz (by assumption))]; first | done | rfl)))) (.cons (Weak.int (show ((0) : Int) = ((joinOf T U n).fst.c) from (by (simp only [joinOf]; rw [if_pos (gz (by assumption))]; first | done | rfl)))) (.cons (Weak.nilr (show [] = (List.map (row1 IntKind.i8) (joinOf T U n).fst.d) from (by (simp only [joinOf]; rw [if_pos (gz (by assumption))]; first | done | rfl)))) .nil))))) (.cons (Weak.int (show ((5) : Int) = ((joinOf T U n).snd) from (by (simp only [joinOf]; rw [if_pos (gz (by assumption))]; first | done | rfl)))) .nil)))
  · have gc0 : (tenRight T = true ∧ tenRight U = true) ∧ T.h = U.h ∧ T.x = U.x ∧ T.c = U.c := by first | (simp only [Bool.or_eq_true, Bool.or_eq_false_iff, Bool.and_eq_true, Bool.and_eq_false_iff, Bool.not_eq_true', Bool.not_eq_false', decide_eq_true_eq, decide_eq_false_iff_not, beq_iff_eq, bne_iff_ne, ne_eq, beq_eq_false_iff_ne, bne_eq_false_iff_eq, eqNums, Bool.and_true] at hc0; first | exact hc0 | omega) | simpa using hc0 | (simp at hc0 ⊢; omega) | (apply Classical.byContradiction; intro hn; simp_all [eqNums]; done) | (apply Classical.byContradiction; intro hn; simp [eqNums] at hc0 hn; omega)
    have oz4 := @refRight_v (n.qm) (n.qs) (n.qz)
    have oz5 := @refRight_v (n.rm) (n.rs) (n.rz)
    rcases Bool.eq_false_or_eq_true (!rightQ n.qm n.qs || !rightQ n.rm n.rs) with hc1 | hc1
    · have gc1 : rightQ n.qm n.qs = false ∨ rightQ n.rm n.rs = false := by first | (simp only [Bool.or_eq_true, Bool.or_eq_false_iff, Bool.and_eq_true, Bool.and_eq_false_iff, Bool.not_eq_true', Bool.not_eq_false', decide_eq_true_eq, decide_eq_false_iff_not, beq_iff_eq, bne_iff_ne, ne_eq, beq_eq_false_iff_ne, bne_eq_false_iff_eq, eqNums, Bool.and_true] at hc1; first | exact hc1 | omega) | simpa using hc1 | (simp at hc1 ⊢; omega) | (apply Classical.byContradiction; intro hn; simp_all [eqNums]; done) | (apply Classical.byContradiction; intro hn; simp [eqNums] at hc1 hn; omega)
      exact (VC.run (fn := Try.f32) (W := [.r [] [], .r [] [.callr (rO oz0), .op false, .op false, .callr (rO oz1), .op false, .sel 1, .op false, .op false, .op false, .op false, .op false, .v (Value.bool !eqNums [(IntKind.i64, T.h, U.h), (IntKind.i64, T.x, U.x), (IntKind.i64, T.c, U.c)]), .sel 1], .br false, .r [] [.callr (rO oz4), .op false, .op false, .op false, .callr (rO oz5), .op false, .sel 1], .br true, .r [] []]) (r := AV.tup [AV.agg [i64 0, i64 0, i64 0, AV.lit (Value.slice none 0 0)], i64 7]) Try.func32 (by kernel_rfl) (.c oz0 <| .c oz1 <| .c oz2 <| .c hc0 <| .c oz4 <| .c oz5 <| .c hc1 <| .n)).weak (WeakL.refl _) (Weak.tup (.cons (Weak.agg (.cons (Weak.int (show ((0) : Int) = ((joinOf T U n).fst.h) from (by (simp only [joinOf]; rw [if_neg (gn (by assumption)), if_pos (gq (by assumption))]; first | done | rfl)))) (.cons (Weak.int (show ((0) : Int) = ((joinOf T U n).fst.x) from (by (simp only [joinOf]; rw [if_neg (gn (by assumption)), if_pos (gq (by assumption))]; first | done | rfl)))) (.cons (Weak.int (show ((0) : Int) = ((joinOf T U n).fst.c) from (by (simp only [joinOf]; rw [if_neg (gn (by assumption)), if_pos (gq (by assumption))]; first | done | rfl)))) (.cons (Weak.nilr (show [] = (List.map (row1 IntKind.i8) (joinOf T U n).fst.d) from (by (simp only [joinOf]; rw [if_neg (gn (by assumption)), if_pos (gq (by assumption))]; first | done | rfl)))) .nil))))) (.cons (Weak.int (show ((7) : Int) = ((joinOf T U n).snd) from (by (simp only [joinOf]; rw [if_neg (gn (by assumption)), if_pos (gq (by assumption))]; first | done | rfl)))) .nil)))
    · have gc1 : rightQ n.qm n.qs = true ∧ rightQ n.rm n.rs = true := by first | (simp only [Bool.or_eq_true, Bool.or_eq_false_iff, Bool.and_eq_true, Bool.and_eq_false_iff, Bool.not_eq_true', Bool.not_eq_false', decide_eq_true_eq, decide_eq_false_iff_not, beq_iff_eq, bne_iff_ne, ne_eq, beq_eq_false_iff_ne, bne_eq_false_iff_eq, eqNums, Bool.and_true] at hc1; first | exact hc1 | omega) | simpa using hc1 | (simp at hc1 ⊢; omega) | (apply Classical.byContradiction; intro hn; simp_all [eqNums]; done) | (apply Classical.byContradiction; intro hn; simp [eqNums] at hc1 hn; omega)
      have oz8 := @rjoin_l (T) (U) (n) ok oku okn (by (exact (gk (by assumption)).1)) (by (exact (gk (by assumption)).2))
      exact (VC.run (fn := Try.f32) (W := [.r [] [], .r [] [.callr (rO oz0), .op false, .op false, .callr (rO oz1), .op false, .sel 1, .op false, .op false, .op false, .op false, .op false, .v (Value.bool !eqNums [(IntKind.i64, T.h, U.h), (IntKind.i64, T.x, U.x), (IntKind.i64, T.c, U.c)]), .sel 1], .br false, .r [] [.callr (rO oz4), .op false, .op false, .op false, .callr (rO oz5), .op false, .sel 1], .br false, .r [] [], .r [] [], .code [.any (rg [(0, 3), (7, 1), (10, 4), (17, 2), (24, 1), (26, 5), (35, 1), (37, 3)]), .weak 9 (i64 (↑0 : Int)), .nilc 900 30 1 8 3, .sort] (Exit.exit 0) (zO oz8), .r [] []]) (r := AV.tup [AV.agg [i64 T.h, i64 T.x, i64 T.c, AV.sl 1 (List.map (row1 IntKind.i8) (List.map (fun (i : Nat) => joinE (T.d.getD i 0) (U.d.getD i 0) n) (List.range T.d.length)))], i64 0]) Try.func32 (by kernel_rfl) (.c oz0 <| .c oz1 <| .c oz2 <| .c hc0 <| .c oz4 <| .c oz5 <| .c hc1 <| .c (Weak.int (k := .i64) (show ((0) : Int) = ((↑0 : Int)) from (by omega))) <| .c oz8 <| .n)).weak (WeakL.refl _) (Weak.tup (.cons (Weak.agg (.cons (Weak.int (show ((T.h) : Int) = ((joinOf T U n).fst.h) from (by (simp only [joinOf]; rw [if_neg (gn (by assumption)), if_neg (by cases e1 : rightQ n.qm n.qs <;> cases e2 : rightQ n.rm n.rs <;> simp_all)]; first | done | rfl)))) (.cons (Weak.int (show ((T.x) : Int) = ((joinOf T U n).fst.x) from (by (simp only [joinOf]; rw [if_neg (gn (by assumption)), if_neg (by cases e1 : rightQ n.qm n.qs <;> cases e2 : rightQ n.rm n.rs <;> simp_all)]; first | done | rfl)))) (.cons (Weak.int (show ((T.c) : Int) = ((joinOf T U n).fst.c) from (by (simp only [joinOf]; rw [if_neg (gn (by assumption)), if_neg (by cases e1 : rightQ n.qm n.qs <;> cases e2 : rightQ n.rm n.rs <;> simp_all)]; first | done | rfl)))) (.cons (Weak.rows (rows_to (row1 IntKind.i8) (r := List.map (row1 IntKind.i8) (List.map (fun (i : Nat) => joinE (T.d.getD i 0) (U.d.getD i 0) n) (List.range T.d.length))) (l := List.map (fun (i : Nat) => joinE (T.d.getD i 0) (U.d.getD i 0) n) (List.range T.d.length)) (m := (joinOf T U n).fst.d) rfl (show (List.map (fun (i : Nat) => joinE (T.d.getD i 0) (U.d.getD i 0) n) (List.range T.d.length)) = ((joinOf T U n).fst.d) from (by (simp only [joinOf]; rw [if_neg (gn (by assumption)), if_neg (by cases e1 : rightQ n.qm n.qs <;> cases e2 : rightQ n.rm n.rs <;> simp_all)]; first | done | rfl))))) .nil))))) (.cons (Weak.int (show ((0) : Int) = ((joinOf T U n).snd) from (by (simp only [joinOf]; rw [if_neg (gn (by assumption)), if_neg (by cases e1 : rightQ n.qm n.qs <;> cases e2 : rightQ n.rm n.rs <;> simp_all)]; first | done | rfl)))) .nil)))
end Go.Proofs.Ytgecmooedhnenaa

/- What any node makes of a tensor, or of two, by the document. No condition. -/
namespace Go.Proofs.Ytgecmooedhnenaa
open Go.RowKit
set_option linter.unusedSimpArgs false
set_option linter.unusedVariables false
set_option linter.unnecessarySimpa false

def nodeOf (n : Nod) (A B : Ten) : Ten × Int :=
  if checkE n ≠ 0 then (ten0, checkE n) else if tenRight A = false then (ten0, 5)
  else if n.kd = 4 then poolOf A n true else if n.kd = 5 then poolOf A n false else if n.kd = 6 then joinOf A B n else if n.kd = 7 then actOf A n
  else if n.kd = 8 then (if mayE A n.np ≠ 0 then (ten0, mayE A n.np) else padOf A n.np n.za)
  else if n.kd = 9 then (⟨1, 1, A.d.length, A.d⟩, 0)
  else if (sumOf A n).2 ≠ 0 then (ten0, (sumOf A n).2) else putOf (sumOf A n).1 n
theorem refH_32 (T : Ten) (n : Nod) : ∀ h, ∀ v ∈ refH T n h, In32 v
  | 0 => by simp [refH]
  | h + 1 => by
    have gW : ∀ w, ∀ v ∈ refW T n h w, In32 v := by
      intro w
      induction w with
      | zero => simp [refW]
      | succ w ih =>
        intro v hv
        rw [refW, List.mem_append] at hv
        rcases hv with hv | hv
        · exact ih v hv
        · unfold refO at hv
          obtain ⟨c, _, rfl⟩ := List.mem_map.1 hv
          unfold In32; simp only [IntKind.wrap_i32]; omega
    intro v hv
    rw [refH, List.mem_append] at hv
    rcases hv with hv | hv
    · exact refH_32 T n h v hv
    · exact gW _ v hv
theorem gH_32 {f : Nat → Nat → Nat → Int} (hf : ∀ h w c, In32 (f h w c)) (m x : Nat) : ∀ y, ∀ v ∈ gH f m x y, In32 v
  | 0 => by simp [gH]
  | y + 1 => by
    have gW8 : ∀ w, ∀ v ∈ gW f m y w, In32 v := by
      intro w
      induction w with
      | zero => simp [gW]
      | succ w ih =>
        intro v hv
        rw [gW, List.mem_append] at hv
        rcases hv with hv | hv
        · exact ih v hv
        · unfold gO at hv
          obtain ⟨c, _, rfl⟩ := List.mem_map.1 hv
          exact hf _ _ _
    intro v hv
    rw [gH, List.mem_append] at hv
    rcases hv with hv | hv
    · exact gH_32 hf m x y v hv
    · exact gW8 x v hv
theorem sumOf_ok {T : Ten} {n : Nod} (ok : T.Ok) (okn : n.Ok) : (sumOf T n).1.Ok32 := by
  have z : (ten0 : Ten).Ok32 := ⟨by decide, by decide, by decide, by simp⟩
  unfold sumOf
  split
  · unfold convOf
    split
    · exact z
    · split
      · exact z
      · rename_i h1 h2
        have k : CvOk T n := ⟨ok, okn, by simpa using h1, by simpa using h2⟩
        have nn := k.n
        have h3 := nn.he; have h4 := nn.xe; have h5 := nn.sc; have h6 := nn.o1; have h7 := nn.o2
        exact ⟨by dsimp only; omega, by dsimp only; omega, by dsimp only; omega, by dsimp only; rw [outL_fin k]; exact refH_32 T n _⟩
  · split
    · unfold depthOf
      split
      · exact z
      · split
        · exact z
        · rename_i h1 h2
          have k : DpOk T n := ⟨ok, okn, by simpa using h1, by simpa using h2⟩
          have nn := k.n
          have h3 := nn.he; have h4 := nn.xe; have h5 := nn.sc; have h6 := nn.c1; have h7 := nn.c2
          refine ⟨by dsimp only; omega, by dsimp only; omega, by dsimp only; omega, ?_⟩
          dsimp only; rw [dL_eq k]
          exact gH_32 (fun h w c => by unfold dF In32; simp only [IntKind.wrap_i32]; omega) _ _ _
    · split
      · unfold denseOf
        split
        · exact z
        · split
          · exact z
          · rename_i h1 h2
            obtain ⟨e1, e2, e3, e4, e5, e6, e7⟩ := denseE_ok (t := ⟨T.h, T.x, T.c⟩) (n := n) (by simpa using h2)
            rw [e7]
            refine ⟨by dsimp only; omega, by dsimp only; omega, by dsimp only; omega, ?_⟩
            intro v hv
            unfold lineL at hv
            obtain ⟨c, _, rfl⟩ := List.mem_map.1 hv
            unfold In32; simp only [IntKind.wrap_i32]; omega
      · exact z
set_option maxRecDepth 100000 in
set_option maxHeartbeats 2000000 in
theorem rnode_v (n : Nod) (A B : Ten) (ok : n.Ok) (hw : n.w.length ≤ 100000) (hb : n.b.length ≤ 100000) (okA : A.Ok) (okB : B.Ok) : VC Try.prog 72 ([nod n, ten .i8 A, ten .i8 B]) (.tup [ten .i8 (nodeOf n A B).1, i64 (nodeOf n A B).2]) := by
  have g1 := sumOf_ok okA ok
  have g2 := @tenRight.rt A
  have q2 := ok.kd
  have q3 := ok.np
  have gk : (!tenRight A) = false → TRt A := fun h => g2 (by cases e : tenRight A with
      | true => rfl
      | false => rw [e] at h; cases h)
  have gm : (!tenRight A) = false → (mayE A n.np != 0) = false → 0 ≤ n.np ∧ n.np ≤ 4 := fun h k => by
    have h1 : tenRight A = true := by cases e : tenRight A with
      | true => rfl
      | false => rw [e] at h; cases h
    unfold mayE at k
    rw [if_pos h1] at k
    by_cases h3 : 0 ≤ n.np ∧ n.np ≤ 4
    · exact h3
    · rw [if_neg h3] at k; cases k
  have oz0 := @refCheck_v (n) hw hb q2
  rcases Bool.eq_false_or_eq_true (checkE n != 0) with hc0 | hc0
  · have gc0 : ¬checkE n = 0 := bdt hc0
    exact (VC.run (fn := Try.f72) (W := [.r [] [], .r [] [.callr (rO oz0)], .r [] [], .br true, .r [] []]) (r := AV.tup [AV.agg [i64 0, i64 0, i64 0, AV.lit (Value.slice none 0 0)], i64 (checkE n)]) Try.func72 (by kernel_rfl) (.c oz0 <| .c hc0 <| .n)).weak (WeakL.refl _) (Weak.tup (.cons (Weak.agg (.cons (Weak.int (show ((0) : Int) = ((nodeOf n A B).fst.h) from (by (unfold nodeOf; rw [if_pos (by omega)]; first | done | rfl)))) (.cons (Weak.int (show ((0) : Int) = ((nodeOf n A B).fst.x) from (by (unfold nodeOf; rw [if_pos (by omega)]; first | done | rfl)))) (.cons (Weak.int (show ((0) : Int) = ((nodeOf n A B).fst.c) from (by (unfold nodeOf; rw [if_pos (by omega)]; first | done | rfl)))) (.cons (Weak.nilr (show [] = (List.map (row1 IntKind.i8) (nodeOf n A B).fst.d) from (by (unfold nodeOf; rw [if_pos (by omega)]; first | done | rfl)))) .nil))))) (.cons (Weak.int (show ((checkE n) : Int) = ((nodeOf n A B).snd) from (by (unfold nodeOf; rw [if_pos (by omega)]; first | done | rfl)))) .nil)))
  · have gc0 : checkE n = 0 := bdf hc0
    have oz2 := @refTRight_v (A) okA
    rcases Bool.eq_false_or_eq_true (!tenRight A) with hc1 | hc1
    · have gc1 : tenRight A = false := by first | exact hc1 | exact of_decide_eq_true hc1 | exact of_decide_eq_false hc1 | simpa [eqNums] using hc1 | (simp [eqNums] at hc1 ⊢; first | done | assumption | omega)
      exact (VC.run (fn := Try.f72) (W := [.r [] [], .r [] [.callr (rO oz0)], .r [] [], .br false, .r [] [.callr (rO oz2)], .br true, .r [] []]) (r := AV.tup [AV.agg [i64 0, i64 0, i64 0, AV.lit (Value.slice none 0 0)], i64 5]) Try.func72 (by kernel_rfl) (.c oz0 <| .c hc0 <| .c oz2 <| .c hc1 <| .n)).weak (WeakL.refl _) (Weak.tup (.cons (Weak.agg (.cons (Weak.int (show ((0) : Int) = ((nodeOf n A B).fst.h) from (by (unfold nodeOf; rw [if_neg (by omega), if_pos (by assumption)]; first | done | rfl)))) (.cons (Weak.int (show ((0) : Int) = ((nodeOf n A B).fst.x) from (by (unfold nodeOf; rw [if_neg (by omega), if_pos (by assumption)]; first | done | rfl)))) (.cons (Weak.int (show ((0) : Int) = ((nodeOf n A B).fst.c) from (by (unfold nodeOf; rw [if_neg (by omega), if_pos (by assumption)]; first | done | rfl)))) (.cons (Weak.nilr (show [] = (List.map (row1 IntKind.i8) (nodeOf n A B).fst.d) from (by (unfold nodeOf; rw [if_neg (by omega), if_pos (by assumption)]; first | done | rfl)))) .nil))))) (.cons (Weak.int (show ((5) : Int) = ((nodeOf n A B).snd) from (by (unfold nodeOf; rw [if_neg (by omega), if_pos (by assumption)]; first | done | rfl)))) .nil)))
    · have gc1 : tenRight A = true := by first | exact hc1 | exact of_decide_eq_true hc1 | exact of_decide_eq_false hc1 | simpa [eqNums] using hc1 | (simp [eqNums] at hc1 ⊢; first | done | assumption | omega)
      rcases Bool.eq_false_or_eq_true (n.kd == 4) with hc2 | hc2
      · have gc2 : n.kd = 4 := bet hc2
        have oz5 := @pool_v (A) (n) (true) okA ok
        exact (VC.run (fn := Try.f72) (W := [.r [] [], .r [] [.callr (rO oz0)], .r [] [], .br false, .r [] [.callr (rO oz2)], .br false, .r [] [], .r [] [], .br true, .r [] [.callr (rO oz5)]]) (r := AV.tup [AV.agg [i64 (poolOf A n true).fst.h, i64 (poolOf A n true).fst.x, i64 (poolOf A n true).fst.c, AV.sl 1 (List.map (row1 IntKind.i8) (poolOf A n true).fst.d)], i64 (poolOf A n true).snd]) Try.func72 (by kernel_rfl) (.c oz0 <| .c hc0 <| .c oz2 <| .c hc1 <| .c hc2 <| .c oz5 <| .n)).weak (WeakL.refl _) (Weak.tup (.cons (Weak.agg (.cons (Weak.int (show (((poolOf A n true).fst.h) : Int) = ((nodeOf n A B).fst.h) from (by (unfold nodeOf; rw [if_neg (by omega), if_neg (by rw [‹tenRight A = true›]; simp)]; (repeat first | rw [if_pos (by omega)] | rw [if_neg (by omega)]); first | done | rfl)))) (.cons (Weak.int (show (((poolOf A n true).fst.x) : Int) = ((nodeOf n A B).fst.x) from (by (unfold nodeOf; rw [if_neg (by omega), if_neg (by rw [‹tenRight A = true›]; simp)]; (repeat first | rw [if_pos (by omega)] | rw [if_neg (by omega)]); first | done | rfl)))) (.cons (Weak.int (show (((poolOf A n true).fst.c) : Int) = ((nodeOf n A B).fst.c) from (by (unfold nodeOf; rw [if_neg (by omega), if_neg (by rw [‹tenRight A = true›]; simp)]; (repeat first | rw [if_pos (by omega)] | rw [if_neg (by omega)]); first | done | rfl)))) (.cons (Weak.rows (rows_to (row1 IntKind.i8) (r := List.map (row1 IntKind.i8) (poolOf A n true).fst.d) (l := (poolOf A n true).fst.d) (m := (nodeOf n A B).fst.d) rfl (show ((poolOf A n true).fst.d) = ((nodeOf n A B).fst.d) from (by (unfold nodeOf; rw [if_neg (by omega), if_neg (by rw [‹tenRight A = true›]; simp)]; (repeat first | rw [if_pos (by omega)] | rw [if_neg (by omega)]); first | done | rfl))))) .nil))))) (.cons (Weak.int (show (((poolOf A n true).snd) : Int) = ((nodeOf n A B).snd) from (by (unfold nodeOf; rw [if_neg (by omega), if_neg (by rw [‹tenRight A = true›]; simp)]; (repeat first | rw [if_pos (by omega)] | rw [if_neg (by omega)]); first | done | rfl)))) .nil)))
      · have gc2 : ¬n.kd = 4 := bef hc2
        rcases Bool.eq_false_or_eq_true (n.kd == 5) with hc3 | hc3
        · have gc3 : n.kd = 5 := bet hc3
          have oz6 := @pool_v (A) (n) (false) okA ok
          exact (VC.run (fn := Try.f72) (W := [.r [] [], .r [] [.callr (rO oz0)], .r [] [], .br false, .r [] [.callr (rO oz2)], .br false, .r [] [], .r [] [], .br false, .r [] [], .br true, .r [] [.callr (rO oz6)]]) (r := AV.tup [AV.agg [i64 (poolOf A n false).fst.h, i64 (poolOf A n false).fst.x, i64 (poolOf A n false).fst.c, AV.sl 1 (List.map (row1 IntKind.i8) (poolOf A n false).fst.d)], i64 (poolOf A n false).snd]) Try.func72 (by kernel_rfl) (.c oz0 <| .c hc0 <| .c oz2 <| .c hc1 <| .c hc2 <| .c hc3 <| .c oz6 <| .n)).weak (WeakL.refl _) (Weak.tup (.cons (Weak.agg (.cons (Weak.int (show (((poolOf A n false).fst.h) : Int) = ((nodeOf n A B).fst.h) from (by (unfold nodeOf; rw [if_neg (by omega), if_neg (by rw [‹tenRight A = true›]; simp)]; (repeat first | rw [if_pos (by omega)] | rw [if_neg (by omega)]); first | done | rfl)))) (.cons (Weak.int (show (((poolOf A n false).fst.x) : Int) = ((nodeOf n A B).fst.x) from (by (unfold nodeOf; rw [if_neg (by omega), if_neg (by rw [‹tenRight A = true›]; simp)]; (repeat first | rw [if_pos (by omega)] | rw [if_neg (by omega)]); first | done | rfl)))) (.cons (Weak.int (show (((poolOf A n false).fst.c) : Int) = ((nodeOf n A B).fst.c) from (by (unfold nodeOf; rw [if_neg (by omega), if_neg (by rw [‹tenRight A = true›]; simp)]; (repeat first | rw [if_pos (by omega)] | rw [if_neg (by omega)]); first | done | rfl)))) (.cons (Weak.rows (rows_to (row1 IntKind.i8) (r := List.map (row1 IntKind.i8) (poolOf A n false).fst.d) (l := (poolOf A n false).fst.d) (m := (nodeOf n A B).fst.d) rfl (show ((poolOf A n false).fst.d) = ((nodeOf n A B).fst.d) from (by (unfold nodeOf; rw [if_neg (by omega), if_neg (by rw [‹tenRight A = true›]; simp)]; (repeat first | rw [if_pos (by omega)] | rw [if_neg (by omega)]); first | done | rfl))))) .nil))))) (.cons (Weak.int (show (((poolOf A n false).snd) : Int) = ((nodeOf n A B).snd) from (by (unfold nodeOf; rw [if_neg (by omega), if_neg (by rw [‹tenRight A = true›]; simp)]; (repeat first | rw [if_pos (by omega)] | rw [if_neg (by omega)]); first | done | rfl)))) .nil)))
        · have gc3 : ¬n.kd = 5 := bef hc3
          rcases Bool.eq_false_or_eq_true (n.kd == 6) with hc4 | hc4
          · have gc4 : n.kd = 6 := bet hc4
            have oz7 := @rjoin_v (A) (B) (n) okA okB ok
            exact (VC.run (fn := Try.f72) (W := [.r [] [], .r [] [.callr (rO oz0)], .r [] [], .br false, .r [] [.callr (rO oz2)], .br false, .r [] [], .r [] [], .br false, .r [] [], .br false, .r [] [], .br true, .r [] [.callr (rO oz7)]]) (r := AV.tup [AV.agg [i64 (joinOf A B n).fst.h, i64 (joinOf A B n).fst.x, i64 (joinOf A B n).fst.c, AV.sl 1 (List.map (row1 IntKind.i8) (joinOf A B n).fst.d)], i64 (joinOf A B n).snd]) Try.func72 (by kernel_rfl) (.c oz0 <| .c hc0 <| .c oz2 <| .c hc1 <| .c hc2 <| .c hc3 <| .c hc4 <| .c oz7 <| .n)).weak (WeakL.refl _) (Weak.tup (.cons (Weak.agg (.cons (Weak.int (show (((joinOf A B n).fst.h) : Int) = ((nodeOf n A B).fst.h) from (by (unfold nodeOf; rw [if_neg (by omega), if_neg (by rw [‹tenRight A = true›]; simp)]; (repeat first | rw [if_pos (by omega)] | rw [if_neg (by omega)]); first | done | rfl)))) (.cons (Weak.int (show (((joinOf A B n).fst.x) : Int) = ((nodeOf n A B).fst.x) from (by (unfold nodeOf; rw [if_neg (by omega), if_neg (by rw [‹tenRight A = true›]; simp)]; (repeat first | rw [if_pos (by omega)] | rw [if_neg (by omega)]); first | done | rfl)))) (.cons (Weak.int (show (((joinOf A B n).fst.c) : Int) = ((nodeOf n A B).fst.c) from (by (unfold nodeOf; rw [if_neg (by omega), if_neg (by rw [‹tenRight A = true›]; simp)]; (repeat first | rw [if_pos (by omega)] | rw [if_neg (by omega)]); first | done | rfl)))) (.cons (Weak.rows (rows_to (row1 IntKind.i8) (r := List.map (row1 IntKind.i8) (joinOf A B n).fst.d) (l := (joinOf A B n).fst.d) (m := (nodeOf n A B).fst.d) rfl (show ((joinOf A B n).fst.d) = ((nodeOf n A B).fst.d) from (by (unfold nodeOf; rw [if_neg (by omega), if_neg (by rw [‹tenRight A = true›]; simp)]; (repeat first | rw [if_pos (by omega)] | rw [if_neg (by omega)]); first | done | rfl))))) .nil))))) (.cons (Weak.int (show (((joinOf A B n).snd) : Int) = ((nodeOf n A B).snd) from (by (unfold nodeOf; rw [if_neg (by omega), if_neg (by rw [‹tenRight A = true›]; simp)]; (repeat first | rw [if_pos (by omega)] | rw [if_neg (by omega)]); first | done | rfl)))) .nil)))
          · have gc4 : ¬n.kd = 6 := bef hc4
            rcases Bool.eq_false_or_eq_true (n.kd == 7) with hc5 | hc5
            · have gc5 : n.kd = 7 := bet hc5
              have oz8 := @ract_v (A) (n) okA ok
              exact (VC.run (fn := Try.f72) (W := [.r [] [], .r [] [.callr (rO oz0)], .r [] [], .br false, .r [] [.callr (rO oz2)], .br false, .r [] [], .r [] [], .br false, .r [] [], .br false, .r [] [], .br false, .r [] [], .br true, .r [] [.callr (rO oz8)]]) (r := AV.tup [AV.agg [i64 (actOf A n).fst.h, i64 (actOf A n).fst.x, i64 (actOf A n).fst.c, AV.sl 1 (List.map (row1 IntKind.i8) (actOf A n).fst.d)], i64 (actOf A n).snd]) Try.func72 (by kernel_rfl) (.c oz0 <| .c hc0 <| .c oz2 <| .c hc1 <| .c hc2 <| .c hc3 <| .c hc4 <| .c hc5 <| .c oz8 <| .n)).weak (WeakL.refl _) (Weak.tup (.cons (Weak.agg (.cons (Weak.int (show (((actOf A n).fst.h) : Int) = ((nodeOf n A B).fst.h) from (by (unfold nodeOf; rw [if_neg (by omega), if_neg (by rw [‹tenRight A = true›]; simp)]; (repeat first | rw [if_pos (by omega)] | rw [if_neg (by omega)]); first | done | rfl)))) (.cons (Weak.int (show (((actOf A n).fst.x) : Int) = ((nodeOf n A B).fst.x) from (by (unfold nodeOf; rw [if_neg (by omega), if_neg (by rw [‹tenRight A = true›]; simp)]; (repeat first | rw [if_pos (by omega)] | rw [if_neg (by omega)]); first | done | rfl)))) (.cons (Weak.int (show (((actOf A n).fst.c) : Int) = ((nodeOf n A B).fst.c) from (by (unfold nodeOf; rw [if_neg (by omega), if_neg (by rw [‹tenRight A = true›]; simp)]; (repeat first | rw [if_pos (by omega)] | rw [if_neg (by omega)]); first | done | rfl)))) (.cons (Weak.rows (rows_to (row1 IntKind.i8) (r := List.map (row1 IntKind.i8) (actOf A n).fst.d) (l := (actOf A n).fst.d) (m := (nodeOf n A B).fst.d) rfl (show ((actOf A n).fst.d) = ((nodeOf n A B).fst.d) from (by (unfold nodeOf; rw [if_neg (by omega), if_neg (by rw [‹tenRight A = true›]; simp)]; (repeat first | rw [if_pos (by omega)] | rw [if_neg (by omega)]); first | done | rfl))))) .nil))))) (.cons (Weak.int (show (((actOf A n).snd) : Int) = ((nodeOf n A B).snd) from (by (unfold nodeOf; rw [if_neg (by omega), if_neg (by rw [‹tenRight A = true›]; simp)]; (repeat first | rw [if_pos (by omega)] | rw [if_neg (by omega)]); first | done | rfl)))) .nil)))
            · have gc5 : ¬n.kd = 7 := bef hc5
              rcases Bool.eq_false_or_eq_true (n.kd == 8) with hc6 | hc6
              · have gc6 : n.kd = 8 := bet hc6
                have oz9 := @may_v (A) (n.np) okA
                rcases Bool.eq_false_or_eq_true (mayE A n.np != 0) with hc7 | hc7
                · have gc7 : ¬mayE A n.np = 0 := bdt hc7
                  exact (VC.run (fn := Try.f72) (W := [.r [] [], .r [] [.callr (rO oz0)], .r [] [], .br false, .r [] [.callr (rO oz2)], .br false, .r [] [], .r [] [], .br false, .r [] [], .br false, .r [] [], .br false, .r [] [], .br false, .r [] [], .br true, .r [] [.callr (rO oz9)], .r [] [], .br true, .r [] []]) (r := AV.tup [AV.agg [i64 0, i64 0, i64 0, AV.lit (Value.slice none 0 0)], i64 (mayE A n.np)]) Try.func72 (by kernel_rfl) (.c oz0 <| .c hc0 <| .c oz2 <| .c hc1 <| .c hc2 <| .c hc3 <| .c hc4 <| .c hc5 <| .c hc6 <| .c oz9 <| .c hc7 <| .n)).weak (WeakL.refl _) (Weak.tup (.cons (Weak.agg (.cons (Weak.int (show ((0) : Int) = ((nodeOf n A B).fst.h) from (by (unfold nodeOf; rw [if_neg (by omega), if_neg (by rw [‹tenRight A = true›]; simp)]; (repeat first | rw [if_pos (by omega)] | rw [if_neg (by omega)]); first | done | rfl)))) (.cons (Weak.int (show ((0) : Int) = ((nodeOf n A B).fst.x) from (by (unfold nodeOf; rw [if_neg (by omega), if_neg (by rw [‹tenRight A = true›]; simp)]; (repeat first | rw [if_pos (by omega)] | rw [if_neg (by omega)]); first | done | rfl)))) (.cons (Weak.int (show ((0) : Int) = ((nodeOf n A B).fst.c) from (by (unfold nodeOf; rw [if_neg (by omega), if_neg (by rw [‹tenRight A = true›]; simp)]; (repeat first | rw [if_pos (by omega)] | rw [if_neg (by omega)]); first | done | rfl)))) (.cons (Weak.nilr (show [] = (List.map (row1 IntKind.i8) (nodeOf n A B).fst.d) from (by (unfold nodeOf; rw [if_neg (by omega), if_neg (by rw [‹tenRight A = true›]; simp)]; (repeat first | rw [if_pos (by omega)] | rw [if_neg (by omega)]); first | done | rfl)))) .nil))))) (.cons (Weak.int (show ((mayE A n.np) : Int) = ((nodeOf n A B).snd) from (by (unfold nodeOf; rw [if_neg (by omega), if_neg (by rw [‹tenRight A = true›]; simp)]; (repeat first | rw [if_pos (by omega)] | rw [if_neg (by omega)]); first | done | rfl)))) .nil)))
                · have gc7 : mayE A n.np = 0 := bdf hc7
                  have oz11 := @resize_v (A) (n.np) (n.za) (by (exact gk (by assumption))) (by (exact (gm (by assumption) (by assumption)).1)) (by (exact (gm (by assumption) (by assumption)).2))
                  exact (VC.run (fn := Try.f72) (W := [.r [] [], .r [] [.callr (rO oz0)], .r [] [], .br false, .r [] [.callr (rO oz2)], .br false, .r [] [], .r [] [], .br false, .r [] [], .br false, .r [] [], .br false, .r [] [], .br false, .r [] [], .br true, .r [] [.callr (rO oz9)], .r [] [], .br false, .r [] [.callr (rO oz11)]]) (r := AV.tup [AV.agg [i64 (padOf A n.np n.za).fst.h, i64 (padOf A n.np n.za).fst.x, i64 (padOf A n.np n.za).fst.c, AV.sl 1 (List.map (row1 IntKind.i8) (padOf A n.np n.za).fst.d)], i64 (padOf A n.np n.za).snd]) Try.func72 (by kernel_rfl) (.c oz0 <| .c hc0 <| .c oz2 <| .c hc1 <| .c hc2 <| .c hc3 <| .c hc4 <| .c hc5 <| .c hc6 <| .c oz9 <| .c hc7 <| .c oz11 <| .n)).weak (WeakL.refl _) (Weak.tup (.cons (Weak.agg (.cons (Weak.int (show (((padOf A n.np n.za).fst.h) : Int) = ((nodeOf n A B).fst.h) from (by (unfold nodeOf; rw [if_neg (by omega), if_neg (by rw [‹tenRight A = true›]; simp)]; (repeat first | rw [if_pos (by omega)] | rw [if_neg (by omega)]); first | done | rfl)))) (.cons (Weak.int (show (((padOf A n.np n.za).fst.x) : Int) = ((nodeOf n A B).fst.x) from (by (unfold nodeOf; rw [if_neg (by omega), if_neg (by rw [‹tenRight A = true›]; simp)]; (repeat first | rw [if_pos (by omega)] | rw [if_neg (by omega)]); first | done | rfl)))) (.cons (Weak.int (show (((padOf A n.np n.za).fst.c) : Int) = ((nodeOf n A B).fst.c) from (by (unfold nodeOf; rw [if_neg (by omega), if_neg (by rw [‹tenRight A = true›]; simp)]; (repeat first | rw [if_pos (by omega)] | rw [if_neg (by omega)]); first | done | rfl)))) (.cons (Weak.rows (rows_to (row1 IntKind.i8) (r := List.map (row1 IntKind.i8) (padOf A n.np n.za).fst.d) (l := (padOf A n.np n.za).fst.d) (m := (nodeOf n A B).fst.d) rfl (show ((padOf A n.np n.za).fst.d) = ((nodeOf n A B).fst.d) from (by (unfold nodeOf; rw [if_neg (by omega), if_neg (by rw [‹tenRight A = true›]; simp)]; (repeat first | rw [if_pos (by omega)] | rw [if_neg (by omega)]); first | done | rfl))))) .nil))))) (.cons (Weak.int (show (((padOf A n.np n.za).snd) : Int) = ((nodeOf n A B).snd) from (by (unfold nodeOf; rw [if_neg (by omega), if_neg (by rw [‹tenRight A = true›]; simp)]; (repeat first | rw [if_pos (by omega)] | rw [if_neg (by omega)]); first | done | rfl)))) .nil)))
              · have gc6 : ¬n.kd = 8 := bef hc6
                rcases Bool.eq_false_or_eq_true (n.kd == 9) with hc7 | hc7
                · have gc7 : n.kd = 9 := bet hc7
                  exact (VC.run (fn := Try.f72) (W := [.r [] [], .r [] [.callr (rO oz0)], .r [] [], .br false, .r [] [.callr (rO oz2)], .br false, .r [] [], .r [] [], .br false, .r [] [], .br false, .r [] [], .br false, .r [] [], .br false, .r [] [], .br false, .r [] [], .br true, .r [] []]) (r := AV.tup [AV.agg [i64 1, i64 1, i64 (↑(List.map (row1 IntKind.i8) A.d).length : Int), AV.sl 1 (List.map (row1 IntKind.i8) A.d)], i64 0]) Try.func72 (by kernel_rfl) (.c oz0 <| .c hc0 <| .c oz2 <| .c hc1 <| .c hc2 <| .c hc3 <| .c hc4 <| .c hc5 <| .c hc6 <| .c hc7 <| .n)).weak (WeakL.refl _) (Weak.tup (.cons (Weak.agg (.cons (Weak.int (show ((1) : Int) = ((nodeOf n A B).fst.h) from (by (unfold nodeOf; rw [if_neg (by omega), if_neg (by rw [‹tenRight A = true›]; simp)]; (repeat first | rw [if_pos (by omega)] | rw [if_neg (by omega)]); first | done | rfl)))) (.cons (Weak.int (show ((1) : Int) = ((nodeOf n A B).fst.x) from (by (unfold nodeOf; rw [if_neg (by omega), if_neg (by rw [‹tenRight A = true›]; simp)]; (repeat first | rw [if_pos (by omega)] | rw [if_neg (by omega)]); first | done | rfl)))) (.cons (Weak.int (show (((↑(List.map (row1 IntKind.i8) A.d).length : Int)) : Int) = ((nodeOf n A B).fst.c) from (by (rw [List.length_map]; unfold nodeOf; rw [if_neg (by omega), if_neg (by rw [‹tenRight A = true›]; simp)]; (repeat first | rw [if_pos (by omega)] | rw [if_neg (by omega)]); first | done | rfl)))) (.cons (Weak.rows (rows_to (row1 IntKind.i8) (r := List.map (row1 IntKind.i8) A.d) (l := A.d) (m := (nodeOf n A B).fst.d) rfl (show (A.d) = ((nodeOf n A B).fst.d) from (by (unfold nodeOf; rw [if_neg (by omega), if_neg (by rw [‹tenRight A = true›]; simp)]; (repeat first | rw [if_pos (by omega)] | rw [if_neg (by omega)]); first | done | rfl))))) .nil))))) (.cons (Weak.int (show ((0) : Int) = ((nodeOf n A B).snd) from (by (unfold nodeOf; rw [if_neg (by omega), if_neg (by rw [‹tenRight A = true›]; simp)]; (repeat first | rw [if_pos (by omega)] | rw [if_neg (by omega)]); first | done | rfl)))) .nil)))
                · have gc7 : ¬n.kd = 9 := bef hc7
                  have oz10 := @rsum_v (A) (n) okA ok
                  rcases Bool.eq_false_or_eq_true ((sumOf A n).snd != 0) with hc8 | hc8
                  · have gc8 : ¬(sumOf A n).snd = 0 := bdt hc8
                    exact (VC.run (fn := Try.f72) (W := [.r [] [], .r [] [.callr (rO oz0)], .r [] [], .br false, .r [] [.callr (rO oz2)], .br false, .r [] [], .r [] [], .br false, .r [] [], .br false, .r [] [], .br false, .r [] [], .br false, .r [] [], .br false, .r [] [], .br false, .r [] [.callr (rO oz10)], .r [] [], .br true, .r [] []]) (r := AV.tup [AV.agg [i64 0, i64 0, i64 0, AV.lit (Value.slice none 0 0)], i64 (sumOf A n).snd]) Try.func72 (by kernel_rfl) (.c oz0 <| .c hc0 <| .c oz2 <| .c hc1 <| .c hc2 <| .c hc3 <| .c hc4 <| .c hc5 <| .c hc6 <| .c hc7 <| .c oz10 <| .c hc8 <| .n)).weak (WeakL.refl _) (Weak.tup (.cons (Weak.agg (.cons (Weak.int (show ((0) : Int) = ((nodeOf n A B).fst.h) from (by (unfold nodeOf; rw [if_neg (by omega), if_neg (by rw [‹tenRight A = true›]; simp)]; (repeat first | rw [if_pos (by omega)] | rw [if_neg (by omega)]); first | done | rfl)))) (.cons (Weak.int (show ((0) : Int) = ((nodeOf n A B).fst.x) from (by (unfold nodeOf; rw [if_neg (by omega), if_neg (by rw [‹tenRight A = true›]; simp)]; (repeat first | rw [if_pos (by omega)] | rw [if_neg (by omega)]); first | done | rfl)))) (.cons (Weak.int (show ((0) : Int) = ((nodeOf n A B).fst.c) from (by (unfold nodeOf; rw [if_neg (by omega), if_neg (by rw [‹tenRight A = true›]; simp)]; (repeat first | rw [if_pos (by omega)] | rw [if_neg (by omega)]); first | done | rfl)))) (.cons (Weak.nilr (show [] = (List.map (row1 IntKind.i8) (nodeOf n A B).fst.d) from (by (unfold nodeOf; rw [if_neg (by omega), if_neg (by rw [‹tenRight A = true›]; simp)]; (repeat first | rw [if_pos (by omega)] | rw [if_neg (by omega)]); first | done | rfl)))) .nil))))) (.cons (Weak.int (show (((sumOf A n).snd) : Int) = ((nodeOf n A B).snd) from (by (unfold nodeOf; rw [if_neg (by omega), if_neg (by rw [‹tenRight A = true›]; simp)]; (repeat first | rw [if_pos (by omega)] | rw [if_neg (by omega)]); first | done | rfl)))) .nil)))
                  · have gc8 : (sumOf A n).snd = 0 := bdf hc8
                    have oz12 := @rput_v ((sumOf A n).fst) (n) g1 ok
                    exact (VC.run (fn := Try.f72) (W := [.r [] [], .r [] [.callr (rO oz0)], .r [] [], .br false, .r [] [.callr (rO oz2)], .br false, .r [] [], .r [] [], .br false, .r [] [], .br false, .r [] [], .br false, .r [] [], .br false, .r [] [], .br false, .r [] [], .br false, .r [] [.callr (rO oz10)], .r [] [], .br false, .r [] [.callr (rO oz12)]]) (r := AV.tup [AV.agg [i64 (putOf (sumOf A n).fst n).fst.h, i64 (putOf (sumOf A n).fst n).fst.x, i64 (putOf (sumOf A n).fst n).fst.c, AV.sl 1 (List.map (row1 IntKind.i8) (putOf (sumOf A n).fst n).fst.d)], i64 (putOf (sumOf A n).fst n).snd]) Try.func72 (by kernel_rfl) (.c oz0 <| .c hc0 <| .c oz2 <| .c hc1 <| .c hc2 <| .c hc3 <| .c hc4 <| .c hc5 <| .c hc6 <| .c hc7 <| .c oz10 <| .c hc8 <| .c oz12 <| .n)).weak (WeakL.refl _) (Weak.tup (.cons (Weak.agg (.cons (Weak.int (show (((putOf (sumOf A n).fst n).fst.h) : Int) = ((nodeOf n A B).fst.h) from (by (unfold nodeOf; rw [if_neg (by omega), if_neg (by rw [‹tenRight A = true›]; simp)]; (repeat first | rw [if_pos (by omega)] | rw [if_neg (by omega)]); first | done | rfl)))) (.cons (Weak.int (show (((putOf (sumOf A n).fst n).fst.x) : Int) = ((nodeOf n A B).fst.x) from (by (unfold nodeOf; rw [if_neg (by omega), if_neg (by rw [‹tenRight A = true›]; simp)]; (repeat first | rw [if_pos (by omega)] | rw [if_neg (by omega)]); first | done | rfl)))) (.cons (Weak.int (show (((putOf (sumOf A n).fst n).fst.c) : Int) = ((nodeOf n A B).fst.c) from (by (unfold nodeOf; rw [if_neg (by omega), if_neg (by rw [‹tenRight A = true›]; simp)]; (repeat first | rw [if_pos (by omega)] | rw [if_neg (by omega)]); first | done | rfl)))) (.cons (Weak.rows (rows_to (row1 IntKind.i8) (r := List.map (row1 IntKind.i8) (putOf (sumOf A n).fst n).fst.d) (l := (putOf (sumOf A n).fst n).fst.d) (m := (nodeOf n A B).fst.d) rfl (show ((putOf (sumOf A n).fst n).fst.d) = ((nodeOf n A B).fst.d) from (by (unfold nodeOf; rw [if_neg (by omega), if_neg (by rw [‹tenRight A = true›]; simp)]; (repeat first | rw [if_pos (by omega)] | rw [if_neg (by omega)]); first | done | rfl))))) .nil))))) (.cons (Weak.int (show (((putOf (sumOf A n).fst n).snd) : Int) = ((nodeOf n A B).snd) from (by (unfold nodeOf; rw [if_neg (by omega), if_neg (by rw [‹tenRight A = true›]; simp)]; (repeat first | rw [if_pos (by omega)] | rw [if_neg (by omega)]); first | done | rfl)))) .nil)))
end Go.Proofs.Ytgecmooedhnenaa

/- The shapes of all values of a block, by the program and by the document. No condition. -/
namespace Go.Proofs.Ytgecmooedhnenaa
open Go.RowKit
set_option linter.unusedSimpArgs false
set_option linter.unusedVariables false
set_option linter.unnecessarySimpa false

def Shp.Rt (s : Shp) : Prop := 0 < elems s.h s.x s.c
abbrev zsh : Shp := ⟨0, 0, 0⟩
theorem zsh_ok : zsh.Ok := by constructor <;> exact ⟨by decide, by decide⟩
theorem Shp.Rt.ok {s : Shp} (h : s.Rt) : s.Ok := by
  have := elems_ok h
  exact ⟨⟨by omega, by omega⟩, ⟨by omega, by omega⟩, ⟨by omega, by omega⟩⟩
/-- Either all is right, or nothing is there. -/
def Told (r : Shp × Int) : Prop := (r.2 = 0 ∧ r.1.Rt) ∨ (r.2 ≠ 0 ∧ r.1 = zsh)
theorem slideE_told (t : Shp) (k s p o : Int) : Told (slideE t k s p o) := by
  unfold slideE
  split
  · exact .inr ⟨by dsimp only; decide, rfl⟩
  · split
    · exact .inr ⟨by assumption, rfl⟩
    · split
      · exact .inr ⟨by assumption, rfl⟩
      · split
        · exact .inr ⟨by dsimp only; decide, rfl⟩
        · rename_i h; exact .inl ⟨rfl, Classical.not_not.1 h⟩
theorem convE_told (t : Shp) (n : Nod) : Told (convE t n) := by
  have q := slideE_told t n.nk n.ns n.np n.no
  unfold convE
  split
  · exact .inr ⟨by assumption, rfl⟩
  · split
    · exact .inr ⟨by dsimp only; decide, rfl⟩
    · rcases q with q | q
      · exact .inl ⟨rfl, q.2⟩
      · exact absurd q.1 (by assumption)
theorem depthE_told (t : Shp) (n : Nod) : Told (depthE t n) := by
  have q := slideE_told t n.nk n.ns n.np t.c
  unfold depthE
  split
  · exact .inr ⟨by assumption, rfl⟩
  · split
    · exact .inr ⟨by dsimp only; decide, rfl⟩
    · rcases q with q | q
      · exact .inl ⟨rfl, q.2⟩
      · exact absurd q.1 (by assumption)
theorem denseE_told (t : Shp) (n : Nod) : Told (denseE t n) := by
  unfold denseE
  split
  · exact .inr ⟨by dsimp only; decide, rfl⟩
  · split
    · exact .inr ⟨by dsimp only; decide, rfl⟩
    · rename_i h _
      have := elems_in 1 1 n.no
      exact .inl ⟨rfl, by unfold Shp.Rt; dsimp only; omega⟩
theorem aroundE_told (a : Shp) (p : Int) : Told (aroundE a p) := by
  unfold aroundE
  split
  · exact .inr ⟨by dsimp only; decide, rfl⟩
  · split
    · exact .inr ⟨by dsimp only; decide, rfl⟩
    · have := elems_in (a.h + 2 * p) (a.x + 2 * p) a.c
      exact .inl ⟨rfl, by unfold Shp.Rt; dsimp only; omega⟩
theorem flat_rt {n : Int} (h0 : 0 < n) (h : n ≤ 1024) : 0 < elems 1 1 n := by
  unfold elems; rw [if_pos (by omega)]; omega
theorem shapeE_told (n : Nod) (a b : Shp) : Told (shapeE n a b) := by
  unfold shapeE
  split
  · exact convE_told a n
  · split
    · exact depthE_told a n
    · split
      · exact denseE_told a n
      · split
        · exact slideE_told a n.nk n.ns n.np a.c
        · split
          · exact .inr ⟨by dsimp only; decide, rfl⟩
          · split
            · exact .inr ⟨by dsimp only; decide, rfl⟩
            · rename_i h
              have q := elems_in a.h a.x a.c
              split
              · exact (.inl ⟨rfl, show 0 < elems 1 1 (elems a.h a.x a.c) from flat_rt (by omega) q.2⟩)
              · split
                · exact aroundE_told a n.np
                · exact .inl ⟨rfl, by unfold Shp.Rt; dsimp only; omega⟩
theorem nextE_told (n : Nod) (L : List Shp) : Told (nextE n L) := by
  unfold nextE
  split
  · exact .inr ⟨by assumption, rfl⟩
  · split
    · exact shapeE_told _ _ _
    · exact .inr ⟨by dsimp only; decide, rfl⟩
theorem Told.ok {r : Shp × Int} (h : Told r) : r.1.Ok := by
  rcases h with h | h
  · exact h.2.ok
  · rw [h.2]; exact zsh_ok
/-- All values of a block have shapes. -/
structure SOK (l : List Nod) (a : Shp) : Prop where
  i : a.Rt
  e : 0 < l.length
  f : l.length ≤ 8
  k : ∀ k, k < l.length → errL nextE l a k = 0
def shapesB (l : List Nod) (a : Shp) : Nat → Bool := fun k => errL nextE l a k == 0
/-- Where all ends, and what is wrong there. -/
def shapesE (l : List Nod) (a : Shp) : Int × Int :=
  if ¬ 0 < elems a.h a.x a.c then (-1, 5) else if l.length = 0 then (-1, 12) else if 8 < l.length then (-1, 4)
  else if firstBad (shapesB l a) l.length < l.length then (firstBad (shapesB l a) l.length, errL nextE l a (firstBad (shapesB l a) l.length)) else (l.length, 0)
theorem shapesE_at {l : List Nod} {a : Shp} {m : Nat} (i : a.Rt) (e : 0 < l.length) (f : l.length ≤ 8) (hm : m < l.length) (hf : errL nextE l a m ≠ 0) (h : ∀ k, k < m → errL nextE l a k = 0) : shapesE l a = ((m : Int), errL nextE l a m) := by
  unfold Shp.Rt at i
  have := firstBad_at (p := shapesB l a) (m := m) (by simpa [shapesB] using hf) (fun k hk => by simpa [shapesB] using h k hk) hm
  unfold shapesE
  rw [if_neg (by omega), if_neg (by omega), if_neg (by omega), this, if_pos hm]
theorem SOK.cases (l : List Nod) (a : Shp) : SOK l a ∨ ¬ a.Rt ∨ l.length = 0 ∨ 8 < l.length ∨ (a.Rt ∧ 0 < l.length ∧ l.length ≤ 8 ∧ ∃ m, m < l.length ∧ errL nextE l a m ≠ 0 ∧ ∀ k, k < m → errL nextE l a k = 0) := by
  by_cases i : a.Rt
  · by_cases e : 0 < l.length
    · by_cases f : l.length ≤ 8
      · rcases all_or (shapesB l a) l.length with h | ⟨m, h1, h2, h3⟩
        · exact .inl ⟨i, e, f, fun k hk => by simpa [shapesB] using h k hk⟩
        · exact .inr (.inr (.inr (.inr ⟨i, e, f, m, h1, by simpa [shapesB] using h2, fun k hk => by simpa [shapesB] using h3 k hk⟩)))
      · exact .inr (.inr (.inr (.inl (by omega))))
    · exact .inr (.inr (.inl (by omega)))
  · exact .inr (.inl i)
theorem grow_ok {l : List Nod} {a : Shp} (i : a.Ok) (k : Nat) : ∀ s ∈ growL nextE l a k, s.Ok :=
  growL_all (n := k) i (fun j _ _ => (nextE_told _ _).ok) k (Nat.le_refl _)
end Go.Proofs.Ytgecmooedhnenaa

/- The shapes of all values of a block, by the document. No condition. -/
namespace Go.Proofs.Ytgecmooedhnenaa
open Go.RowKit
set_option linter.unusedSimpArgs false
set_option linter.unusedVariables false
set_option linter.unnecessarySimpa false

theorem nextE_c {n : Nod} {L : List Shp} (h : checkE n ≠ 0) : nextE n L = (⟨0, 0, 0⟩, checkE n) := if_pos h
theorem nextE_0 {n : Nod} {L : List Shp} (h : checkE n = 0) (g : thereB n ((List.map shpC L).length : Int) = false) : nextE n L = (⟨0, 0, 0⟩, 8) := by
  rw [List.length_map] at g; unfold nextE; rw [if_neg (by simp [h]), if_neg (by simp [g])]
theorem nextE_6 {n : Nod} {L : List Shp} (h : checkE n = 0) (g : thereB n ((List.map shpC L).length : Int) = true) : nextE n L = shapeE n (L.getD n.na.toNat default) (L.getD (secN n).toNat default) := by
  rw [List.length_map] at g; unfold nextE; rw [if_neg (by simp [h]), if_pos g]
theorem nextE_ok {n : Nod} {L : List Shp} (q : (nextE n L).2 = 0) : checkE n = 0 ∧ thereB n ((List.map shpC L).length : Int) = true ∧ nextE n L = shapeE n (L.getD n.na.toNat default) (L.getD (secN n).toNat default) := by
  by_cases h : checkE n = 0
  · cases g : thereB n ((List.map shpC L).length : Int) with
    | false => rw [nextE_0 h g] at q; cases q
    | true => exact ⟨h, rfl, nextE_6 h g⟩
  · rw [nextE_c h] at q; exact absurd q h
theorem there_at {n : Nod} {L : List Shp} (okL : ∀ r ∈ L, r.Ok) (h : thereB n ((List.map shpC L).length : Int) = true) : (0 ≤ n.na ∧ n.na < L.length ∧ n.na.toNat < L.length ∧ 0 ≤ secN n ∧ secN n < L.length ∧ (secN n).toNat < L.length) ∧ (L.getD n.na.toNat default).Ok ∧ (L.getD (secN n).toNat default).Ok := by
  rw [List.length_map] at h
  have h := there_iff.1 h
  exact ⟨⟨by omega, by omega, by omega, by omega, by omega, by omega⟩, getD_in okL (by omega), getD_in okL (by omega)⟩
noncomputable def rshapes_ly_I (l : List Nod) (a : Shp) (k : Nat) : VS := stt 72 [(0, .sl 19 (l.map nodC)), (7, .own 900), (8, i64 k)] [(900, .slc 24 3 ((growL nextE l a k).map shpC))]
noncomputable def rshapes_ly_Z (l : List Nod) (a : Shp) : VS := rshapes_ly_I l a (l.length)
set_option maxRecDepth 100000 in
set_option maxHeartbeats 2000000 in
theorem rshapes_ly_s (l : List Nod) (a : Shp) (okl : ∀ n ∈ l, n.Ok) (wl : ∀ n ∈ l, n.w.length ≤ 100000 ∧ n.b.length ≤ 100000) (i : a.Ok) (f8 : l.length ≤ 8) (h : ∀ k, k < l.length → errL nextE l a k = 0) (k : Nat) (hk : k < l.length) : VT Try.prog (fnC Try.f71 [1, 1, 1, 1, 1, 0, 1, 0, 0]) (rshapes_ly_I l a k) .normal (rshapes_ly_I l a (k + 1)) := by
  have q := h k hk
  have q1 := growL_len nextE l a k
  have q2 := grow_ok (l := l) i k
  have q3 := getD_in okl hk
  have qz := q3.kd
  have q4 := getD_in wl hk
  obtain ⟨q5, q6⟩ := q4
  have q8 : (List.map shpC (growL nextE l a k)).length = (growL nextE l a k).length := List.length_map _
  unfold errL at q
  obtain ⟨c1, c2, c3⟩ := nextE_ok q
  obtain ⟨c4, c5, c6⟩ := there_at q2 c2
  rw [c3] at q
  have oz2 := (map_at (nodC) (default) (l := l) (i := k) hk)
  have oz3 := @refCheck_v (l.getD k default) q5 q6 qz
  have oz5 := @refThere_v (l.getD k default) ((↑(List.map shpC (growL nextE l a k)).length : Int))
  have oz9 := (map_at (shpC) (default) (l := growL nextE l a k) (i := (l.getD k default).na.toNat) (by omega))
  have oz10 := @refSecond_v (l.getD k default)
  have oz13 := (map_at (shpC) (default) (l := growL nextE l a k) (i := (secN (l.getD k default)).toNat) (by omega))
  have oz14 := @refKshape_v (l.getD k default) ((growL nextE l a k).getD (l.getD k default).na.toNat default) ((growL nextE l a k).getD (secN (l.getD k default)).toNat default) c5 c6 q3
  exact VT.run (W := [.r [] [], .br true, .r [] [.row (sO oz2)], .r [] [.callr (rO oz3)], .r [] [], .br false, .r [] [.callr (rO oz5)], .br false, .r [] [.row (sO oz9), .callr (rO oz10), .row (sO oz13), .callr (rO oz14)], .r [] [], .br false, .r [] [], .r [] [.n ((↑k : Int) + 1)]]) (G := [.any (rg [(9, 4), (24, 14), (40, 5), (46, 17), (65, 4)]), .drop [9, 11, 67], .ren 68 900, .weak 8 (i64 (↑(k + 1) : Int)), .blk 900 (Blk.slc 24 3 (List.map shpC (growL nextE l a (k + 1)))), .sort]) (by kernel_rfl) (.c (show decide ((↑k : Int) < (↑(List.map nodC l).length : Int)) = true by (simp; omega)) <| .c (show 0 ≤ (↑k : Int) by omega) <| .c oz2 <| .c oz3 <| .c (show (checkE (l.getD k default) != 0) = false by (rw [c1]; rfl)) <| .c oz5 <| .c (show (!thereB (l.getD k default) (↑(List.map shpC (growL nextE l a k)).length : Int)) = false by (rw [c2]; rfl)) <| .c (show 0 ≤ (l.getD k default).na by omega) <| .c (show (l.getD k default).na < (↑(List.map shpC (growL nextE l a k)).length : Int) by omega) <| .c oz9 <| .c oz10 <| .c (show 0 ≤ secN (l.getD k default) by omega) <| .c (show secN (l.getD k default) < (↑(List.map shpC (growL nextE l a k)).length : Int) by omega) <| .c oz13 <| .c oz14 <| .c (show ((shapeE (l.getD k default) ((growL nextE l a k).getD (l.getD k default).na.toNat default) ((growL nextE l a k).getD (secN (l.getD k default)).toNat default)).snd != 0) = false by (rw [q]; rfl)) <| .c (show ((List.map shpC (growL nextE l a k)).length + 1) * 24 ≤ 140737488355328 by omega) <| .c (show (List.map shpC (growL nextE l a k)).length + 1 ≤ 9223372036854775807 by omega) <| .c (IntWalk.i64_in ((↑k : Int) + 1) (by omega)) <| .c (Weak.int (k := .i64) (show (((↑k : Int) + 1) : Int) = ((↑(k + 1) : Int)) from (by omega))) <| .c (show BlkW (Blk.slc 24 3 (List.map shpC (growL nextE l a k) ++ [[i64 (shapeE (l.getD k default) ((growL nextE l a k).getD (l.getD k default).na.toNat default) ((growL nextE l a k).getD (secN (l.getD k default)).toNat default)).fst.h, i64 (shapeE (l.getD k default) ((growL nextE l a k).getD (l.getD k default).na.toNat default) ((growL nextE l a k).getD (secN (l.getD k default)).toNat default)).fst.x, i64 (shapeE (l.getD k default) ((growL nextE l a k).getD (l.getD k default).na.toNat default) ((growL nextE l a k).getD (secN (l.getD k default)).toNat default)).fst.c]])) (Blk.slc 24 3 (List.map shpC (growL nextE l a (k + 1)))) from (BlkW.rows (rows_to (shpC) (r := List.map shpC (growL nextE l a k) ++ [[i64 (shapeE (l.getD k default) ((growL nextE l a k).getD (l.getD k default).na.toNat default) ((growL nextE l a k).getD (secN (l.getD k default)).toNat default)).fst.h, i64 (shapeE (l.getD k default) ((growL nextE l a k).getD (l.getD k default).na.toNat default) ((growL nextE l a k).getD (secN (l.getD k default)).toNat default)).fst.x, i64 (shapeE (l.getD k default) ((growL nextE l a k).getD (l.getD k default).na.toNat default) ((growL nextE l a k).getD (secN (l.getD k default)).toNat default)).fst.c]]) (l := growL nextE l a k ++ [Shp.mk (shapeE (l.getD k default) ((growL nextE l a k).getD (l.getD k default).na.toNat default) ((growL nextE l a k).getD (secN (l.getD k default)).toNat default)).fst.h (shapeE (l.getD k default) ((growL nextE l a k).getD (l.getD k default).na.toNat default) ((growL nextE l a k).getD (secN (l.getD k default)).toNat default)).fst.x (shapeE (l.getD k default) ((growL nextE l a k).getD (l.getD k default).na.toNat default) ((growL nextE l a k).getD (secN (l.getD k default)).toNat default)).fst.c]) (m := growL nextE l a (k + 1)) (by first | (simp only [List.map_append, List.map_cons, List.map_nil, List.map_set, List.map_replicate, List.map_take, List.map_drop]; done) | rfl | (simp only [List.map_append, List.map_cons, List.map_nil, List.map_set, List.map_replicate, List.map_take, List.map_drop]; rfl) | (simp only [List.map_append, List.map_cons, List.map_nil, List.map_set, List.map_replicate, List.map_take, List.map_drop, shpC, ints]; done)) (show (growL nextE l a k ++ [Shp.mk (shapeE (l.getD k default) ((growL nextE l a k).getD (l.getD k default).na.toNat default) ((growL nextE l a k).getD (secN (l.getD k default)).toNat default)).fst.h (shapeE (l.getD k default) ((growL nextE l a k).getD (l.getD k default).na.toNat default) ((growL nextE l a k).getD (secN (l.getD k default)).toNat default)).fst.x (shapeE (l.getD k default) ((growL nextE l a k).getD (l.getD k default).na.toNat default) ((growL nextE l a k).getD (secN (l.getD k default)).toNat default)).fst.c]) = (growL nextE l a (k + 1)) from (by (rw [growL, c3])))))) <| .n)
set_option maxRecDepth 100000 in
set_option maxHeartbeats 2000000 in
theorem rshapes_ly_e (l : List Nod) (a : Shp) (okl : ∀ n ∈ l, n.Ok) (wl : ∀ n ∈ l, n.w.length ≤ 100000 ∧ n.b.length ≤ 100000) (i : a.Ok) (f8 : l.length ≤ 8) (h : ∀ k, k < l.length → errL nextE l a k = 0) : VT Try.prog (fnC Try.f71 [1, 1, 1, 1, 1, 0, 1, 0, 0]) (rshapes_ly_I l a (l.length)) (.exit 0) (rshapes_ly_Z l a) := by
  exact VT.run (W := [.r [] [], .br false]) (G := [.any (rg [(24, 4)]), .sort]) (by kernel_rfl) (.c (show decide ((↑l.length : Int) < (↑(List.map nodC l).length : Int)) = false by (simp; done)) <| .n)
theorem rshapes_ly (l : List Nod) (a : Shp) (okl : ∀ n ∈ l, n.Ok) (wl : ∀ n ∈ l, n.w.length ≤ 100000 ∧ n.b.length ≤ 100000) (i : a.Ok) (f8 : l.length ≤ 8) (h : ∀ k, k < l.length → errL nextE l a k = 0) : VT Try.prog (fnC Try.f71 [1, 1, 1, 1, 1, 0, 1, 0]) (rshapes_ly_I l a 0) (.exit 0) (rshapes_ly_Z l a) :=
  VT.loop (fun k => rshapes_ly_I l a k) (l.length) (fun k hk => rshapes_ly_s l a okl wl i f8 h k hk) (rshapes_ly_e l a okl wl i f8 h) (by intro h; cases h)

noncomputable def rshapes_ln_I (l : List Nod) (a : Shp) (m : Nat) (k : Nat) : VS := stt 72 [(0, .sl 19 (l.map nodC)), (7, .own 900), (8, i64 k)] [(900, .slc 24 3 ((growL nextE l a k).map shpC))]
noncomputable def rshapes_ln_Z (l : List Nod) (a : Shp) (m : Nat) : VS := stt 72 [(4, nilv), (5, i64 m), (6, i64 (errL nextE l a m))] []
set_option maxRecDepth 100000 in
set_option maxHeartbeats 2000000 in
theorem rshapes_ln_s (l : List Nod) (a : Shp) (m : Nat) (okl : ∀ n ∈ l, n.Ok) (wl : ∀ n ∈ l, n.w.length ≤ 100000 ∧ n.b.length ≤ 100000) (i : a.Ok) (f8 : l.length ≤ 8) (hm : m < l.length) (hf : errL nextE l a m ≠ 0) (h : ∀ k, k < m → errL nextE l a k = 0) (k : Nat) (hk : k < m) : VT Try.prog (fnC Try.f71 [1, 1, 1, 1, 1, 0, 1, 0, 0]) (rshapes_ln_I l a m k) .normal (rshapes_ln_I l a m (k + 1)) := by
  have q := h k hk
  have q1 := growL_len nextE l a k
  have q2 := grow_ok (l := l) i k
  have q3 := getD_in okl (show k < l.length by omega)
  have qz := q3.kd
  have q4 := getD_in wl (show k < l.length by omega)
  obtain ⟨q5, q6⟩ := q4
  have q8 : (List.map shpC (growL nextE l a k)).length = (growL nextE l a k).length := List.length_map _
  unfold errL at q
  obtain ⟨c1, c2, c3⟩ := nextE_ok q
  obtain ⟨c4, c5, c6⟩ := there_at q2 c2
  rw [c3] at q
  have oz2 := (map_at (nodC) (default) (l := l) (i := k) (by omega))
  have oz3 := @refCheck_v (l.getD k default) q5 q6 qz
  have oz5 := @refThere_v (l.getD k default) ((↑(List.map shpC (growL nextE l a k)).length : Int))
  have oz9 := (map_at (shpC) (default) (l := growL nextE l a k) (i := (l.getD k default).na.toNat) (by omega))
  have oz10 := @refSecond_v (l.getD k default)
  have oz13 := (map_at (shpC) (default) (l := growL nextE l a k) (i := (secN (l.getD k default)).toNat) (by omega))
  have oz14 := @refKshape_v (l.getD k default) ((growL nextE l a k).getD (l.getD k default).na.toNat default) ((growL nextE l a k).getD (secN (l.getD k default)).toNat default) c5 c6 q3
  exact VT.run (W := [.r [] [], .br true, .r [] [.row (sO oz2)], .r [] [.callr (rO oz3)], .r [] [], .br false, .r [] [.callr (rO oz5)], .br false, .r [] [.row (sO oz9), .callr (rO oz10), .row (sO oz13), .callr (rO oz14)], .r [] [], .br false, .r [] [], .r [] [.n ((↑k : Int) + 1)]]) (G := [.any (rg [(9, 4), (24, 14), (40, 5), (46, 17), (65, 4)]), .drop [9, 11, 67], .ren 68 900, .weak 8 (i64 (↑(k + 1) : Int)), .blk 900 (Blk.slc 24 3 (List.map shpC (growL nextE l a (k + 1)))), .sort]) (by kernel_rfl) (.c (show decide ((↑k : Int) < (↑(List.map nodC l).length : Int)) = true by (simp; omega)) <| .c (show 0 ≤ (↑k : Int) by omega) <| .c oz2 <| .c oz3 <| .c (show (checkE (l.getD k default) != 0) = false by (rw [c1]; rfl)) <| .c oz5 <| .c (show (!thereB (l.getD k default) (↑(List.map shpC (growL nextE l a k)).length : Int)) = false by (rw [c2]; rfl)) <| .c (show 0 ≤ (l.getD k default).na by omega) <| .c (show (l.getD k default).na < (↑(List.map shpC (growL nextE l a k)).length : Int) by omega) <| .c oz9 <| .c oz10 <| .c (show 0 ≤ secN (l.getD k default) by omega) <| .c (show secN (l.getD k default) < (↑(List.map shpC (growL nextE l a k)).length : Int) by omega) <| .c oz13 <| .c oz14 <| .c (show ((shapeE (l.getD k default) ((growL nextE l a k).getD (l.getD k default).na.toNat default) ((growL nextE l a k).getD (secN (l.getD k default)).toNat default)).snd != 0) = false by (rw [q]; rfl)) <| .c (show ((List.map shpC (growL nextE l a k)).length + 1) * 24 ≤ 140737488355328 by omega) <| .c (show (List.map shpC (growL nextE l a k)).length + 1 ≤ 9223372036854775807 by omega) <| .c (IntWalk.i64_in ((↑k : Int) + 1) (by omega)) <| .c (Weak.int (k := .i64) (show (((↑k : Int) + 1) : Int) = ((↑(k + 1) : Int)) from (by omega))) <| .c (show BlkW (Blk.slc 24 3 (List.map shpC (growL nextE l a k) ++ [[i64 (shapeE (l.getD k default) ((growL nextE l a k).getD (l.getD k default).na.toNat default) ((growL nextE l a k).getD (secN (l.getD k default)).toNat default)).fst.h, i64 (shapeE (l.getD k default) ((growL nextE l a k).getD (l.getD k default).na.toNat default) ((growL nextE l a k).getD (secN (l.getD k default)).toNat default)).fst.x, i64 (shapeE (l.getD k default) ((growL nextE l a k).getD (l.getD k default).na.toNat default) ((growL nextE l a k).getD (secN (l.getD k default)).toNat default)).fst.c]])) (Blk.slc 24 3 (List.map shpC (growL nextE l a (k + 1)))) from (BlkW.rows (rows_to (shpC) (r := List.map shpC (growL nextE l a k) ++ [[i64 (shapeE (l.getD k default) ((growL nextE l a k).getD (l.getD k default).na.toNat default) ((growL nextE l a k).getD (secN (l.getD k default)).toNat default)).fst.h, i64 (shapeE (l.getD k default) ((growL nextE l a k).getD (l.getD k default).na.toNat default) ((growL nextE l a k).getD (secN (l.getD k default)).toNat default)).fst.x, i64 (shapeE (l.getD k default) ((growL nextE l a k).getD (l.getD k default).na.toNat default) ((growL nextE l a k).getD (secN (l.getD k default)).toNat default)).fst.c]]) (l := growL nextE l a k ++ [Shp.mk (shapeE (l.getD k default) ((growL nextE l a k).getD (l.getD k default).na.toNat default) ((growL nextE l a k).getD (secN (l.getD k default)).toNat default)).fst.h (shapeE (l.getD k default) ((growL nextE l a k).getD (l.getD k default).na.toNat default) ((growL nextE l a k).getD (secN (l.getD k default)).toNat default)).fst.x (shapeE (l.getD k default) ((growL nextE l a k).getD (l.getD k default).na.toNat default) ((growL nextE l a k).getD (secN (l.getD k default)).toNat default)).fst.c]) (m := growL nextE l a (k + 1)) (by first | (simp only [List.map_append, List.map_cons, List.map_nil, List.map_set, List.map_replicate, List.map_take, List.map_drop]; done) | rfl | (simp only [List.map_append, List.map_cons, List.map_nil, List.map_set, List.map_replicate, List.map_take, List.map_drop]; rfl) | (simp only [List.map_append, List.map_cons, List.map_nil, List.map_set, List.map_replicate, List.map_take, List.map_drop, shpC, ints]; done)) (show (growL nextE l a k ++ [Shp.mk (shapeE (l.getD k default) ((growL nextE l a k).getD (l.getD k default).na.toNat default) ((growL nextE l a k).getD (secN (l.getD k default)).toNat default)).fst.h (shapeE (l.getD k default) ((growL nextE l a k).getD (l.getD k default).na.toNat default) ((growL nextE l a k).getD (secN (l.getD k default)).toNat default)).fst.x (shapeE (l.getD k default) ((growL nextE l a k).getD (l.getD k default).na.toNat default) ((growL nextE l a k).getD (secN (l.getD k default)).toNat default)).fst.c]) = (growL nextE l a (k + 1)) from (by (rw [growL, c3])))))) <| .n)
set_option maxRecDepth 100000 in
set_option maxHeartbeats 2000000 in
theorem rshapes_ln_e (l : List Nod) (a : Shp) (m : Nat) (okl : ∀ n ∈ l, n.Ok) (wl : ∀ n ∈ l, n.w.length ≤ 100000 ∧ n.b.length ≤ 100000) (i : a.Ok) (f8 : l.length ≤ 8) (hm : m < l.length) (hf : errL nextE l a m ≠ 0) (h : ∀ k, k < m → errL nextE l a k = 0) : VT Try.prog (fnC Try.f71 [1, 1, 1, 1, 1, 0, 1, 0, 0]) (rshapes_ln_I l a m (m)) (.ret) (rshapes_ln_Z l a m) := by
  have q1 := growL_len nextE l a m
  have q2 := grow_ok (l := l) i m
  have q3 := getD_in okl hm
  have qz := q3.kd
  have q4 := getD_in wl hm
  obtain ⟨q5, q6⟩ := q4
  have q8 : (List.map shpC (growL nextE l a m)).length = (growL nextE l a m).length := List.length_map _
  have qa := fun h => there_at (n := l.getD m default) q2 h
  have e0 := @nextE_c (l.getD m default) (growL nextE l a m)
  have e1 := @nextE_0 (l.getD m default) (growL nextE l a m)
  have e2 := @nextE_6 (l.getD m default) (growL nextE l a m)
  have q : errL nextE l a m = (nextE (l.getD m default) (growL nextE l a m)).2 := rfl
  unfold errL at hf
  have oz0 := (show decide ((↑m : Int) < (↑(List.map nodC l).length : Int)) = true by (simp; omega))
  have oz1 := (show 0 ≤ (↑m : Int) by omega)
  have oz2 := (map_at (nodC) (default) (l := l) (i := m) hm)
  have oz3 := @refCheck_v (l.getD m default) q5 q6 qz
  rcases Bool.eq_false_or_eq_true (checkE (l.getD m default) != 0) with hc0 | hc0
  · have gc0 : ¬checkE (l.getD m default) = 0 := bdt hc0
    exact VT.run (W := [.r [] [], .br true, .r [] [.row (sO oz2)], .r [] [.callr (rO oz3)], .r [] [], .br true, .r [] []]) (G := [.any (rg [(0, 1), (7, 4), (24, 4), (30, 10)]), .drop [900, 9], .weak 6 (i64 (errL nextE l a m)), .sort]) (by kernel_rfl) (.c oz0 <| .c oz1 <| .c oz2 <| .c oz3 <| .c hc0 <| .c (Weak.int (k := .i64) (show ((checkE (l.getD m default)) : Int) = (errL nextE l a m) from (by (rw [q, e0 (by omega)])))) <| .n)
  · have gc0 : checkE (l.getD m default) = 0 := bdf hc0
    have oz5 := @refThere_v (l.getD m default) ((↑(List.map shpC (growL nextE l a m)).length : Int))
    rcases Bool.eq_false_or_eq_true (!thereB (l.getD m default) (↑(List.map shpC (growL nextE l a m)).length : Int)) with hc1 | hc1
    · have gc1 : thereB (l.getD m default) (↑(List.map shpC (growL nextE l a m)).length : Int) = false := by first | exact hc1 | exact of_decide_eq_true hc1 | exact of_decide_eq_false hc1 | simpa [eqNums] using hc1 | (simp [eqNums] at hc1 ⊢; first | done | assumption | omega)
      exact VT.run (W := [.r [] [], .br true, .r [] [.row (sO oz2)], .r [] [.callr (rO oz3)], .r [] [], .br false, .r [] [.callr (rO oz5)], .br true, .r [] []]) (G := [.any (rg [(0, 1), (7, 4), (24, 4), (30, 8), (40, 6)]), .drop [900, 9], .weak 6 (i64 (errL nextE l a m)), .sort]) (by kernel_rfl) (.c oz0 <| .c oz1 <| .c oz2 <| .c oz3 <| .c hc0 <| .c oz5 <| .c hc1 <| .c (Weak.int (k := .i64) (show ((8) : Int) = (errL nextE l a m) from (by (rw [q, e1 (by omega) (by simp_all)])))) <| .n)
    · have gc1 : thereB (l.getD m default) (↑(List.map shpC (growL nextE l a m)).length : Int) = true := by first | exact hc1 | exact of_decide_eq_true hc1 | exact of_decide_eq_false hc1 | simpa [eqNums] using hc1 | (simp [eqNums] at hc1 ⊢; first | done | assumption | omega)
      have oz9 := (map_at (shpC) (default) (l := growL nextE l a m) (i := (l.getD m default).na.toNat) (by (have := qa (by assumption); omega)))
      have oz10 := @refSecond_v (l.getD m default)
      have oz13 := (map_at (shpC) (default) (l := growL nextE l a m) (i := (secN (l.getD m default)).toNat) (by (have := qa (by assumption); omega)))
      have oz14 := @refKshape_v (l.getD m default) ((growL nextE l a m).getD (l.getD m default).na.toNat default) ((growL nextE l a m).getD (secN (l.getD m default)).toNat default) (by (have := qa (by assumption); exact this.2.1)) (by (have := qa (by assumption); exact this.2.2)) q3
      have oz16 := (Weak.int (k := .i64) (show (((shapeE (l.getD m default) ((growL nextE l a m).getD (l.getD m default).na.toNat default) ((growL nextE l a m).getD (secN (l.getD m default)).toNat default)).snd) : Int) = (errL nextE l a m) from (by (rw [q, e2 (by omega) (by assumption)]))))
      exact VT.run (W := [.r [] [], .br true, .r [] [.row (sO oz2)], .r [] [.callr (rO oz3)], .r [] [], .br false, .r [] [.callr (rO oz5)], .br false, .r [] [.row (sO oz9), .callr (rO oz10), .row (sO oz13), .callr (rO oz14)], .r [] [], .br true, .r [] []]) (G := [.any (rg [(0, 1), (7, 6), (24, 4), (30, 8), (40, 5), (46, 19)]), .drop [900, 9, 11], .weak 6 (wO oz16), .sort]) (by kernel_rfl) (.c oz0 <| .c oz1 <| .c oz2 <| .c oz3 <| .c hc0 <| .c oz5 <| .c hc1 <| .c (show 0 ≤ (l.getD m default).na by (have := qa (by assumption); omega)) <| .c (show (l.getD m default).na < (↑(List.map shpC (growL nextE l a m)).length : Int) by (have := qa (by assumption); omega)) <| .c oz9 <| .c oz10 <| .c (show 0 ≤ secN (l.getD m default) by (have := qa (by assumption); omega)) <| .c (show secN (l.getD m default) < (↑(List.map shpC (growL nextE l a m)).length : Int) by (have := qa (by assumption); omega)) <| .c oz13 <| .c oz14 <| .c (show ((shapeE (l.getD m default) ((growL nextE l a m).getD (l.getD m default).na.toNat default) ((growL nextE l a m).getD (secN (l.getD m default)).toNat default)).snd != 0) = true by (rw [e2 (by omega) (by assumption)] at hf; rw [bne_iff_ne]; exact hf)) <| .c oz16 <| .n)
theorem rshapes_ln (l : List Nod) (a : Shp) (m : Nat) (okl : ∀ n ∈ l, n.Ok) (wl : ∀ n ∈ l, n.w.length ≤ 100000 ∧ n.b.length ≤ 100000) (i : a.Ok) (f8 : l.length ≤ 8) (hm : m < l.length) (hf : errL nextE l a m ≠ 0) (h : ∀ k, k < m → errL nextE l a k = 0) : VT Try.prog (fnC Try.f71 [1, 1, 1, 1, 1, 0, 1, 0]) (rshapes_ln_I l a m 0) (.ret) (rshapes_ln_Z l a m) :=
  VT.loop (fun k => rshapes_ln_I l a m k) (m) (fun k hk => rshapes_ln_s l a m okl wl i f8 hm hf h k hk) (rshapes_ln_e l a m okl wl i f8 hm hf h) (by intro h; cases h)

set_option maxRecDepth 100000 in
set_option maxHeartbeats 2000000 in
theorem rshapes_y (l : List Nod) (a : Shp) (okl : ∀ n ∈ l, n.Ok) (wl : ∀ n ∈ l, n.w.length ≤ 100000 ∧ n.b.length ≤ 100000) (h : SOK l a) : VC Try.prog 71 ([.sl 19 (l.map nodC), shp a]) (.tup [.sl 3 ((growL nextE l a l.length).map shpC), i64 l.length, i64 0]) := by
  have q1 := h.i
  have q2 := h.e
  have q3 := h.f
  have q4 := h.k
  have q5 := q1.ok
  obtain ⟨p1, p2, p3⟩ := id q5
  unfold Shp.Rt at q1
  have oz0 := @refElems_v (a.h) (a.x) (a.c) p1 p2 p3
  have oz5 := @rshapes_ly (l) (a) okl wl q5 q3 q4
  exact (VC.run (fn := Try.f71) (W := [.r [] [], .r [] [.callr (rO oz0)], .br false, .r [] [], .br false, .r [] [], .br false, .r [] [], .r [] [], .code [.any (rg [(1, 1), (3, 4), (13, 11)]), .drop [3], .ren 23 900, .weak 8 (i64 (↑0 : Int)), .sort] (Exit.exit 0) (zO oz5), .r [] []]) (r := AV.tup [AV.sl 3 (List.map shpC (growL nextE l a l.length)), i64 (↑(List.map nodC l).length : Int), i64 0]) Try.func71 (by kernel_rfl) (.c oz0 <| .c (show (elems a.h a.x a.c == 0) = false by (refine decide_eq_false ?_; omega)) <| .c (show ((↑(List.map nodC l).length : Int) == 0) = false by (simp only [decide_eq_true_eq, decide_eq_false_iff_not, beq_iff_eq, bne_iff_ne, ne_eq, beq_eq_false_iff_ne, bne_eq_false_iff_eq, Bool.not_eq_true', Bool.not_eq_false', Bool.not_eq_eq_eq_not, Bool.not_true, Bool.not_false, Classical.not_not, Int.not_lt, Int.not_le, Bool.and_eq_true, Bool.and_eq_false_iff, Bool.or_eq_true, Bool.or_eq_false_iff, Bool.and_true, Bool.true_and, Bool.and_false, Bool.false_and, Bool.or_false, Bool.false_or, eqNums, List.length_map, List.length_append, List.length_cons, List.length_nil, List.length_set, List.length_replicate, List.length_take, List.length_drop, List.length_range, Int.toNat_natCast, Nat.zero_add, List.map_eq_nil_iff]; (first | done | with_reducible assumption | omega | contradiction))) <| .c (show decide ((↑(List.map nodC l).length : Int) > 8) = false by (simp; omega)) <| .c (Weak.int (k := .i64) (show ((0) : Int) = ((↑0 : Int)) from (by omega))) <| .c oz5 <| .n)).weak (WeakL.refl _) (Weak.tup (.cons (.refl _) (.cons (Weak.int (show (((↑(List.map nodC l).length : Int)) : Int) = ((↑l.length : Int)) from (by (simp; done)))) (.cons (.refl _) .nil))))

set_option maxRecDepth 100000 in
set_option maxHeartbeats 2000000 in
theorem rshapes_a (l : List Nod) (a : Shp) (i : a.Ok) (hl : l.length ≤ 1000) (h : ¬ 0 < elems a.h a.x a.c ∨ l.length = 0 ∨ 8 < l.length) : VC Try.prog 71 ([.sl 19 (l.map nodC), shp a]) (.tup [nilv, i64 (shapesE l a).1, i64 (shapesE l a).2]) := by
  have q := elems_in a.h a.x a.c
  obtain ⟨p1, p2, p3⟩ := id i
  have oz0 := @refElems_v (a.h) (a.x) (a.c) p1 p2 p3
  rcases Bool.eq_false_or_eq_true (elems a.h a.x a.c == 0) with hc0 | hc0
  · have gc0 : elems a.h a.x a.c = 0 := bet hc0
    exact (VC.run (fn := Try.f71) (W := [.r [] [], .r [] [.callr (rO oz0)], .br true, .r [] []]) (r := AV.tup [AV.lit (Value.slice none 0 0), i64 (-1), i64 5]) Try.func71 (by kernel_rfl) (.c oz0 <| .c hc0 <| .n)).weak (WeakL.refl _) (Weak.tup (.cons (.refl _) (.cons (Weak.int (show ((-1) : Int) = ((shapesE l a).fst) from (by (unfold shapesE; (try simp only [List.length_map] at *); (repeat first | rw [if_pos (by omega)] | rw [if_neg (by omega)]))))) (.cons (Weak.int (show ((5) : Int) = ((shapesE l a).snd) from (by (unfold shapesE; (try simp only [List.length_map] at *); (repeat first | rw [if_pos (by omega)] | rw [if_neg (by omega)]))))) .nil))))
  · have gc0 : ¬elems a.h a.x a.c = 0 := bef hc0
    rcases Bool.eq_false_or_eq_true ((↑(List.map nodC l).length : Int) == 0) with hc1 | hc1
    · have gc1 : (↑(List.map nodC l).length : Int) = 0 := bet hc1
      exact (VC.run (fn := Try.f71) (W := [.r [] [], .r [] [.callr (rO oz0)], .br false, .r [] [], .br true, .r [] []]) (r := AV.tup [AV.lit (Value.slice none 0 0), i64 (-1), i64 12]) Try.func71 (by kernel_rfl) (.c oz0 <| .c hc0 <| .c hc1 <| .n)).weak (WeakL.refl _) (Weak.tup (.cons (.refl _) (.cons (Weak.int (show ((-1) : Int) = ((shapesE l a).fst) from (by (unfold shapesE; (try simp only [List.length_map] at *); (repeat first | rw [if_pos (by omega)] | rw [if_neg (by omega)]))))) (.cons (Weak.int (show ((12) : Int) = ((shapesE l a).snd) from (by (unfold shapesE; (try simp only [List.length_map] at *); (repeat first | rw [if_pos (by omega)] | rw [if_neg (by omega)]))))) .nil))))
    · have gc1 : ¬(↑(List.map nodC l).length : Int) = 0 := bef hc1
      exact (VC.run (fn := Try.f71) (W := [.r [] [], .r [] [.callr (rO oz0)], .br false, .r [] [], .br false, .r [] [], .br true, .r [] []]) (r := AV.tup [AV.lit (Value.slice none 0 0), i64 (-1), i64 4]) Try.func71 (by kernel_rfl) (.c oz0 <| .c hc0 <| .c hc1 <| .c (show decide ((↑(List.map nodC l).length : Int) > 8) = true by (simp only [decide_eq_true_eq, decide_eq_false_iff_not, beq_iff_eq, bne_iff_ne, ne_eq, beq_eq_false_iff_ne, bne_eq_false_iff_eq, Bool.not_eq_true', Bool.not_eq_false', Bool.not_eq_eq_eq_not, Bool.not_true, Bool.not_false, Classical.not_not, Int.not_lt, Int.not_le, Bool.and_eq_true, Bool.and_eq_false_iff, Bool.or_eq_true, Bool.or_eq_false_iff, Bool.and_true, Bool.true_and, Bool.and_false, Bool.false_and, Bool.or_false, Bool.false_or, eqNums, List.length_map, List.length_append, List.length_cons, List.length_nil, List.length_set, List.length_replicate, List.length_take, List.length_drop, List.length_range, Int.toNat_natCast, Nat.zero_add, List.map_eq_nil_iff] at *; (first | done | with_reducible assumption | omega | contradiction))) <| .n)).weak (WeakL.refl _) (Weak.tup (.cons (.refl _) (.cons (Weak.int (show ((-1) : Int) = ((shapesE l a).fst) from (by (unfold shapesE; (try simp only [List.length_map] at *); (repeat first | rw [if_pos (by omega)] | rw [if_neg (by omega)]))))) (.cons (Weak.int (show ((4) : Int) = ((shapesE l a).snd) from (by (unfold shapesE; (try simp only [List.length_map] at *); (repeat first | rw [if_pos (by omega)] | rw [if_neg (by omega)]))))) .nil))))

set_option maxRecDepth 100000 in
set_option maxHeartbeats 2000000 in
theorem rshapes_m (l : List Nod) (a : Shp) (m : Nat) (okl : ∀ n ∈ l, n.Ok) (wl : ∀ n ∈ l, n.w.length ≤ 100000 ∧ n.b.length ≤ 100000) (i : 0 < elems a.h a.x a.c) (f8 : l.length ≤ 8) (hm : m < l.length) (hf : errL nextE l a m ≠ 0) (h : ∀ k, k < m → errL nextE l a k = 0) : VC Try.prog 71 ([.sl 19 (l.map nodC), shp a]) (.tup [nilv, i64 m, i64 (errL nextE l a m)]) := by
  have q := Shp.Rt.ok i
  obtain ⟨p1, p2, p3⟩ := id q
  have oz0 := @refElems_v (a.h) (a.x) (a.c) p1 p2 p3
  have oz5 := @rshapes_ln (l) (a) (m) okl wl q f8 hm hf h
  exact VC.run (fn := Try.f71) (W := [.r [] [], .r [] [.callr (rO oz0)], .br false, .r [] [], .br false, .r [] [], .br false, .r [] [], .r [] [], .code [.any (rg [(1, 1), (3, 4), (13, 11)]), .drop [3], .ren 23 900, .weak 8 (i64 (↑0 : Int)), .sort] (Exit.ret) (zO oz5)]) Try.func71 (by kernel_rfl) (.c oz0 <| .c (show (elems a.h a.x a.c == 0) = false by (refine decide_eq_false ?_; omega)) <| .c (show ((↑(List.map nodC l).length : Int) == 0) = false by (simp only [decide_eq_true_eq, decide_eq_false_iff_not, beq_iff_eq, bne_iff_ne, ne_eq, beq_eq_false_iff_ne, bne_eq_false_iff_eq, Bool.not_eq_true', Bool.not_eq_false', Bool.not_eq_eq_eq_not, Bool.not_true, Bool.not_false, Classical.not_not, Int.not_lt, Int.not_le, Bool.and_eq_true, Bool.and_eq_false_iff, Bool.or_eq_true, Bool.or_eq_false_iff, Bool.and_true, Bool.true_and, Bool.and_false, Bool.false_and, Bool.or_false, Bool.false_or, eqNums, List.length_map, List.length_append, List.length_cons, List.length_nil, List.length_set, List.length_replicate, List.length_take, List.length_drop, List.length_range, Int.toNat_natCast, Nat.zero_add, List.map_eq_nil_iff]; (first | done | with_reducible assumption | omega | contradiction))) <| .c (show decide ((↑(List.map nodC l).length : Int) > 8) = false by (simp; omega)) <| .c (Weak.int (k := .i64) (show ((0) : Int) = ((↑0 : Int)) from (by omega))) <| .c oz5 <| .n)
theorem rshapes_n (l : List Nod) (a : Shp) (okl : ∀ n ∈ l, n.Ok) (wl : ∀ n ∈ l, n.w.length ≤ 100000 ∧ n.b.length ≤ 100000) (i : a.Ok) (hl : l.length ≤ 1000) (h : ¬ SOK l a) : VC Try.prog 71 [.sl 19 (l.map nodC), shp a] (.tup [nilv, i64 (shapesE l a).1, i64 (shapesE l a).2]) := by
  rcases SOK.cases l a with q | q | q | q | ⟨i', e, f, m, h1, h2, h3⟩
  · exact absurd q h
  · exact rshapes_a l a i hl (.inl q)
  · exact rshapes_a l a i hl (.inr (.inl q))
  · exact rshapes_a l a i hl (.inr (.inr q))
  · rw [shapesE_at i' e f h1 h2 h3]; exact rshapes_m l a m okl wl i' f h1 h2 h3
end Go.Proofs.Ytgecmooedhnenaa

