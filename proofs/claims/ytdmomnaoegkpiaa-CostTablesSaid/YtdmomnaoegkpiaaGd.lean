/- Whether an exit stays within 32 bits. No condition. -/
import Derived.Test.YtdmomnaoegkpiaaKnL
namespace Go.Proofs.Ytdmomnaoegkpiaa
open Go.RowKit
set_option linter.unusedSimpArgs false
set_option linter.unusedVariables false
set_option linter.unnecessarySimpa false

/-- A number as another one. -/
def oneN (v : Int) (n : Nod) : Int := heldQ (v - n.za) n.qm n.qs n.qz n.lo n.hi
set_option maxRecDepth 100000 in
set_option maxHeartbeats 2000000 in
theorem actOne_w (v : Int) (n : Nod) (ok : n.Ok) (hv : In8 v) : VC Try.prog 65 ([i8 v, nod n]) (i8 (oneN v n)) := by
  obtain ⟨q1, q2⟩ := id hv
  obtain ⟨q3, q4⟩ := ok.za
  have oz3 := @held_v (v - n.za) (n.qm) (n.qs) (n.qz) (n.lo) (n.hi) (by (refine ⟨?_, ?_⟩ <;> omega)) (by (exact ok.qm)) (by (exact ok.qz)) (by (exact ok.lo)) (by (exact ok.hi))
  exact (VC.run (fn := Try.f65) (W := [.r [] [], .r [] [.n v, .n n.za, .n (v - n.za), .callr (rO oz3)]]) (r := i8 (heldQ (v - n.za) n.qm n.qs n.qz n.lo n.hi)) Try.func65 (by kernel_rfl) (.c (IntWalk.i32_in v (by omega)) <| .c (IntWalk.i32_in n.za (by omega)) <| .c (IntWalk.i32_in (v - n.za) (by omega)) <| .c oz3 <| .n)).weak (WeakL.refl _) (Weak.int (show ((heldQ (v - n.za) n.qm n.qs n.qz n.lo n.hi) : Int) = (oneN v n) from (by rfl)))
theorem checkA_c : VC Try.prog 62 [.agg [i64 7, i64 0, i64 0, i64 0, i64 0, i64 0, i64 0, i8 0, i8 0, .sl 1 [], .sl 1 [], i32 1, i64 0, i8 0, i32 0, i64 0, i8 0, i8 0, i8 127]] (i64 0) :=
  VC.to (check_v ⟨7, 0, 0, 0, 0, 0, 0, 0, 0, [], [], 1, 0, 0, 0, 0, 0, 0, 127⟩ (by decide) (by decide) ⟨by decide, by decide⟩) (by kernel_rfl)
theorem kA_ok : Nod.Ok ⟨7, 0, 0, 0, 0, 0, 0, 0, 0, [], [], 1, 0, 0, 0, 0, 0, 0, 127⟩ := by
  constructor <;> first | (constructor <;> decide) | (intro v hv; cases hv)
theorem actA_c : VC Try.prog 65 [i8 (-128), .agg [i64 7, i64 0, i64 0, i64 0, i64 0, i64 0, i64 0, i8 0, i8 0, .sl 1 [], .sl 1 [], i32 1, i64 0, i8 0, i32 0, i64 0, i8 0, i8 0, i8 127]] (i8 0) :=
  VC.to (actOne_w (-128) ⟨7, 0, 0, 0, 0, 0, 0, 0, 0, [], [], 1, 0, 0, 0, 0, 0, 0, 127⟩ kA_ok ⟨by decide, by decide⟩) (by kernel_rfl)
theorem actB_c : VC Try.prog 65 [i8 50, .agg [i64 7, i64 0, i64 0, i64 0, i64 0, i64 0, i64 0, i8 0, i8 0, .sl 1 [], .sl 1 [], i32 1, i64 0, i8 0, i32 0, i64 0, i8 0, i8 0, i8 127]] (i8 50) :=
  VC.to (actOne_w 50 ⟨7, 0, 0, 0, 0, 0, 0, 0, 0, [], [], 1, 0, 0, 0, 0, 0, 0, 127⟩ kA_ok ⟨by decide, by decide⟩) (by kernel_rfl)
set_option maxRecDepth 100000 in
set_option maxHeartbeats 2000000 in
theorem upside_v (a b : Int)  : VC Try.prog 59 ([.agg [i8 a, i8 b]]) (bv (decide (a > b))) := by
  exact VC.run (fn := Try.f59) (W := [.r [] [], .r [] []]) Try.func59 (by kernel_rfl) (.n)

set_option maxRecDepth 100000 in
set_option maxHeartbeats 2000000 in
theorem gnode_c   : VC Try.prog 21 ([.agg [i64 7, i64 0, i64 0, i64 0, i64 0, i64 0, i64 0, i8 0, i8 0, .sl 1 [], .sl 1 [], i32 1, i64 0, i8 0, i32 0, i64 0, i8 0, i8 0, i8 127], .agg [i8 (-128), i8 50], .agg [i8 0, i8 0]]) (.tup [.agg [i8 0, i8 50], i64 0]) := by
  have oz0 := @checkA_c
  have oz1 := (show false = false by with_reducible rfl)
  have oz2 := @upside_v (-128) (50)
  have oz7 := (show false = !true by (simp; done))
  have oz13 := @sumsK_v (7)
  have oz17 := @actA_c
  have oz18 := @actB_c
  exact VC.run (fn := Try.f21) (W := [.r [] [], .r [] [.callr (rO oz0)], .r [] [], .br false, .r [] [.callr (rO oz2), .br true, .br true, .br true, .br true, .br false, .br false, .br true, .br false, .br false], .br false, .r [] [.callr (rO oz13)], .br false, .r [] [], .br false, .r [] [], .br true, .r [] [.callr (rO oz17), .callr (rO oz18)]]) Try.func21 (by kernel_rfl) (.c oz0 <| .c oz1 <| .c oz2 <| .c oz1 <| .c oz1 <| .c oz1 <| .c oz1 <| .c oz7 <| .c oz7 <| .c oz1 <| .c oz1 <| .c oz1 <| .c oz1 <| .c oz13 <| .c oz1 <| .c oz1 <| .c (show true = true by with_reducible rfl) <| .c oz17 <| .c oz18 <| .n)

set_option maxRecDepth 100000 in
set_option maxHeartbeats 2000000 in
theorem known32_v   : VC Try.prog 18 ([]) (bv true) := by
  have oz1 := @gnode_c
  have oz2 := (show true = true by with_reducible rfl)
  exact VC.run (fn := Try.f18) (W := [.r [] [], .r [] [.call (aO oz1) (rO oz1)], .r [] [.br true, .br true, .br true, .v (Value.bool (eqNums [(IntKind.i8, 0, 0), (IntKind.i8, 50, 50)])), .br true]]) Try.func18 (by kernel_rfl) (.c (show WeakL [AV.agg [i64 7, i64 0, i64 0, i64 0, i64 0, i64 0, i64 0, i8 0, i8 0, AV.lit (Value.slice none 0 0), AV.lit (Value.slice none 0 0), i32 1, i64 0, i8 0, i32 0, i64 0, i8 0, i8 0, i8 127], AV.agg [i8 (-128), i8 50], AV.agg [i8 0, i8 0]] [AV.agg [i64 7, i64 0, i64 0, i64 0, i64 0, i64 0, i64 0, i8 0, i8 0, AV.sl 1 [], AV.sl 1 [], i32 1, i64 0, i8 0, i32 0, i64 0, i8 0, i8 0, i8 127], AV.agg [i8 (-128), i8 50], AV.agg [i8 0, i8 0]] from (.cons (Weak.agg (.cons (.refl _) (.cons (.refl _) (.cons (.refl _) (.cons (.refl _) (.cons (.refl _) (.cons (.refl _) (.cons (.refl _) (.cons (.refl _) (.cons (.refl _) (.cons (Weak.nil _) (.cons (Weak.nil _) (.cons (.refl _) (.cons (.refl _) (.cons (.refl _) (.cons (.refl _) (.cons (.refl _) (.cons (.refl _) (.cons (.refl _) (.cons (.refl _) .nil)))))))))))))))))))) (.cons (.refl _) (.cons (.refl _) .nil)))) <| .c oz1 <| .c oz2 <| .c oz2 <| .c oz2 <| .c (show BinTo Try.prog BinOp.eql (42 : Nat) (Operand.tmp (14 : Nat)) (Operand.tmp (15 : Nat)) (Value.agg #[Value.int IntKind.i8 (0 : Int), Value.int IntKind.i8 (50 : Int)]) (Value.agg #[Value.int IntKind.i8 (0 : Int), Value.int IntKind.i8 (50 : Int)]) (Value.bool (eqNums [(IntKind.i8, (0 : Int), (0 : Int)), (IntKind.i8, (50 : Int), (50 : Int))])) from ((bin_nums (l := [(IntKind.i8, 0, 0), (IntKind.i8, 50, 50)]) (by kernel_rfl) (by kernel_rfl) (by kernel_rfl) (by kernel_rfl) _ _).1)) <| .c oz2 <| .n)
/-- What is wrong with an exit's sums. -/
def headE (w b : List Int) (lo hi : Int) : Int := if sharedB w b = true then (if (allR w b lo hi 0 false b.length).all holdB = true then 0 else 10) else 9
abbrev hedC (w b : List Int) (nd : Int) : List AV := [ints .i8 w, ints .i32 b, i32 nd]
theorem hd_ok {w b : List Int} (hw : ∀ v ∈ w, In8 v) (hb : ∀ v ∈ b, In32 v) : Nod.Ok ⟨0, 0, 0, 0, 0, 0, 0, 0, 0, w, b, 0, 0, 0, 0, 0, 0, 0, 0⟩ := by
  constructor <;> first | assumption | (constructor <;> (dsimp only; decide))
theorem hd_len (w b : List Int) (lo hi : Int) : (allR w b lo hi 0 (decide ((0 : Int) > 0)) (if sharedB w b = true then b.length else 0)).length = if sharedB w b = true then b.length else 0 := by simp [allR]
theorem hd_pos {w b : List Int} (h : sharedB w b = true) : 0 < b.length := by
  simp only [sharedB, Bool.and_eq_true, decide_eq_true_eq] at h; exact h.1
theorem hd_le (w b : List Int) (lo hi : Int) (bl : b.length ≤ 100000) : (allR w b lo hi 0 (decide ((0 : Int) > 0)) (if sharedB w b = true then b.length else 0)).length ≤ 1000000 := by rw [hd_len]; split <;> omega
theorem hd_sh {w b : List Int} {lo hi : Int} {x : Bool} (h : (((List.map rngC (allR w b lo hi 0 (decide ((0 : Int) > 0)) (if sharedB w b = true then b.length else 0))).length : Int) == 0) = x) : sharedB w b = !x := by
  rw [List.length_map, hd_len] at h
  cases e : sharedB w b with
  | true =>
    have := hd_pos e
    rw [e, if_pos rfl] at h
    cases x with
    | true => simp at h; subst h; simp at this
    | false => rfl
  | false => rw [e] at h; subst h; rfl
theorem hd9 {w b : List Int} {lo hi : Int} (h : (((List.map rngC (allR w b lo hi 0 (decide ((0 : Int) > 0)) (if sharedB w b = true then b.length else 0))).length : Int) == 0) = true) : 9 = headE w b lo hi := by
  unfold headE; rw [hd_sh h]; rfl
theorem hd10 {w b : List Int} {lo hi : Int} {y : Bool} (h : (((List.map rngC (allR w b lo hi 0 (decide ((0 : Int) > 0)) (if sharedB w b = true then b.length else 0))).length : Int) == 0) = false) (h2 : (!(allR w b lo hi 0 (decide ((0 : Int) > 0)) (if sharedB w b = true then b.length else 0)).all holdB) = y) : (if y = true then 10 else 0) = headE w b lo hi := by
  have e := hd_sh h
  unfold headE
  rw [e] at h2 ⊢
  simp only [Bool.not_false, if_true] at h2 ⊢
  rw [show (false : Bool) = decide ((0 : Int) > 0) from rfl]
  cases y with
  | true => rw [if_pos rfl, if_neg (by simpa using h2)]
  | false => rw [if_neg (by simp), if_pos (by simpa using h2)]
set_option maxRecDepth 100000 in
set_option maxHeartbeats 2000000 in
theorem ghead_v (w b : List Int) (nd lo hi : Int) (hw : ∀ v ∈ w, In8 v) (hb : ∀ v ∈ b, In32 v) (wl : w.length ≤ 100000) (bl : b.length ≤ 100000) (h1 : In8 lo) (h2 : In8 hi) : VC Try.prog 157 ([.agg (hedC w b nd), .agg [i8 lo, i8 hi]]) (i64 (headE w b lo hi)) := by
  have oz0 := @all_v (Nod.mk 0 0 0 0 0 0 0 0 0 w b 0 0 0 0 0 0 0 0) (lo) (hi) (by (exact hd_ok hw hb)) h1 h2 wl bl
  rcases Bool.eq_false_or_eq_true ((↑(List.map rngC (allR w b lo hi 0 (decide (0 > 0)) (if sharedB w b = true then b.length else 0))).length : Int) == 0) with hc0 | hc0
  · have gc0 : (↑(List.map rngC (allR w b lo hi 0 (decide (0 > 0)) (if sharedB w b = true then b.length else 0))).length : Int) = 0 := by first | exact hc0 | exact of_decide_eq_true hc0 | exact of_decide_eq_false hc0 | simpa [eqNums] using hc0 | (simp [eqNums] at hc0 ⊢; first | done | assumption | omega)
    exact (VC.run (fn := Try.f157) (W := [.r [] [], .r [] [.callr (rO oz0)], .r [] [], .br true, .r [] []]) (r := i64 9) Try.func157 (by kernel_rfl) (.c oz0 <| .c hc0 <| .n)).weak (WeakL.refl _) (Weak.int (show ((9) : Int) = (headE w b lo hi) from (by (exact hd9 (by assumption)))))
  · have gc0 : ¬(↑(List.map rngC (allR w b lo hi 0 (decide (0 > 0)) (if sharedB w b = true then b.length else 0))).length : Int) = 0 := by first | exact hc0 | exact of_decide_eq_true hc0 | exact of_decide_eq_false hc0 | simpa [eqNums] using hc0 | (simp [eqNums] at hc0 ⊢; first | done | assumption | omega)
    have oz2 := @holds_v (allR w b lo hi 0 (decide (0 > 0)) (if sharedB w b = true then b.length else 0)) (by (exact hd_le w b lo hi bl))
    rcases Bool.eq_false_or_eq_true (!(allR w b lo hi 0 (decide (0 > 0)) (if sharedB w b = true then b.length else 0)).all holdB) with hc1 | hc1
    · have gc1 : (allR w b lo hi 0 (decide (0 > 0)) (if sharedB w b = true then b.length else 0)).all holdB = false := by first | exact hc1 | exact of_decide_eq_true hc1 | exact of_decide_eq_false hc1 | simpa [eqNums] using hc1 | (simp [eqNums] at hc1 ⊢; first | done | assumption | omega)
      exact (VC.run (fn := Try.f157) (W := [.r [] [], .r [] [.callr (rO oz0)], .r [] [], .br false, .r [] [.callr (rO oz2)], .br true, .r [] []]) (r := i64 10) Try.func157 (by kernel_rfl) (.c oz0 <| .c hc0 <| .c oz2 <| .c hc1 <| .n)).weak (WeakL.refl _) (Weak.int (show ((10) : Int) = (headE w b lo hi) from (by (exact hd10 (y := true) (by assumption) (by assumption)))))
    · have gc1 : (allR w b lo hi 0 (decide (0 > 0)) (if sharedB w b = true then b.length else 0)).all holdB = true := by first | exact hc1 | exact of_decide_eq_true hc1 | exact of_decide_eq_false hc1 | simpa [eqNums] using hc1 | (simp [eqNums] at hc1 ⊢; first | done | assumption | omega)
      exact (VC.run (fn := Try.f157) (W := [.r [] [], .r [] [.callr (rO oz0)], .r [] [], .br false, .r [] [.callr (rO oz2)], .br false, .r [] []]) (r := i64 0) Try.func157 (by kernel_rfl) (.c oz0 <| .c hc0 <| .c oz2 <| .c hc1 <| .n)).weak (WeakL.refl _) (Weak.int (show ((0) : Int) = (headE w b lo hi) from (by (exact hd10 (y := false) (by assumption) (by assumption)))))
/-- The same by the document: from where to where all rows go. -/
def rowsR (f : Nat → Rng) : Nat → Rng
  | 0 => ⟨0, 0⟩
  | k + 1 => if k = 0 then ⟨min (f 0).lo (f 0).lo, max (f 0).hi (f 0).hi⟩ else ⟨min (rowsR f k).lo (f k).lo, max (rowsR f k).hi (f k).hi⟩
set_option maxRecDepth 100000 in
set_option maxHeartbeats 2000000 in
theorem shared_v (w b : List Int) (wl : w.length ≤ 100000) (bl : b.length ≤ 100000) : VC Try.prog 68 ([ints .i8 w, ints .i32 b]) (bv (sharedB w b)) := by
  have q4 : (b.length : Int) ≠ 0 → 0 ≤ (w.length : Int) % (b.length : Int) ∧ (w.length : Int) % (b.length : Int) < (b.length : Int) := fun h => ⟨Int.emod_nonneg _ h, Int.emod_lt_of_pos _ (by omega)⟩
  exact (VC.run (fn := Try.f68) (W := [.r [] [], .r [] [.op false, .op false, .op false, .op false, .op true, .n ((↑(List.map (row1 IntKind.i8) w).length : Int) % (↑(List.map (row1 IntKind.i32) b).length : Int)), .op false, .sel 2]]) (r := bv (decide ((↑(List.map (row1 IntKind.i32) b).length : Int) > 0) && (↑(List.map (row1 IntKind.i8) w).length : Int) % (↑(List.map (row1 IntKind.i32) b).length : Int) == 0)) Try.func68 (by kernel_rfl) (.c (show decide ((↑(List.map (row1 IntKind.i32) b).length : Int) > 0) = true → (↑(List.map (row1 IntKind.i32) b).length : Int) ≠ 0 from (fun hc0 => have gc0 : (↑(List.map (row1 IntKind.i32) b).length : Int) > 0 := (by first | exact hc0 | exact of_decide_eq_true hc0 | exact of_decide_eq_false hc0 | simpa [eqNums] using hc0 | (simp [eqNums] at hc0 ⊢; first | done | assumption | omega)); (by omega))) <| .c (show decide ((↑(List.map (row1 IntKind.i32) b).length : Int) > 0) = true → (↑(List.map (row1 IntKind.i8) w).length : Int).tmod (↑(List.map (row1 IntKind.i32) b).length : Int) = (↑(List.map (row1 IntKind.i8) w).length : Int) % (↑(List.map (row1 IntKind.i32) b).length : Int) from (fun hc0 => have gc0 : (↑(List.map (row1 IntKind.i32) b).length : Int) > 0 := (by first | exact hc0 | exact of_decide_eq_true hc0 | exact of_decide_eq_false hc0 | simpa [eqNums] using hc0 | (simp [eqNums] at hc0 ⊢; first | done | assumption | omega)); (Int.tmod_eq_emod_of_nonneg (by omega)))) <| .n)).weak (WeakL.refl _) (Weak.bool (show ((decide ((↑(List.map (row1 IntKind.i32) b).length : Int) > 0) && (↑(List.map (row1 IntKind.i8) w).length : Int) % (↑(List.map (row1 IntKind.i32) b).length : Int) == 0) : Bool) = (sharedB w b) from (by (simp only [List.length_map, sharedB]; rw [Bool.eq_iff_iff]; simp only [Bool.and_eq_true, decide_eq_true_eq, beq_iff_eq]; omega))))
theorem spA_f {v lo hi z : Int} {g : Bool} (h : g = false) : spA v lo hi z g = ⟨min (v * (lo - z)) (v * (hi - z)), max (v * (lo - z)) (v * (hi - z))⟩ := by subst h; rfl
noncomputable def row24_l_I (w : List Int) (bias lo hi z : Int) (g : Bool) (k : Nat) : VS := stt 72 [(0, ints .i8 w), (2, i8 lo), (3, i8 hi), (4, i8 z), (5, bv g), (14, i64 (rowR w bias lo hi z g k).lo), (15, i64 (rowR w bias lo hi z g k).hi), (16, i64 k)] []
noncomputable def row24_l_Z (w : List Int) (bias lo hi z : Int) (g : Bool) : VS := row24_l_I w bias lo hi z g (w.length)
set_option maxRecDepth 100000 in
set_option maxHeartbeats 2000000 in
theorem row24_l_s (w : List Int) (bias lo hi z : Int) (g : Bool) (hw : ∀ v ∈ w, In8 v) (wl : w.length ≤ 1000000) (hb : In32 bias) (h1 : In8 lo) (h2 : In8 hi) (h3 : In8 z) (k : Nat) (hk : k < w.length) : VT Try.prog (fnC Try.f132 [1, 1, 0, 1, 0, 0]) (row24_l_I w bias lo hi z g k) .normal (row24_l_I w bias lo hi z g (k + 1)) := by
  have q1 := gt8 hw k
  have q2 := rowR_bd g hw hb h1 h2 h3 k
  have q3 := spA_bd g (v := w.getD k 0) (gt_of hw (by unfold In8; omega) k) h1 h2 h3
  unfold In8 at h1 h2 h3
  have q4 := prod_bd (a := w.getD k 0) (b := lo - z) q1 (by omega)
  have q5 := prod_bd (a := w.getD k 0) (b := hi - z) q1 (by omega)
  have oz0 := (show decide ((↑k : Int) < (↑(List.map (row1 IntKind.i8) w).length : Int)) = true by (simp; omega))
  have oz1 := (show 0 ≤ (↑k : Int) by omega)
  have oz2 := (map_at (row1 IntKind.i8) (0) (l := w) (i := k) hk)
  have oz3 := (IntWalk.i64_in (w.getD k 0) (by omega))
  have oz4 := (IntWalk.i64_in lo (by omega))
  have oz5 := (IntWalk.i64_in z (by omega))
  have oz6 := (IntWalk.i64_in (lo - z) (by omega))
  have oz7 := (IntWalk.i64_in (w.getD k 0 * (lo - z)) (by omega))
  have oz11 := (IntWalk.i64_in hi (by omega))
  have oz13 := (IntWalk.i64_in (hi - z) (by omega))
  have oz14 := (IntWalk.i64_in (w.getD k 0 * (hi - z)) (by omega))
  rcases Bool.eq_false_or_eq_true (g) with hc0 | hc0
  · have gc0 : g = true := by first | exact hc0 | exact of_decide_eq_true hc0 | exact of_decide_eq_false hc0 | simpa [eqNums] using hc0 | (simp [eqNums] at hc0 ⊢; first | done | assumption | omega)
    have oz16 := (IntWalk.i64_in ((rowR w bias lo hi z g k).lo + if 0 < if w.getD k 0 * (hi - z) < w.getD k 0 * (lo - z) then w.getD k 0 * (hi - z) else w.getD k 0 * (lo - z) then 0 else if w.getD k 0 * (hi - z) < w.getD k 0 * (lo - z) then w.getD k 0 * (hi - z) else w.getD k 0 * (lo - z)) (by omega))
    have oz17 := (IntWalk.i64_in ((rowR w bias lo hi z g k).hi + if 0 > if w.getD k 0 * (hi - z) > w.getD k 0 * (lo - z) then w.getD k 0 * (hi - z) else w.getD k 0 * (lo - z) then 0 else if w.getD k 0 * (hi - z) > w.getD k 0 * (lo - z) then w.getD k 0 * (hi - z) else w.getD k 0 * (lo - z)) (by omega))
    have oz19 := (Weak.int (k := .i64) (show (((rowR w bias lo hi z g k).lo + if 0 < if w.getD k 0 * (hi - z) < w.getD k 0 * (lo - z) then w.getD k 0 * (hi - z) else w.getD k 0 * (lo - z) then 0 else if w.getD k 0 * (hi - z) < w.getD k 0 * (lo - z) then w.getD k 0 * (hi - z) else w.getD k 0 * (lo - z)) : Int) = ((rowR w bias lo hi z g (k + 1)).lo) from (by (simp only [rowR, spA, if_pos (by assumption : g = true)]; (repeat split) <;> omega))))
    have oz20 := (Weak.int (k := .i64) (show (((rowR w bias lo hi z g k).hi + if 0 > if w.getD k 0 * (hi - z) > w.getD k 0 * (lo - z) then w.getD k 0 * (hi - z) else w.getD k 0 * (lo - z) then 0 else if w.getD k 0 * (hi - z) > w.getD k 0 * (lo - z) then w.getD k 0 * (hi - z) else w.getD k 0 * (lo - z)) : Int) = ((rowR w bias lo hi z g (k + 1)).hi) from (by (simp only [rowR, spA, if_pos (by assumption : g = true)]; (repeat split) <;> omega))))
    exact VT.run (W := [.r [] [], .br true, .r [] [.row (sO oz2), .n (nO oz3), .n (nO oz4), .n (nO oz5), .n (nO oz6), .n (nO oz7), .row (sO oz2), .n (nO oz3), .n (nO oz11), .n (nO oz5), .n (nO oz13), .n (nO oz14)], .r [] [], .r [] [], .br true, .r [] [], .r [] [], .r [] [.n (nO oz16), .n (nO oz17)], .r [] [.n ((↑k : Int) + 1)]]) (G := [.any (rg [(17, 4), (25, 45)]), .weak 14 (wO oz19), .weak 15 (wO oz20), .weak 16 (i64 (↑(k + 1) : Int)), .sort]) (by kernel_rfl) (.c oz0 <| .c oz1 <| .c oz2 <| .c oz3 <| .c oz4 <| .c oz5 <| .c oz6 <| .c oz7 <| .c oz1 <| .c oz2 <| .c oz3 <| .c oz11 <| .c oz5 <| .c oz13 <| .c oz14 <| .c hc0 <| .c oz16 <| .c oz17 <| .c (IntWalk.i64_in ((↑k : Int) + 1) (by omega)) <| .c oz19 <| .c oz20 <| .c (Weak.int (k := .i64) (show (((↑k : Int) + 1) : Int) = ((↑(k + 1) : Int)) from (by omega))) <| .n)
  · have gc0 : g = false := by first | exact hc0 | exact of_decide_eq_true hc0 | exact of_decide_eq_false hc0 | simpa [eqNums] using hc0 | (simp [eqNums] at hc0 ⊢; first | done | assumption | omega)
    have oz16 := (IntWalk.i64_in ((rowR w bias lo hi z g k).lo + if w.getD k 0 * (hi - z) < w.getD k 0 * (lo - z) then w.getD k 0 * (hi - z) else w.getD k 0 * (lo - z)) (by omega))
    have oz17 := (IntWalk.i64_in ((rowR w bias lo hi z g k).hi + if w.getD k 0 * (hi - z) > w.getD k 0 * (lo - z) then w.getD k 0 * (hi - z) else w.getD k 0 * (lo - z)) (by omega))
    have oz19 := (Weak.int (k := .i64) (show (((rowR w bias lo hi z g k).lo + if w.getD k 0 * (hi - z) < w.getD k 0 * (lo - z) then w.getD k 0 * (hi - z) else w.getD k 0 * (lo - z)) : Int) = ((rowR w bias lo hi z g (k + 1)).lo) from (by (rw [rowR, spA_f (by assumption)]; dsimp only; split <;> omega))))
    have oz20 := (Weak.int (k := .i64) (show (((rowR w bias lo hi z g k).hi + if w.getD k 0 * (hi - z) > w.getD k 0 * (lo - z) then w.getD k 0 * (hi - z) else w.getD k 0 * (lo - z)) : Int) = ((rowR w bias lo hi z g (k + 1)).hi) from (by (rw [rowR, spA_f (by assumption)]; dsimp only; split <;> omega))))
    exact VT.run (W := [.r [] [], .br true, .r [] [.row (sO oz2), .n (nO oz3), .n (nO oz4), .n (nO oz5), .n (nO oz6), .n (nO oz7), .row (sO oz2), .n (nO oz3), .n (nO oz11), .n (nO oz5), .n (nO oz13), .n (nO oz14)], .r [] [], .r [] [], .br false, .r [] [.n (nO oz16), .n (nO oz17)], .r [] [.n ((↑k : Int) + 1)]]) (G := [.any (rg [(17, 4), (25, 35), (64, 6)]), .weak 14 (wO oz19), .weak 15 (wO oz20), .weak 16 (i64 (↑(k + 1) : Int)), .sort]) (by kernel_rfl) (.c oz0 <| .c oz1 <| .c oz2 <| .c oz3 <| .c oz4 <| .c oz5 <| .c oz6 <| .c oz7 <| .c oz1 <| .c oz2 <| .c oz3 <| .c oz11 <| .c oz5 <| .c oz13 <| .c oz14 <| .c hc0 <| .c oz16 <| .c oz17 <| .c (IntWalk.i64_in ((↑k : Int) + 1) (by omega)) <| .c oz19 <| .c oz20 <| .c (Weak.int (k := .i64) (show (((↑k : Int) + 1) : Int) = ((↑(k + 1) : Int)) from (by omega))) <| .n)
set_option maxRecDepth 100000 in
set_option maxHeartbeats 2000000 in
theorem row24_l_e (w : List Int) (bias lo hi z : Int) (g : Bool) (hw : ∀ v ∈ w, In8 v) (wl : w.length ≤ 1000000) (hb : In32 bias) (h1 : In8 lo) (h2 : In8 hi) (h3 : In8 z) : VT Try.prog (fnC Try.f132 [1, 1, 0, 1, 0, 0]) (row24_l_I w bias lo hi z g (w.length)) (.exit 0) (row24_l_Z w bias lo hi z g) := by
  exact VT.run (W := [.r [] [], .br false]) (G := [.any (rg [(25, 4)]), .sort]) (by kernel_rfl) (.c (show decide ((↑w.length : Int) < (↑(List.map (row1 IntKind.i8) w).length : Int)) = false by (simp; done)) <| .n)
theorem row24_l (w : List Int) (bias lo hi z : Int) (g : Bool) (hw : ∀ v ∈ w, In8 v) (wl : w.length ≤ 1000000) (hb : In32 bias) (h1 : In8 lo) (h2 : In8 hi) (h3 : In8 z) : VT Try.prog (fnC Try.f132 [1, 1, 0, 1, 0]) (row24_l_I w bias lo hi z g 0) (.exit 0) (row24_l_Z w bias lo hi z g) :=
  VT.loop (fun k => row24_l_I w bias lo hi z g k) (w.length) (fun k hk => row24_l_s w bias lo hi z g hw wl hb h1 h2 h3 k hk) (row24_l_e w bias lo hi z g hw wl hb h1 h2 h3) (by intro h; cases h)

set_option maxRecDepth 100000 in
set_option maxHeartbeats 2000000 in
theorem row24_v (w : List Int) (bias lo hi z : Int) (g : Bool) (hw : ∀ v ∈ w, In8 v) (wl : w.length ≤ 1000000) (hb : In32 bias) (h1 : In8 lo) (h2 : In8 hi) (h3 : In8 z) : VC Try.prog 132 ([ints .i8 w, i32 bias, i8 lo, i8 hi, i8 z, bv g]) (.tup [i64 (rowR w bias lo hi z g w.length).lo, i64 (rowR w bias lo hi z g w.length).hi]) := by
  obtain ⟨b1, b2⟩ := id hb
  have oz0 := (IntWalk.i64_in bias (by omega))
  have oz4 := @row24_l (w) (bias) (lo) (hi) (z) (g) hw wl hb h1 h2 h3
  exact VC.run (fn := Try.f132) (W := [.r [] [], .r [] [.n (nO oz0), .n (nO oz0)], .r [] [], .code [.any [1, 12, 13, 21, 22, 23, 24], .weak 15 (i64 (rowR w bias lo hi z g 0).hi), .weak 16 (i64 (↑0 : Int)), .sort] (Exit.exit 0) (zO oz4), .r [] []]) Try.func132 (by kernel_rfl) (.c oz0 <| .c oz0 <| .c (Weak.int (k := .i64) (show ((bias) : Int) = ((rowR w bias lo hi z g 0).hi) from (by rfl))) <| .c (Weak.int (k := .i64) (show ((0) : Int) = ((↑0 : Int)) from (by omega))) <| .c oz4 <| .n)
theorem rows_a {f : Nat → Rng} {k : Nat} (h : ((k : Int) == 0) = true) : (if (f k).lo < (f k).lo then (f k).lo else (f k).lo) = (rowsR f (k + 1)).lo := by
  have : k = 0 := by simpa using h
  subst this; rw [rowsR, if_pos rfl]; dsimp only; split <;> omega
theorem rows_b {f : Nat → Rng} {k : Nat} (h : ((k : Int) == 0) = true) : (if (f k).hi > (f k).hi then (f k).hi else (f k).hi) = (rowsR f (k + 1)).hi := by
  have : k = 0 := by simpa using h
  subst this; rw [rowsR, if_pos rfl]; dsimp only; split <;> omega
theorem rows_c {f : Nat → Rng} {k : Nat} (h : ((k : Int) == 0) = false) : (if (f k).lo < (rowsR f k).lo then (f k).lo else (rowsR f k).lo) = (rowsR f (k + 1)).lo := by
  have : ¬ k = 0 := by simpa using h
  rw [rowsR, if_neg this]; dsimp only; split <;> omega
theorem rows_d {f : Nat → Rng} {k : Nat} (h : ((k : Int) == 0) = false) : (if (f k).hi > (rowsR f k).hi then (f k).hi else (rowsR f k).hi) = (rowsR f (k + 1)).hi := by
  have : ¬ k = 0 := by simpa using h
  rw [rowsR, if_neg this]; dsimp only; split <;> omega
noncomputable def rows_l_I (w b : List Int) (lo hi z : Int) (g : Bool) (k : Nat) : VS := stt 71 [(0, ints .i8 w), (1, ints .i32 b), (2, i8 lo), (3, i8 hi), (4, i8 z), (5, bv g), (15, i64 (rowsR (spRow w b lo hi z g) k).lo), (16, i64 (rowsR (spRow w b lo hi z g) k).hi), (17, i64 ((w.length : Int) / (b.length : Int))), (18, i64 k)] []
noncomputable def rows_l_Z (w b : List Int) (lo hi z : Int) (g : Bool) : VS := rows_l_I w b lo hi z g (b.length)
set_option maxRecDepth 100000 in
set_option maxHeartbeats 2000000 in
theorem rows_l_s (w b : List Int) (lo hi z : Int) (g : Bool) (hw : ∀ v ∈ w, In8 v) (hb : ∀ v ∈ b, In32 v) (wl : w.length ≤ 100000) (bl : b.length ≤ 100000) (b0 : 0 < b.length) (h1 : In8 lo) (h2 : In8 hi) (h3 : In8 z) (k : Nat) (hk : k < b.length) : VT Try.prog (fnC Try.f69 [1, 1, 1, 0, 1, 0, 0]) (rows_l_I w b lo hi z g k) .normal (rows_l_I w b lo hi z g (k + 1)) := by
  have q1 := share_bd (m := w.length) hk
  have q2 := gt32 hb k
  have oz0 := (show decide ((↑k : Int) < (↑(List.map (row1 IntKind.i32) b).length : Int)) = true by (simp; omega))
  have oz1 := (IntWalk.i64_in ((↑k : Int) * ((↑w.length : Int) / (↑b.length : Int))) (by omega))
  have oz2 := (IntWalk.i64_in ((↑k : Int) + 1) (by omega))
  have oz3 := (IntWalk.i64_in (((↑k : Int) + 1) * ((↑w.length : Int) / (↑b.length : Int))) (by omega))
  have oz4 := (show (↑k : Int) * ((↑w.length : Int) / (↑b.length : Int)) = (↑((↑k : Int) * ((↑w.length : Int) / (↑b.length : Int))).toNat : Int) by omega)
  have oz5 := (show ((↑k : Int) + 1) * ((↑w.length : Int) / (↑b.length : Int)) = (↑(((↑k : Int) + 1) * ((↑w.length : Int) / (↑b.length : Int))).toNat : Int) by omega)
  have oz6 := (show ((↑k : Int) * ((↑w.length : Int) / (↑b.length : Int))).toNat ≤ (((↑k : Int) + 1) * ((↑w.length : Int) / (↑b.length : Int))).toNat by omega)
  have oz7 := (show (((↑k : Int) + 1) * ((↑w.length : Int) / (↑b.length : Int))).toNat ≤ (List.map (row1 IntKind.i8) w).length by (simp; omega))
  have oz8 := (show 0 ≤ (↑k : Int) by omega)
  have oz9 := (map_at (row1 IntKind.i32) (0) (l := b) (i := k) hk)
  have oz10 := (show WeakL [AV.sl 1 (List.take ((((↑k : Int) + 1) * ((↑w.length : Int) / (↑b.length : Int))).toNat - ((↑k : Int) * ((↑w.length : Int) / (↑b.length : Int))).toNat) (List.drop ((↑k : Int) * ((↑w.length : Int) / (↑b.length : Int))).toNat (List.map (row1 IntKind.i8) w))), i32 (b.getD k 0), i8 lo, i8 hi, i8 z, bv g] [AV.sl 1 (List.map (row1 IntKind.i8) (List.take ((((↑k : Int) + 1) * ((↑w.length : Int) / (↑b.length : Int))).toNat - ((↑k : Int) * ((↑w.length : Int) / (↑b.length : Int))).toNat) (List.drop ((↑k : Int) * ((↑w.length : Int) / (↑b.length : Int))).toNat w))), i32 (b.getD k 0), i8 lo, i8 hi, i8 z, bv g] from (.cons (Weak.rows (rows_to (row1 IntKind.i8) (l := List.take ((((↑k : Int) + 1) * ((↑w.length : Int) / (↑b.length : Int))).toNat - ((↑k : Int) * ((↑w.length : Int) / (↑b.length : Int))).toNat) (List.drop ((↑k : Int) * ((↑w.length : Int) / (↑b.length : Int))).toNat w)) (m := List.take ((((↑k : Int) + 1) * ((↑w.length : Int) / (↑b.length : Int))).toNat - ((↑k : Int) * ((↑w.length : Int) / (↑b.length : Int))).toNat) (List.drop ((↑k : Int) * ((↑w.length : Int) / (↑b.length : Int))).toNat w)) (by first | (simp only [List.map_append, List.map_cons, List.map_nil, List.map_set, List.map_replicate, List.map_take, List.map_drop]; done) | rfl | (simp only [List.map_append, List.map_cons, List.map_nil, List.map_set, List.map_replicate, List.map_take, List.map_drop]; rfl)) rfl)) (.cons (.refl _) (.cons (.refl _) (.cons (.refl _) (.cons (.refl _) (.cons (.refl _) .nil)))))))
  have oz11 := @row24_v (List.take ((((↑k : Int) + 1) * ((↑w.length : Int) / (↑b.length : Int))).toNat - ((↑k : Int) * ((↑w.length : Int) / (↑b.length : Int))).toNat) (List.drop ((↑k : Int) * ((↑w.length : Int) / (↑b.length : Int))).toNat w)) (b.getD k 0) (lo) (hi) (z) (g) (by (exact fun v hv => hw v (mem_td hv))) (by (rw [List.length_take, List.length_drop]; omega)) (by (refine ⟨?_, ?_⟩ <;> omega)) h1 h2 h3
  rcases Bool.eq_false_or_eq_true ((↑k : Int) == 0) with hc0 | hc0
  · have gc0 : (↑k : Int) = 0 := bet hc0
    have oz14 := (Weak.int (k := .i64) (show ((if (rowR (List.take ((((↑k : Int) + 1) * ((↑w.length : Int) / (↑b.length : Int))).toNat - ((↑k : Int) * ((↑w.length : Int) / (↑b.length : Int))).toNat) (List.drop ((↑k : Int) * ((↑w.length : Int) / (↑b.length : Int))).toNat w)) (b.getD k 0) lo hi z g (List.take ((((↑k : Int) + 1) * ((↑w.length : Int) / (↑b.length : Int))).toNat - ((↑k : Int) * ((↑w.length : Int) / (↑b.length : Int))).toNat) (List.drop ((↑k : Int) * ((↑w.length : Int) / (↑b.length : Int))).toNat w)).length).lo < (rowR (List.take ((((↑k : Int) + 1) * ((↑w.length : Int) / (↑b.length : Int))).toNat - ((↑k : Int) * ((↑w.length : Int) / (↑b.length : Int))).toNat) (List.drop ((↑k : Int) * ((↑w.length : Int) / (↑b.length : Int))).toNat w)) (b.getD k 0) lo hi z g (List.take ((((↑k : Int) + 1) * ((↑w.length : Int) / (↑b.length : Int))).toNat - ((↑k : Int) * ((↑w.length : Int) / (↑b.length : Int))).toNat) (List.drop ((↑k : Int) * ((↑w.length : Int) / (↑b.length : Int))).toNat w)).length).lo then (rowR (List.take ((((↑k : Int) + 1) * ((↑w.length : Int) / (↑b.length : Int))).toNat - ((↑k : Int) * ((↑w.length : Int) / (↑b.length : Int))).toNat) (List.drop ((↑k : Int) * ((↑w.length : Int) / (↑b.length : Int))).toNat w)) (b.getD k 0) lo hi z g (List.take ((((↑k : Int) + 1) * ((↑w.length : Int) / (↑b.length : Int))).toNat - ((↑k : Int) * ((↑w.length : Int) / (↑b.length : Int))).toNat) (List.drop ((↑k : Int) * ((↑w.length : Int) / (↑b.length : Int))).toNat w)).length).lo else (rowR (List.take ((((↑k : Int) + 1) * ((↑w.length : Int) / (↑b.length : Int))).toNat - ((↑k : Int) * ((↑w.length : Int) / (↑b.length : Int))).toNat) (List.drop ((↑k : Int) * ((↑w.length : Int) / (↑b.length : Int))).toNat w)) (b.getD k 0) lo hi z g (List.take ((((↑k : Int) + 1) * ((↑w.length : Int) / (↑b.length : Int))).toNat - ((↑k : Int) * ((↑w.length : Int) / (↑b.length : Int))).toNat) (List.drop ((↑k : Int) * ((↑w.length : Int) / (↑b.length : Int))).toNat w)).length).lo) : Int) = ((rowsR (spRow w b lo hi z g) (k + 1)).lo) from (by (refine rows_a (f := spRow w b lo hi z g) ?_; assumption))))
    have oz15 := (Weak.int (k := .i64) (show ((if (rowR (List.take ((((↑k : Int) + 1) * ((↑w.length : Int) / (↑b.length : Int))).toNat - ((↑k : Int) * ((↑w.length : Int) / (↑b.length : Int))).toNat) (List.drop ((↑k : Int) * ((↑w.length : Int) / (↑b.length : Int))).toNat w)) (b.getD k 0) lo hi z g (List.take ((((↑k : Int) + 1) * ((↑w.length : Int) / (↑b.length : Int))).toNat - ((↑k : Int) * ((↑w.length : Int) / (↑b.length : Int))).toNat) (List.drop ((↑k : Int) * ((↑w.length : Int) / (↑b.length : Int))).toNat w)).length).hi > (rowR (List.take ((((↑k : Int) + 1) * ((↑w.length : Int) / (↑b.length : Int))).toNat - ((↑k : Int) * ((↑w.length : Int) / (↑b.length : Int))).toNat) (List.drop ((↑k : Int) * ((↑w.length : Int) / (↑b.length : Int))).toNat w)) (b.getD k 0) lo hi z g (List.take ((((↑k : Int) + 1) * ((↑w.length : Int) / (↑b.length : Int))).toNat - ((↑k : Int) * ((↑w.length : Int) / (↑b.length : Int))).toNat) (List.drop ((↑k : Int) * ((↑w.length : Int) / (↑b.length : Int))).toNat w)).length).hi then (rowR (List.take ((((↑k : Int) + 1) * ((↑w.length : Int) / (↑b.length : Int))).toNat - ((↑k : Int) * ((↑w.length : Int) / (↑b.length : Int))).toNat) (List.drop ((↑k : Int) * ((↑w.length : Int) / (↑b.length : Int))).toNat w)) (b.getD k 0) lo hi z g (List.take ((((↑k : Int) + 1) * ((↑w.length : Int) / (↑b.length : Int))).toNat - ((↑k : Int) * ((↑w.length : Int) / (↑b.length : Int))).toNat) (List.drop ((↑k : Int) * ((↑w.length : Int) / (↑b.length : Int))).toNat w)).length).hi else (rowR (List.take ((((↑k : Int) + 1) * ((↑w.length : Int) / (↑b.length : Int))).toNat - ((↑k : Int) * ((↑w.length : Int) / (↑b.length : Int))).toNat) (List.drop ((↑k : Int) * ((↑w.length : Int) / (↑b.length : Int))).toNat w)) (b.getD k 0) lo hi z g (List.take ((((↑k : Int) + 1) * ((↑w.length : Int) / (↑b.length : Int))).toNat - ((↑k : Int) * ((↑w.length : Int) / (↑b.length : Int))).toNat) (List.drop ((↑k : Int) * ((↑w.length : Int) / (↑b.length : Int))).toNat w)).length).hi) : Int) = ((rowsR (spRow w b lo hi z g) (k + 1)).hi) from (by (refine rows_b (f := spRow w b lo hi z g) ?_; assumption))))
    exact VT.run (W := [.r [] [], .br true, .r [] [.n (nO oz1), .n (nO oz2), .n (nO oz3), .nats ((↑k : Int) * ((↑w.length : Int) / (↑b.length : Int))).toNat (((↑k : Int) + 1) * ((↑w.length : Int) / (↑b.length : Int))).toNat, .row (sO oz9), .call (aO oz11) (rO oz11)], .r [] [], .br true, .r [] [], .r [] [], .r [] [.n (nO oz2)]]) (G := [.any (rg [(19, 2), (26, 37)]), .weak 15 (wO oz14), .weak 16 (wO oz15), .weak 18 (i64 (↑(k + 1) : Int)), .sort]) (by kernel_rfl) (.c oz0 <| .c oz1 <| .c oz2 <| .c oz3 <| .c oz4 <| .c oz5 <| .c oz6 <| .c oz7 <| .c oz8 <| .c oz9 <| .c oz10 <| .c oz11 <| .c hc0 <| .c oz2 <| .c oz14 <| .c oz15 <| .c (Weak.int (k := .i64) (show (((↑k : Int) + 1) : Int) = ((↑(k + 1) : Int)) from (by omega))) <| .n)
  · have gc0 : ¬(↑k : Int) = 0 := bef hc0
    have oz14 := (Weak.int (k := .i64) (show ((if (rowR (List.take ((((↑k : Int) + 1) * ((↑w.length : Int) / (↑b.length : Int))).toNat - ((↑k : Int) * ((↑w.length : Int) / (↑b.length : Int))).toNat) (List.drop ((↑k : Int) * ((↑w.length : Int) / (↑b.length : Int))).toNat w)) (b.getD k 0) lo hi z g (List.take ((((↑k : Int) + 1) * ((↑w.length : Int) / (↑b.length : Int))).toNat - ((↑k : Int) * ((↑w.length : Int) / (↑b.length : Int))).toNat) (List.drop ((↑k : Int) * ((↑w.length : Int) / (↑b.length : Int))).toNat w)).length).lo < (rowsR (spRow w b lo hi z g) k).lo then (rowR (List.take ((((↑k : Int) + 1) * ((↑w.length : Int) / (↑b.length : Int))).toNat - ((↑k : Int) * ((↑w.length : Int) / (↑b.length : Int))).toNat) (List.drop ((↑k : Int) * ((↑w.length : Int) / (↑b.length : Int))).toNat w)) (b.getD k 0) lo hi z g (List.take ((((↑k : Int) + 1) * ((↑w.length : Int) / (↑b.length : Int))).toNat - ((↑k : Int) * ((↑w.length : Int) / (↑b.length : Int))).toNat) (List.drop ((↑k : Int) * ((↑w.length : Int) / (↑b.length : Int))).toNat w)).length).lo else (rowsR (spRow w b lo hi z g) k).lo) : Int) = ((rowsR (spRow w b lo hi z g) (k + 1)).lo) from (by (refine rows_c (f := spRow w b lo hi z g) ?_; assumption))))
    have oz15 := (Weak.int (k := .i64) (show ((if (rowR (List.take ((((↑k : Int) + 1) * ((↑w.length : Int) / (↑b.length : Int))).toNat - ((↑k : Int) * ((↑w.length : Int) / (↑b.length : Int))).toNat) (List.drop ((↑k : Int) * ((↑w.length : Int) / (↑b.length : Int))).toNat w)) (b.getD k 0) lo hi z g (List.take ((((↑k : Int) + 1) * ((↑w.length : Int) / (↑b.length : Int))).toNat - ((↑k : Int) * ((↑w.length : Int) / (↑b.length : Int))).toNat) (List.drop ((↑k : Int) * ((↑w.length : Int) / (↑b.length : Int))).toNat w)).length).hi > (rowsR (spRow w b lo hi z g) k).hi then (rowR (List.take ((((↑k : Int) + 1) * ((↑w.length : Int) / (↑b.length : Int))).toNat - ((↑k : Int) * ((↑w.length : Int) / (↑b.length : Int))).toNat) (List.drop ((↑k : Int) * ((↑w.length : Int) / (↑b.length : Int))).toNat w)) (b.getD k 0) lo hi z g (List.take ((((↑k : Int) + 1) * ((↑w.length : Int) / (↑b.length : Int))).toNat - ((↑k : Int) * ((↑w.length : Int) / (↑b.length : Int))).toNat) (List.drop ((↑k : Int) * ((↑w.length : Int) / (↑b.length : Int))).toNat w)).length).hi else (rowsR (spRow w b lo hi z g) k).hi) : Int) = ((rowsR (spRow w b lo hi z g) (k + 1)).hi) from (by (refine rows_d (f := spRow w b lo hi z g) ?_; assumption))))
    exact VT.run (W := [.r [] [], .br true, .r [] [.n (nO oz1), .n (nO oz2), .n (nO oz3), .nats ((↑k : Int) * ((↑w.length : Int) / (↑b.length : Int))).toNat (((↑k : Int) + 1) * ((↑w.length : Int) / (↑b.length : Int))).toNat, .row (sO oz9), .call (aO oz11) (rO oz11)], .r [] [], .br false, .r [] [], .r [] [.n (nO oz2)]]) (G := [.any (rg [(19, 2), (26, 29), (57, 6)]), .weak 15 (wO oz14), .weak 16 (wO oz15), .weak 18 (i64 (↑(k + 1) : Int)), .sort]) (by kernel_rfl) (.c oz0 <| .c oz1 <| .c oz2 <| .c oz3 <| .c oz4 <| .c oz5 <| .c oz6 <| .c oz7 <| .c oz8 <| .c oz9 <| .c oz10 <| .c oz11 <| .c hc0 <| .c oz2 <| .c oz14 <| .c oz15 <| .c (Weak.int (k := .i64) (show (((↑k : Int) + 1) : Int) = ((↑(k + 1) : Int)) from (by omega))) <| .n)
set_option maxRecDepth 100000 in
set_option maxHeartbeats 2000000 in
theorem rows_l_e (w b : List Int) (lo hi z : Int) (g : Bool) (hw : ∀ v ∈ w, In8 v) (hb : ∀ v ∈ b, In32 v) (wl : w.length ≤ 100000) (bl : b.length ≤ 100000) (b0 : 0 < b.length) (h1 : In8 lo) (h2 : In8 hi) (h3 : In8 z) : VT Try.prog (fnC Try.f69 [1, 1, 1, 0, 1, 0, 0]) (rows_l_I w b lo hi z g (b.length)) (.exit 0) (rows_l_Z w b lo hi z g) := by
  exact VT.run (W := [.r [] [], .br false]) (G := [.any (rg [(26, 4)]), .sort]) (by kernel_rfl) (.c (show decide ((↑b.length : Int) < (↑(List.map (row1 IntKind.i32) b).length : Int)) = false by (simp; done)) <| .n)
theorem rows_l (w b : List Int) (lo hi z : Int) (g : Bool) (hw : ∀ v ∈ w, In8 v) (hb : ∀ v ∈ b, In32 v) (wl : w.length ≤ 100000) (bl : b.length ≤ 100000) (b0 : 0 < b.length) (h1 : In8 lo) (h2 : In8 hi) (h3 : In8 z) : VT Try.prog (fnC Try.f69 [1, 1, 1, 0, 1, 0]) (rows_l_I w b lo hi z g 0) (.exit 0) (rows_l_Z w b lo hi z g) :=
  VT.loop (fun k => rows_l_I w b lo hi z g k) (b.length) (fun k hk => rows_l_s w b lo hi z g hw hb wl bl b0 h1 h2 h3 k hk) (rows_l_e w b lo hi z g hw hb wl bl b0 h1 h2 h3) (by intro h; cases h)

set_option maxRecDepth 100000 in
set_option maxHeartbeats 2000000 in
theorem rows_v (w b : List Int) (lo hi z : Int) (g : Bool) (hw : ∀ v ∈ w, In8 v) (hb : ∀ v ∈ b, In32 v) (wl : w.length ≤ 100000) (bl : b.length ≤ 100000) (b0 : 0 < b.length) (h1 : In8 lo) (h2 : In8 hi) (h3 : In8 z) : VC Try.prog 69 ([ints .i8 w, ints .i32 b, i8 lo, i8 hi, i8 z, bv g]) (.tup [i64 (rowsR (spRow w b lo hi z g) b.length).lo, i64 (rowsR (spRow w b lo hi z g) b.length).hi, bv (decide ((rowsR (spRow w b lo hi z g) b.length).lo ≥ -2147483648) && decide ((rowsR (spRow w b lo hi z g) b.length).hi ≤ 2147483647))]) := by
  have q1 : (0 ≤ (w.length : Int) / (b.length : Int) ∧ (w.length : Int) / (b.length : Int) ≤ w.length) := ⟨Int.ediv_nonneg (by omega) (by omega), Int.ediv_le_self _ (by omega)⟩
  have oz1 := (show IntKind.i64.wrap ((↑(List.map (row1 IntKind.i8) w).length : Int).tdiv (↑(List.map (row1 IntKind.i32) b).length : Int)) = (↑(List.map (row1 IntKind.i8) w).length : Int) / (↑(List.map (row1 IntKind.i32) b).length : Int) from (Eq.trans (congrArg _ (Int.tdiv_eq_ediv_of_nonneg (by omega))) (by with_reducible exact IntWalk.i64_in _ (by simp only [List.length_map] at *; omega))))
  have oz4 := (Weak.int (k := .i64) (show (((↑(List.map (row1 IntKind.i8) w).length : Int) / (↑(List.map (row1 IntKind.i32) b).length : Int)) : Int) = ((↑w.length : Int) / (↑b.length : Int)) from (by (simp; done))))
  have oz6 := @rows_l (w) (b) (lo) (hi) (z) (g) hw hb wl bl b0 h1 h2 h3
  exact VC.run (fn := Try.f69) (W := [.r [] [], .r [] [], .r [] [.n ((↑(List.map (row1 IntKind.i8) w).length : Int) / (↑(List.map (row1 IntKind.i32) b).length : Int))], .r [] [], .code [.any (rg [(12, 3), (21, 5)]), .weak 15 (i64 (rowsR (spRow w b lo hi z g) 0).lo), .weak 16 (i64 (rowsR (spRow w b lo hi z g) 0).hi), .weak 17 (wO oz4), .weak 18 (i64 (↑0 : Int)), .sort] (Exit.exit 0) (zO oz6), .r [] [.op false, .op false, .sel 2]]) Try.func69 (by kernel_rfl) (.c (show (↑(List.map (row1 IntKind.i32) b).length : Int) ≠ 0 by (simp only [List.length_map] at *; omega)) <| .c oz1 <| .c (Weak.int (k := .i64) (show ((0) : Int) = ((rowsR (spRow w b lo hi z g) 0).lo) from (by rfl))) <| .c (Weak.int (k := .i64) (show ((0) : Int) = ((rowsR (spRow w b lo hi z g) 0).hi) from (by rfl))) <| .c oz4 <| .c (Weak.int (k := .i64) (show ((0) : Int) = ((↑0 : Int)) from (by omega))) <| .c oz6 <| .n)
theorem rowsR_iff (f : Nat → Rng) : ∀ k, ((rowsR f (k + 1)).lo ≥ -2147483648 ∧ (rowsR f (k + 1)).hi ≤ 2147483647) ↔ ∀ i, i < k + 1 → holdB (f i) = true
  | 0 => by
    rw [show rowsR f (0 + 1) = ⟨min (f 0).lo (f 0).lo, max (f 0).hi (f 0).hi⟩ by rw [rowsR, if_pos rfl]]
    simp only [holdB, Bool.and_eq_true, decide_eq_true_eq]
    constructor
    · intro h i hi
      rw [show i = 0 by omega]; omega
    · intro h; have := h 0 (by omega); omega
  | k + 1 => by
    have ih := rowsR_iff f k
    rw [rowsR, if_neg (by omega)]
    dsimp only
    constructor
    · intro h i hi
      by_cases e : i = k + 1
      · subst e; simp only [holdB, Bool.and_eq_true, decide_eq_true_eq]; omega
      · exact ih.1 (by omega) i (by omega)
    · intro h
      have h1 := ih.2 fun i hi => h i (by omega)
      have h2 := h (k + 1) (by omega)
      simp only [holdB, Bool.and_eq_true, decide_eq_true_eq] at h2
      omega
theorem rows_all {w b : List Int} {lo hi z : Int} {g : Bool} (b0 : 0 < b.length) : (decide ((rowsR (spRow w b lo hi z g) b.length).lo ≥ -2147483648) && decide ((rowsR (spRow w b lo hi z g) b.length).hi ≤ 2147483647)) = (allR w b lo hi z g b.length).all holdB := by
  obtain ⟨n, hn⟩ : ∃ n, b.length = n + 1 := ⟨b.length - 1, by omega⟩
  rw [hn, Bool.eq_iff_iff, Bool.and_eq_true, decide_eq_true_eq, decide_eq_true_eq, rowsR_iff, allR, List.all_map, List.all_eq_true]
  constructor
  · intro h i hi; exact h i (List.mem_range.1 hi)
  · intro h i hi; exact h i (List.mem_range.2 hi)
set_option maxRecDepth 100000 in
set_option maxHeartbeats 2000000 in
theorem refHead_v (w b : List Int) (nd lo hi : Int) (hw : ∀ v ∈ w, In8 v) (hb : ∀ v ∈ b, In32 v) (wl : w.length ≤ 100000) (bl : b.length ≤ 100000) (h1 : In8 lo) (h2 : In8 hi) : VC Try.prog 93 ([.agg (hedC w b nd), .agg [i8 lo, i8 hi]]) (i64 (headE w b lo hi)) := by
  have q1 := @hd_pos w b
  have q2 := @rows_all w b lo hi 0 false
  have oz0 := @shared_v (w) (b) wl bl
  rcases Bool.eq_false_or_eq_true (!sharedB w b) with hc0 | hc0
  · have gc0 : sharedB w b = false := by first | exact hc0 | exact of_decide_eq_true hc0 | exact of_decide_eq_false hc0 | simpa [eqNums] using hc0 | (simp [eqNums] at hc0 ⊢; first | done | assumption | omega)
    exact (VC.run (fn := Try.f93) (W := [.r [] [], .r [] [.callr (rO oz0)], .br true, .r [] []]) (r := i64 9) Try.func93 (by kernel_rfl) (.c oz0 <| .c hc0 <| .n)).weak (WeakL.refl _) (Weak.int (show ((9) : Int) = (headE w b lo hi) from (by (unfold headE; simp_all; done))))
  · have gc0 : sharedB w b = true := by first | exact hc0 | exact of_decide_eq_true hc0 | exact of_decide_eq_false hc0 | simpa [eqNums] using hc0 | (simp [eqNums] at hc0 ⊢; first | done | assumption | omega)
    have oz2 := @rows_v (w) (b) (lo) (hi) (0) (false) hw hb wl bl (by (exact q1 (by simp_all))) h1 h2 (by (refine ⟨?_, ?_⟩ <;> omega))
    rcases Bool.eq_false_or_eq_true (!(decide ((rowsR (spRow w b lo hi 0 false) b.length).lo ≥ -2147483648) && decide ((rowsR (spRow w b lo hi 0 false) b.length).hi ≤ 2147483647))) with hc1 | hc1
    · have gc1 : ¬(rowsR (spRow w b lo hi 0 false) b.length).lo ≥ -2147483648 ∨ ¬(rowsR (spRow w b lo hi 0 false) b.length).hi ≤ 2147483647 := by first | (simp only [Bool.or_eq_true, Bool.or_eq_false_iff, Bool.and_eq_true, Bool.and_eq_false_iff, Bool.not_eq_true', Bool.not_eq_false', decide_eq_true_eq, decide_eq_false_iff_not, beq_iff_eq, bne_iff_ne, ne_eq, beq_eq_false_iff_ne, bne_eq_false_iff_eq, eqNums, Bool.and_true] at hc1; first | exact hc1 | omega) | simpa using hc1 | (simp at hc1 ⊢; omega)
      exact (VC.run (fn := Try.f93) (W := [.r [] [], .r [] [.callr (rO oz0)], .br false, .r [] [.callr (rO oz2)], .r [] [], .br true, .r [] []]) (r := i64 10) Try.func93 (by kernel_rfl) (.c oz0 <| .c hc0 <| .c oz2 <| .c hc1 <| .n)).weak (WeakL.refl _) (Weak.int (show ((10) : Int) = (headE w b lo hi) from (by (unfold headE; simp_all; done))))
    · have gc1 : (rowsR (spRow w b lo hi 0 false) b.length).lo ≥ -2147483648 ∧ (rowsR (spRow w b lo hi 0 false) b.length).hi ≤ 2147483647 := by first | (simp only [Bool.or_eq_true, Bool.or_eq_false_iff, Bool.and_eq_true, Bool.and_eq_false_iff, Bool.not_eq_true', Bool.not_eq_false', decide_eq_true_eq, decide_eq_false_iff_not, beq_iff_eq, bne_iff_ne, ne_eq, beq_eq_false_iff_ne, bne_eq_false_iff_eq, eqNums, Bool.and_true] at hc1; first | exact hc1 | omega) | simpa using hc1 | (simp at hc1 ⊢; omega)
      exact (VC.run (fn := Try.f93) (W := [.r [] [], .r [] [.callr (rO oz0)], .br false, .r [] [.callr (rO oz2)], .r [] [], .br false, .r [] []]) (r := i64 0) Try.func93 (by kernel_rfl) (.c oz0 <| .c hc0 <| .c oz2 <| .c hc1 <| .n)).weak (WeakL.refl _) (Weak.int (show ((0) : Int) = (headE w b lo hi) from (by (unfold headE; simp_all; done))))

end Go.Proofs.Ytdmomnaoegkpiaa

