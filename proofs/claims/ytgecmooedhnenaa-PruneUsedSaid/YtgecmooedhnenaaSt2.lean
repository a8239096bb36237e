/- How often a window lies within; the shape of what a window makes. No condition. -/
import Derived.Test.YtgecmooedhnenaaCore
namespace Go.Proofs.Ytgecmooedhnenaa
open Go.RowKit
set_option linter.unusedSimpArgs false
set_option linter.unusedVariables false
set_option linter.unnecessarySimpa false

set_option maxRecDepth 100000 in
set_option maxHeartbeats 2000000 in
theorem in_v (v lo hi : Int)  : VC Try.prog 239 ([i64 v, i64 lo, i64 hi]) (bv (decide (lo ≤ v) && decide (v ≤ hi))) := by
  exact VC.run (fn := Try.f239) (W := [.r [] [], .r [] [.op false, .op false, .op false, .sel 2]]) Try.func239 (by kernel_rfl) (.n)
/-- How often a window lies within, or why not. -/
def stepsE (n k s p : Int) : Int × Int := if n < 1 ∨ 1024 < n ∨ k < 1 ∨ 5 < k ∨ s < 1 ∨ 4 < s ∨ p < 0 ∨ 4 < p ∨ k ≤ p then (0, 2) else if n + 2 * p < k then (0, 5) else ((n + 2 * p - k) / s + 1, 0)
theorem div4 (a s : Int) (h0 : 0 ≤ a) (h1 : a ≤ 2000) (h2 : 1 ≤ s) : 0 ≤ a / s ∧ a / s ≤ 2000 := ⟨Int.ediv_nonneg h0 (by omega), Int.le_trans (Int.ediv_le_self s h0) h1⟩
set_option maxRecDepth 100000 in
set_option maxHeartbeats 2000000 in
theorem steps_v (n k s p : Int)  : VC Try.prog 234 ([i64 n, i64 k, i64 s, i64 p]) (.tup [i64 (stepsE n k s p).1, i64 (stepsE n k s p).2]) := by
  have oz0 := @in_v (n) (1) (1024)
  have oz1 := @in_v (k) (1) (5)
  have oz2 := @in_v (s) (1) (4)
  have oz3 := @in_v (p) (0) (4)
  rcases Bool.eq_false_or_eq_true (!(decide (1 ≤ n) && decide (n ≤ 1024)) || !(decide (1 ≤ k) && decide (k ≤ 5)) || !(decide (1 ≤ s) && decide (s ≤ 4)) || !(decide (0 ≤ p) && decide (p ≤ 4)) || decide (p ≥ k)) with hc0 | hc0
  · have gc0 : ((((¬1 ≤ n ∨ ¬n ≤ 1024) ∨ ¬1 ≤ k ∨ ¬k ≤ 5) ∨ ¬1 ≤ s ∨ ¬s ≤ 4) ∨ ¬0 ≤ p ∨ ¬p ≤ 4) ∨ p ≥ k := by first | (simp only [Bool.or_eq_true, Bool.or_eq_false_iff, Bool.and_eq_true, Bool.and_eq_false_iff, Bool.not_eq_true', Bool.not_eq_false', decide_eq_true_eq, decide_eq_false_iff_not, beq_iff_eq, bne_iff_ne, ne_eq, beq_eq_false_iff_ne, bne_eq_false_iff_eq, eqNums, Bool.and_true] at hc0; first | exact hc0 | omega) | simpa using hc0 | (simp at hc0 ⊢; omega)
    exact (VC.run (fn := Try.f234) (W := [.r [] [], .r [] [.callr (rO oz0), .op false, .op false, .callr (rO oz1), .op false, .sel 1, .op false, .op false, .callr (rO oz2), .op false, .sel 1, .op false, .op false, .callr (rO oz3), .op false, .sel 1, .op false, .op false, .op false, .sel 1], .br true, .r [] []]) (r := AV.tup [i64 0, i64 2]) Try.func234 (by kernel_rfl) (.c oz0 <| .c oz1 <| .c oz2 <| .c oz3 <| .c hc0 <| .n)).to (by (simp only [stepsE]; rw [if_pos (by omega)]))
  · have gc0 : ((((1 ≤ n ∧ n ≤ 1024) ∧ 1 ≤ k ∧ k ≤ 5) ∧ 1 ≤ s ∧ s ≤ 4) ∧ 0 ≤ p ∧ p ≤ 4) ∧ ¬p ≥ k := by first | (simp only [Bool.or_eq_true, Bool.or_eq_false_iff, Bool.and_eq_true, Bool.and_eq_false_iff, Bool.not_eq_true', Bool.not_eq_false', decide_eq_true_eq, decide_eq_false_iff_not, beq_iff_eq, bne_iff_ne, ne_eq, beq_eq_false_iff_ne, bne_eq_false_iff_eq, eqNums, Bool.and_true] at hc0; first | exact hc0 | omega) | simpa using hc0 | (simp at hc0 ⊢; omega)
    have oz5 := (IntWalk.i64_in (2 * p) (by omega))
    have oz6 := (IntWalk.i64_in (n + 2 * p) (by omega))
    rcases Bool.eq_false_or_eq_true (decide (k > n + 2 * p)) with hc1 | hc1
    · have gc1 := of_decide_eq_true hc1
      exact (VC.run (fn := Try.f234) (W := [.r [] [], .r [] [.callr (rO oz0), .op false, .op false, .callr (rO oz1), .op false, .sel 1, .op false, .op false, .callr (rO oz2), .op false, .sel 1, .op false, .op false, .callr (rO oz3), .op false, .sel 1, .op false, .op false, .op false, .sel 1], .br false, .r [] [.n (nO oz5), .n (nO oz6)], .br true, .r [] []]) (r := AV.tup [i64 0, i64 5]) Try.func234 (by kernel_rfl) (.c oz0 <| .c oz1 <| .c oz2 <| .c oz3 <| .c hc0 <| .c oz5 <| .c oz6 <| .c hc1 <| .n)).to (by (simp only [stepsE]; rw [if_neg (by omega), if_pos (by omega)]))
    · have gc1 := of_decide_eq_false hc1
      have oz12 := (show IntKind.i64.wrap ((n + 2 * p - k).tdiv s) = (n + 2 * p - k) / s from (Eq.trans (congrArg _ (Int.tdiv_eq_ediv_of_nonneg (by omega))) (by with_reducible exact IntWalk.i64_in _ (by have := div4 (n + 2 * p - k) s (by omega) (by omega) (by omega); omega))))
      have oz13 := (show IntKind.i64.wrap ((n + 2 * p - k) / s + 1) = (n + 2 * p - k) / s + 1 by with_reducible exact IntWalk.i64_in _ (by have := div4 (n + 2 * p - k) s (by omega) (by omega) (by omega); omega))
      exact (VC.run (fn := Try.f234) (W := [.r [] [], .r [] [.callr (rO oz0), .op false, .op false, .callr (rO oz1), .op false, .sel 1, .op false, .op false, .callr (rO oz2), .op false, .sel 1, .op false, .op false, .callr (rO oz3), .op false, .sel 1, .op false, .op false, .op false, .sel 1], .br false, .r [] [.n (nO oz5), .n (nO oz6)], .br false, .r [] [.n (nO oz5), .n (nO oz6), .n (n + 2 * p - k), .n ((n + 2 * p - k) / s), .n (nO oz13)]]) (r := AV.tup [i64 ((n + 2 * p - k) / s + 1), i64 0]) Try.func234 (by kernel_rfl) (.c oz0 <| .c oz1 <| .c oz2 <| .c oz3 <| .c hc0 <| .c oz5 <| .c oz6 <| .c hc1 <| .c oz5 <| .c oz6 <| .c (IntWalk.i64_in (n + 2 * p - k) (by omega)) <| .c (show s ≠ 0 by omega) <| .c oz12 <| .c oz13 <| .n)).to (by (simp only [stepsE]; rw [if_neg (by omega), if_neg (by omega)]))
theorem succ_mul' (k : Nat) (s : Int) : ((k + 1 : Nat) : Int) * s = k * s + s := by rw [Int.natCast_add, Int.add_mul]; simp
/-- So often. -/
def stepsM (n w s p : Int) : Nat := (if n + 2 * p < w then 0 else (n + 2 * p - w) / s + 1).toNat
structure StepsOk (n w s p : Int) : Prop where
  n0 : 1 ≤ n
  n1 : n ≤ 1024
  w0 : 1 ≤ w
  w1 : w ≤ 5
  s0 : 1 ≤ s
  s1 : s ≤ 4
  p0 : 0 ≤ p
  p1 : p ≤ 4
theorem stepsM_le {n w s p : Int} (h : StepsOk n w s p) : (stepsM n w s p : Int) ≤ 1040 := by
  obtain ⟨h1, h2, h3, h4, h5, h6, h7, h8⟩ := h
  unfold stepsM
  split
  · simp
  · have := div4 (n + 2 * p - w) s (by omega) (by omega) h5
    have h9 := Int.ediv_le_self s (show 0 ≤ n + 2 * p - w by omega)
    omega
theorem stepsM_lt {n w s p : Int} (h : StepsOk n w s p) {k : Nat} (hk : k < stepsM n w s p) : (k : Int) * s - p + w ≤ n + p := by
  obtain ⟨h1, h2, h3, h4, h5, h6, h7, h8⟩ := h
  unfold stepsM at hk
  split at hk
  · simp at hk
  · have h10 : (k : Int) ≤ (n + 2 * p - w) / s := by omega
    have h9 := Int.mul_le_of_le_ediv (by omega : 0 < s) h10
    omega
theorem stepsM_end {n w s p : Int} (h : StepsOk n w s p) : n + p < (stepsM n w s p : Int) * s - p + w := by
  obtain ⟨h1, h2, h3, h4, h5, h6, h7, h8⟩ := h
  unfold stepsM
  split
  · simp; omega
  · have h9 := Int.lt_ediv_add_one_mul_self (n + 2 * p - w) (by omega : 0 < s)
    have h10 := div4 (n + 2 * p - w) s (by omega) (by omega) h5
    rw [Int.toNat_of_nonneg (by omega)]
    omega
noncomputable def refSteps_l_I (n w s p : Int) (k : Nat) : VS := stt 64 [(0, i64 n), (1, i64 w), (2, i64 s), (3, i64 p), (10, i64 k), (11, i64 (k * s - p))] []
noncomputable def refSteps_l_Z (n w s p : Int) : VS := refSteps_l_I n w s p (stepsM n w s p)
set_option maxRecDepth 100000 in
set_option maxHeartbeats 2000000 in
theorem refSteps_l_s (n w s p : Int) (h : StepsOk n w s p) (k : Nat) (hk : k < stepsM n w s p) : VT Try.prog (fnC Try.f219 [1, 1, 1, 0, 1, 0, 0]) (refSteps_l_I n w s p k) .normal (refSteps_l_I n w s p (k + 1)) := by
  have h0 := stepsM_lt h hk
  have h2 : 0 ≤ (k : Int) * s := Int.mul_nonneg (by omega) (by have := h.s0; omega)
  have h1 := stepsM_le h
  obtain ⟨g1, g2, g3, g4, g5, g6, g7, g8⟩ := h
  exact VT.run (W := [.r [] [.n ((↑k : Int) * s - p + w), .n (n + p)], .br true, .r [] [.n ((↑k : Int) + 1)], .r [] [.n ((↑k : Int) * s - p + s)]]) (G := [.any (rg [(49, 12)]), .weak 10 (i64 (↑(k + 1) : Int)), .weak 11 (i64 ((↑(k + 1) : Int) * s - p)), .sort]) (by kernel_rfl) (.c (IntWalk.i64_in ((↑k : Int) * s - p + w) (by omega)) <| .c (IntWalk.i64_in (n + p) (by omega)) <| .c (decide_eq_true (p := ((↑k : Int) * s - p + w ≤ n + p)) (by omega)) <| .c (IntWalk.i64_in ((↑k : Int) + 1) (by omega)) <| .c (IntWalk.i64_in ((↑k : Int) * s - p + s) (by omega)) <| .c (Weak.int (k := .i64) (show (((↑k : Int) + 1) : Int) = ((↑(k + 1) : Int)) from (by omega))) <| .c (Weak.int (k := .i64) (show (((↑k : Int) * s - p + s) : Int) = ((↑(k + 1) : Int) * s - p) from (by (rw [succ_mul']; omega)))) <| .n)
set_option maxRecDepth 100000 in
set_option maxHeartbeats 2000000 in
theorem refSteps_l_e (n w s p : Int) (h : StepsOk n w s p) : VT Try.prog (fnC Try.f219 [1, 1, 1, 0, 1, 0, 0]) (refSteps_l_I n w s p (stepsM n w s p)) (.exit 0) (refSteps_l_Z n w s p) := by
  have h0 := stepsM_end h
  have h3 : 0 ≤ (stepsM n w s p : Int) * s := Int.mul_nonneg (by omega) (by have := h.s0; omega)
  have h1 := stepsM_le h
  have h2 : (stepsM n w s p : Int) * s ≤ 1040 * 4 := Int.mul_le_mul h1 h.s1 (by have := h.s0; omega) (by omega)
  obtain ⟨g1, g2, g3, g4, g5, g6, g7, g8⟩ := h
  have oz0 := (IntWalk.i64_in ((↑(stepsM n w s p) : Int) * s - p + w) (by omega))
  exact VT.run (W := [.r [] [.n (nO oz0), .n (n + p)], .br false]) (G := [.any (rg [(49, 7)]), .sort]) (by kernel_rfl) (.c oz0 <| .c (IntWalk.i64_in (n + p) (by omega)) <| .c (decide_eq_false (p := ((↑(stepsM n w s p) : Int) * s - p + w ≤ n + p)) (by omega)) <| .n)
theorem refSteps_l (n w s p : Int) (h : StepsOk n w s p) : VT Try.prog (fnC Try.f219 [1, 1, 1, 0, 1, 0]) (refSteps_l_I n w s p 0) (.exit 0) (refSteps_l_Z n w s p) :=
  VT.loop (fun k => refSteps_l_I n w s p k) (stepsM n w s p) (fun k hk => refSteps_l_s n w s p h k hk) (refSteps_l_e n w s p h) (by intro h; cases h)
theorem stepsE_ok {n w s p : Int} (h : StepsOk n w s p) (hw : p < w) : (if (stepsM n w s p : Int) = 0 then ((0 : Int), (5 : Int)) else ((stepsM n w s p : Int), 0)) = stepsE n w s p := by
  have hd := div4 (n + 2 * p - w) s
  obtain ⟨h1, h2, h3, h4, h5, h6, h7, h8⟩ := h
  unfold stepsM stepsE
  rw [if_neg (by omega : ¬ (n < 1 ∨ 1024 < n ∨ w < 1 ∨ 5 < w ∨ s < 1 ∨ 4 < s ∨ p < 0 ∨ 4 < p ∨ w ≤ p))]
  by_cases h : n + 2 * p < w
  · rw [if_pos h, if_pos h]; simp
  · have := hd (by omega) (by omega) h5
    rw [if_neg h, if_neg h, if_neg (by omega)]
    rw [Int.toNat_of_nonneg (by omega)]
set_option maxRecDepth 100000 in
set_option maxHeartbeats 2000000 in
theorem refSteps_v (n k s p : Int)  : VC Try.prog 219 ([i64 n, i64 k, i64 s, i64 p]) (.tup [i64 (stepsE n k s p).1, i64 (stepsE n k s p).2]) := by
  rcases Bool.eq_false_or_eq_true (decide (n < 1) || decide (n > 1024) || decide (k < 1) || decide (k > 5) || decide (s < 1) || decide (s > 4) || decide (p < 0) || decide (p > 4) || decide (p ≥ k)) with hc0 | hc0
  · have gc0 : (((((((n < 1 ∨ n > 1024) ∨ k < 1) ∨ k > 5) ∨ s < 1) ∨ s > 4) ∨ p < 0) ∨ p > 4) ∨ p ≥ k := by first | (simp only [Bool.or_eq_true, Bool.or_eq_false_iff, Bool.and_eq_true, Bool.and_eq_false_iff, Bool.not_eq_true', Bool.not_eq_false', decide_eq_true_eq, decide_eq_false_iff_not, beq_iff_eq, bne_iff_ne, ne_eq, beq_eq_false_iff_ne, bne_eq_false_iff_eq, eqNums, Bool.and_true] at hc0; first | exact hc0 | omega) | simpa using hc0 | (simp at hc0 ⊢; omega)
    exact (VC.run (fn := Try.f219) (W := [.r [] [], .r [] [.op false, .op false, .sel 1, .op false, .op false, .sel 1, .op false, .op false, .sel 1, .op false, .op false, .sel 1, .op false, .op false, .sel 1, .op false, .op false, .sel 1, .op false, .op false, .sel 1, .op false, .op false, .op false, .sel 1], .br true, .r [] []]) (r := AV.tup [i64 0, i64 2]) Try.func219 (by kernel_rfl) (.c hc0 <| .n)).to (by (simp only [stepsE]; rw [if_pos (by omega)]))
  · have gc0 : (((((((¬n < 1 ∧ ¬n > 1024) ∧ ¬k < 1) ∧ ¬k > 5) ∧ ¬s < 1) ∧ ¬s > 4) ∧ ¬p < 0) ∧ ¬p > 4) ∧ ¬p ≥ k := by first | (simp only [Bool.or_eq_true, Bool.or_eq_false_iff, Bool.and_eq_true, Bool.and_eq_false_iff, Bool.not_eq_true', Bool.not_eq_false', decide_eq_true_eq, decide_eq_false_iff_not, beq_iff_eq, bne_iff_ne, ne_eq, beq_eq_false_iff_ne, bne_eq_false_iff_eq, eqNums, Bool.and_true] at hc0; first | exact hc0 | omega) | simpa using hc0 | (simp at hc0 ⊢; omega)
    have oz1 := (IntWalk.i64_in (0 - p) (by omega))
    have oz2 := (Weak.int (k := .i64) (show ((0) : Int) = ((↑0 : Int)) from (by omega)))
    have oz3 := (Weak.int (k := .i64) (show ((0 - p) : Int) = ((↑0 : Int) * s - p) from (by omega)))
    have oz4 := @refSteps_l (n) (k) (s) (p) (by (constructor <;> omega))
    rcases Bool.eq_false_or_eq_true ((↑(stepsM n k s p) : Int) == 0) with hc1 | hc1
    · have gc1 : (↑(stepsM n k s p) : Int) = 0 := bet hc1
      exact (VC.run (fn := Try.f219) (W := [.r [] [], .r [] [.op false, .op false, .sel 1, .op false, .op false, .sel 1, .op false, .op false, .sel 1, .op false, .op false, .sel 1, .op false, .op false, .sel 1, .op false, .op false, .sel 1, .op false, .op false, .sel 1, .op false, .op false, .op false, .sel 1], .br false, .r [] [], .r [] [.n (nO oz1)], .code [.any [8, 9, 12, 13, 14, 17, 18, 21, 22, 25, 26, 29, 30, 33, 34, 37, 38, 41, 42, 46, 47, 48], .weak 10 (wO oz2), .weak 11 (wO oz3), .sort] (Exit.exit 0) (zO oz4), .r [] [], .br true, .r [] []]) (r := AV.tup [i64 0, i64 5]) Try.func219 (by kernel_rfl) (.c hc0 <| .c oz1 <| .c oz2 <| .c oz3 <| .c oz4 <| .c hc1 <| .n)).weak (WeakL.refl _) (Weak.tup (.cons (Weak.int (show ((0) : Int) = ((stepsE n k s p).fst) from (by (rw [← stepsE_ok (by constructor <;> omega) (by omega), if_pos (by omega)])))) (.cons (Weak.int (show ((5) : Int) = ((stepsE n k s p).snd) from (by (rw [← stepsE_ok (by constructor <;> omega) (by omega), if_pos (by omega)])))) .nil)))
    · have gc1 : ¬(↑(stepsM n k s p) : Int) = 0 := bef hc1
      exact (VC.run (fn := Try.f219) (W := [.r [] [], .r [] [.op false, .op false, .sel 1, .op false, .op false, .sel 1, .op false, .op false, .sel 1, .op false, .op false, .sel 1, .op false, .op false, .sel 1, .op false, .op false, .sel 1, .op false, .op false, .sel 1, .op false, .op false, .op false, .sel 1], .br false, .r [] [], .r [] [.n (nO oz1)], .code [.any [8, 9, 12, 13, 14, 17, 18, 21, 22, 25, 26, 29, 30, 33, 34, 37, 38, 41, 42, 46, 47, 48], .weak 10 (wO oz2), .weak 11 (wO oz3), .sort] (Exit.exit 0) (zO oz4), .r [] [], .br false, .r [] []]) (r := AV.tup [i64 (↑(stepsM n k s p) : Int), i64 0]) Try.func219 (by kernel_rfl) (.c hc0 <| .c oz1 <| .c oz2 <| .c oz3 <| .c oz4 <| .c hc1 <| .n)).weak (WeakL.refl _) (Weak.tup (.cons (Weak.int (show (((↑(stepsM n k s p) : Int)) : Int) = ((stepsE n k s p).fst) from (by (rw [← stepsE_ok (by constructor <;> omega) (by omega), if_neg (by omega)])))) (.cons (Weak.int (show ((0) : Int) = ((stepsE n k s p).snd) from (by (rw [← stepsE_ok (by constructor <;> omega) (by omega), if_neg (by omega)])))) .nil)))
theorem stepsE_bd (n k s p : Int) : 0 ≤ (stepsE n k s p).1 ∧ (stepsE n k s p).1 ≤ 2001 ∧ 0 ≤ (stepsE n k s p).2 ∧ (stepsE n k s p).2 ≤ 5 := by
  unfold stepsE; split
  · simp
  · split
    · simp
    · have := div4 (n + 2 * p - k) s (by omega) (by omega) (by omega)
      simp only; omega
structure Shp where
  h : Int
  x : Int
  c : Int
structure Shp.Ok (s : Shp) : Prop where
  h : In64 s.h
  x : In64 s.x
  c : In64 s.c
theorem Shp.mk_ok {a b c : Int} (x : In64 a) (y : In64 b) (z : In64 c) : Shp.Ok ⟨a, b, c⟩ := ⟨x, y, z⟩
abbrev shp (s : Shp) : AV := .agg [i64 s.h, i64 s.x, i64 s.c]
def Shp.n (s : Shp) : Int := elems s.h s.x s.c
/-- The shape of what a window makes, or why there is none. -/
def slideE (t : Shp) (k s p o : Int) : Shp × Int :=
  if ¬ 0 < elems t.h t.x t.c then (⟨0, 0, 0⟩, 5) else if (stepsE t.h k s p).2 ≠ 0 then (⟨0, 0, 0⟩, (stepsE t.h k s p).2) else if (stepsE t.x k s p).2 ≠ 0 then (⟨0, 0, 0⟩, (stepsE t.x k s p).2)
  else if ¬ 0 < elems (stepsE t.h k s p).1 (stepsE t.x k s p).1 o then (⟨0, 0, 0⟩, 5) else (⟨(stepsE t.h k s p).1, (stepsE t.x k s p).1, o⟩, 0)
set_option maxRecDepth 100000 in
set_option maxHeartbeats 2000000 in
theorem sRight_v (t : Shp) (ok : t.Ok) : VC Try.prog 149 ([shp t]) (bv (decide (0 < elems t.h t.x t.c))) := by
  have q1 := ok.h
  have q2 := ok.x
  have q3 := ok.c
  have oz0 := @elems_v (t.h) (t.x) (t.c) q1 q2 q3
  exact VC.run (fn := Try.f149) (W := [.r [] [], .r [] [.callr (rO oz0)]]) Try.func149 (by kernel_rfl) (.c oz0 <| .n)

set_option maxRecDepth 100000 in
set_option maxHeartbeats 2000000 in
theorem slide_v (t : Shp) (k s p o : Int) (ok : t.Ok) (ho : In64 o) : VC Try.prog 227 ([shp t, i64 k, i64 s, i64 p, i64 o]) (.tup [shp (slideE t k s p o).1, i64 (slideE t k s p o).2]) := by
  have q1 := ok.h
  have q2 := ok.x
  have q3 := ok.c
  have q4 := stepsE_bd t.h k s p
  have q5 := stepsE_bd t.x k s p
  have oz0 := @sRight_v (t) ok
  rcases Bool.eq_false_or_eq_true (!decide (0 < elems t.h t.x t.c)) with hc0 | hc0
  · have gc0 := bnt hc0
    exact (VC.run (fn := Try.f227) (W := [.r [] [], .r [] [.callr (rO oz0)], .br true, .r [] []]) (r := AV.tup [AV.agg [i64 0, i64 0, i64 0], i64 5]) Try.func227 (by kernel_rfl) (.c oz0 <| .c hc0 <| .n)).to (by (simp only [slideE]; rw [if_pos (by omega)]))
  · have gc0 := bnf hc0
    have oz2 := @steps_v (t.h) (k) (s) (p)
    rcases Bool.eq_false_or_eq_true ((stepsE t.h k s p).snd != 0) with hc1 | hc1
    · have gc1 : ¬(stepsE t.h k s p).snd = 0 := bdt hc1
      exact (VC.run (fn := Try.f227) (W := [.r [] [], .r [] [.callr (rO oz0)], .br false, .r [] [.callr (rO oz2)], .r [] [], .br true, .r [] []]) (r := AV.tup [AV.agg [i64 0, i64 0, i64 0], i64 (stepsE t.h k s p).snd]) Try.func227 (by kernel_rfl) (.c oz0 <| .c hc0 <| .c oz2 <| .c hc1 <| .n)).to (by (simp only [slideE]; rw [if_neg (by omega), if_pos (by omega)]))
    · have gc1 : (stepsE t.h k s p).snd = 0 := bdf hc1
      have oz4 := @steps_v (t.x) (k) (s) (p)
      rcases Bool.eq_false_or_eq_true ((stepsE t.x k s p).snd != 0) with hc2 | hc2
      · have gc2 : ¬(stepsE t.x k s p).snd = 0 := bdt hc2
        exact (VC.run (fn := Try.f227) (W := [.r [] [], .r [] [.callr (rO oz0)], .br false, .r [] [.callr (rO oz2)], .r [] [], .br false, .r [] [.callr (rO oz4)], .r [] [], .br true, .r [] []]) (r := AV.tup [AV.agg [i64 0, i64 0, i64 0], i64 (stepsE t.x k s p).snd]) Try.func227 (by kernel_rfl) (.c oz0 <| .c hc0 <| .c oz2 <| .c hc1 <| .c oz4 <| .c hc2 <| .n)).to (by (simp only [slideE]; rw [if_neg (by omega), if_neg (by omega), if_pos (by omega)]))
      · have gc2 : (stepsE t.x k s p).snd = 0 := bdf hc2
        have oz6 := @sRight_v (Shp.mk (stepsE t.h k s p).fst (stepsE t.x k s p).fst o) (by (exact Shp.mk_ok ⟨by omega, by omega⟩ ⟨by omega, by omega⟩ ho))
        rcases Bool.eq_false_or_eq_true (!decide (0 < elems (stepsE t.h k s p).fst (stepsE t.x k s p).fst o)) with hc3 | hc3
        · have gc3 := bnt hc3
          exact (VC.run (fn := Try.f227) (W := [.r [] [], .r [] [.callr (rO oz0)], .br false, .r [] [.callr (rO oz2)], .r [] [], .br false, .r [] [.callr (rO oz4)], .r [] [], .br false, .r [] [], .r [] [.callr (rO oz6)], .br true, .r [] []]) (r := AV.tup [AV.agg [i64 0, i64 0, i64 0], i64 5]) Try.func227 (by kernel_rfl) (.c oz0 <| .c hc0 <| .c oz2 <| .c hc1 <| .c oz4 <| .c hc2 <| .c oz6 <| .c hc3 <| .n)).to (by (simp only [slideE]; rw [if_neg (by omega), if_neg (by omega), if_neg (by omega), if_pos (by omega)]))
        · have gc3 := bnf hc3
          exact (VC.run (fn := Try.f227) (W := [.r [] [], .r [] [.callr (rO oz0)], .br false, .r [] [.callr (rO oz2)], .r [] [], .br false, .r [] [.callr (rO oz4)], .r [] [], .br false, .r [] [], .r [] [.callr (rO oz6)], .br false, .r [] []]) (r := AV.tup [AV.agg [i64 (stepsE t.h k s p).fst, i64 (stepsE t.x k s p).fst, i64 o], i64 0]) Try.func227 (by kernel_rfl) (.c oz0 <| .c hc0 <| .c oz2 <| .c hc1 <| .c oz4 <| .c hc2 <| .c oz6 <| .c hc3 <| .n)).to (by (simp only [slideE]; rw [if_neg (by omega), if_neg (by omega), if_neg (by omega), if_neg (by omega)]))

set_option maxRecDepth 100000 in
set_option maxHeartbeats 2000000 in
theorem refSlide_v (t : Shp) (k s p o : Int) (ok : t.Ok) (ho : In64 o) : VC Try.prog 196 ([shp t, i64 k, i64 s, i64 p, i64 o]) (.tup [shp (slideE t k s p o).1, i64 (slideE t k s p o).2]) := by
  have q1 := ok.h
  have q2 := ok.x
  have q3 := ok.c
  have q4 := stepsE_bd t.h k s p
  have q5 := stepsE_bd t.x k s p
  have q6 := elems_bd t.h t.x t.c
  have q7 := elems_bd (stepsE t.h k s p).1 (stepsE t.x k s p).1 o
  have oz0 := @refElems_v (t.h) (t.x) (t.c) q1 q2 q3
  rcases Bool.eq_false_or_eq_true (elems t.h t.x t.c == 0) with hc0 | hc0
  · have gc0 : elems t.h t.x t.c = 0 := bet hc0
    exact (VC.run (fn := Try.f196) (W := [.r [] [], .r [] [.callr (rO oz0)], .br true, .r [] []]) (r := AV.tup [AV.agg [i64 0, i64 0, i64 0], i64 5]) Try.func196 (by kernel_rfl) (.c oz0 <| .c hc0 <| .n)).to (by (simp only [slideE]; rw [if_pos (by omega)]))
  · have gc0 : ¬elems t.h t.x t.c = 0 := bef hc0
    have oz2 := @refSteps_v (t.h) (k) (s) (p)
    rcases Bool.eq_false_or_eq_true ((stepsE t.h k s p).snd != 0) with hc1 | hc1
    · have gc1 : ¬(stepsE t.h k s p).snd = 0 := bdt hc1
      exact (VC.run (fn := Try.f196) (W := [.r [] [], .r [] [.callr (rO oz0)], .br false, .r [] [.callr (rO oz2)], .r [] [], .br true, .r [] []]) (r := AV.tup [AV.agg [i64 0, i64 0, i64 0], i64 (stepsE t.h k s p).snd]) Try.func196 (by kernel_rfl) (.c oz0 <| .c hc0 <| .c oz2 <| .c hc1 <| .n)).to (by (simp only [slideE]; rw [if_neg (by omega), if_pos (by omega)]))
    · have gc1 : (stepsE t.h k s p).snd = 0 := bdf hc1
      have oz4 := @refSteps_v (t.x) (k) (s) (p)
      rcases Bool.eq_false_or_eq_true ((stepsE t.x k s p).snd != 0) with hc2 | hc2
      · have gc2 : ¬(stepsE t.x k s p).snd = 0 := bdt hc2
        exact (VC.run (fn := Try.f196) (W := [.r [] [], .r [] [.callr (rO oz0)], .br false, .r [] [.callr (rO oz2)], .r [] [], .br false, .r [] [.callr (rO oz4)], .r [] [], .br true, .r [] []]) (r := AV.tup [AV.agg [i64 0, i64 0, i64 0], i64 (stepsE t.x k s p).snd]) Try.func196 (by kernel_rfl) (.c oz0 <| .c hc0 <| .c oz2 <| .c hc1 <| .c oz4 <| .c hc2 <| .n)).to (by (simp only [slideE]; rw [if_neg (by omega), if_neg (by omega), if_pos (by omega)]))
      · have gc2 : (stepsE t.x k s p).snd = 0 := bdf hc2
        have oz6 := @refElems_v ((stepsE t.h k s p).fst) ((stepsE t.x k s p).fst) (o) (by omega) (by omega) ho
        rcases Bool.eq_false_or_eq_true (elems (stepsE t.h k s p).fst (stepsE t.x k s p).fst o == 0) with hc3 | hc3
        · have gc3 : elems (stepsE t.h k s p).fst (stepsE t.x k s p).fst o = 0 := bet hc3
          exact (VC.run (fn := Try.f196) (W := [.r [] [], .r [] [.callr (rO oz0)], .br false, .r [] [.callr (rO oz2)], .r [] [], .br false, .r [] [.callr (rO oz4)], .r [] [], .br false, .r [] [], .r [] [.callr (rO oz6)], .br true, .r [] []]) (r := AV.tup [AV.agg [i64 0, i64 0, i64 0], i64 5]) Try.func196 (by kernel_rfl) (.c oz0 <| .c hc0 <| .c oz2 <| .c hc1 <| .c oz4 <| .c hc2 <| .c oz6 <| .c hc3 <| .n)).to (by (simp only [slideE]; rw [if_neg (by omega), if_neg (by omega), if_neg (by omega), if_pos (by omega)]))
        · have gc3 : ¬elems (stepsE t.h k s p).fst (stepsE t.x k s p).fst o = 0 := bef hc3
          exact (VC.run (fn := Try.f196) (W := [.r [] [], .r [] [.callr (rO oz0)], .br false, .r [] [.callr (rO oz2)], .r [] [], .br false, .r [] [.callr (rO oz4)], .r [] [], .br false, .r [] [], .r [] [.callr (rO oz6)], .br false, .r [] []]) (r := AV.tup [AV.agg [i64 (stepsE t.h k s p).fst, i64 (stepsE t.x k s p).fst, i64 o], i64 0]) Try.func196 (by kernel_rfl) (.c oz0 <| .c hc0 <| .c oz2 <| .c hc1 <| .c oz4 <| .c hc2 <| .c oz6 <| .c hc3 <| .n)).to (by (simp only [slideE]; rw [if_neg (by omega), if_neg (by omega), if_neg (by omega), if_neg (by omega)]))
end Go.Proofs.Ytgecmooedhnenaa

