/- How often a window lies within; the shape of what a window makes. No condition. -/
import Derived.Test.YtcegfkmelcjdhaaCore
namespace Go.Proofs.Ytcegfkmelcjdhaa
open Go.RowKit
set_option linter.unusedSimpArgs false
set_option linter.unusedVariables false
set_option linter.unnecessarySimpa false

set_option maxRecDepth 100000 in
set_option maxHeartbeats 2000000 in
theorem in_v (v lo hi : Int)  : VC Try.prog 119 ([i64 v, i64 lo, i64 hi]) (bv (decide (lo ≤ v) && decide (v ≤ hi))) := by
  rcases Bool.eq_false_or_eq_true (decide (v ≥ lo)) with hc0 | hc0
  · have gc0 := of_decide_eq_true hc0
    exact (VC.run (fn := Try.f119) (W := [.r [] [], .r [] [.br true, .br true, .br true, .br true]]) (r := bv (decide (v ≤ hi))) Try.func119 (by kernel_rfl) (.c hc0 <| .c hc0 <| .c hc0 <| .c hc0 <| .n)).weak (WeakL.refl _) (Weak.bool (show ((decide (v ≤ hi)) : Bool) = (decide (lo ≤ v) && decide (v ≤ hi)) from (by (simp; omega))))
  · have gc0 := of_decide_eq_false hc0
    have oz0 := (show decide (v ≥ lo) = !true by (refine decide_eq_false ?_; omega))
    exact (VC.run (fn := Try.f119) (W := [.r [] [], .r [] [.br false, .br false, .br false, .br false]]) (r := bv false) Try.func119 (by kernel_rfl) (.c oz0 <| .c oz0 <| .c oz0 <| .c hc0 <| .n)).weak (WeakL.refl _) (Weak.bool (show ((false) : Bool) = (decide (lo ≤ v) && decide (v ≤ hi)) from (by (simp; omega))))
/-- How often a window lies within, or why not. -/
def stepsE (n k s p : Int) : Int × Int := if n < 1 ∨ 1024 < n ∨ k < 1 ∨ 5 < k ∨ s < 1 ∨ 4 < s ∨ p < 0 ∨ 4 < p ∨ k ≤ p then (0, 2) else if n + 2 * p < k then (0, 5) else ((n + 2 * p - k) / s + 1, 0)
theorem div4 (a s : Int) (h0 : 0 ≤ a) (h1 : a ≤ 2000) (h2 : 1 ≤ s) : 0 ≤ a / s ∧ a / s ≤ 2000 := ⟨Int.ediv_nonneg h0 (by omega), Int.le_trans (Int.ediv_le_self s h0) h1⟩
set_option maxRecDepth 100000 in
set_option maxHeartbeats 2000000 in
theorem steps_v (n k s p : Int)  : VC Try.prog 100 ([i64 n, i64 k, i64 s, i64 p]) (.tup [i64 (stepsE n k s p).1, i64 (stepsE n k s p).2]) := by
  have oz0 := @in_v (n) (1) (1024)
  rcases Bool.eq_false_or_eq_true (!(decide (1 ≤ n) && decide (n ≤ 1024))) with hc0 | hc0
  · have gc0 : ¬1 ≤ n ∨ ¬n ≤ 1024 := by first | exact hc0 | exact of_decide_eq_true hc0 | exact of_decide_eq_false hc0 | simpa [eqNums] using hc0 | (simp [eqNums] at hc0 ⊢; first | done | assumption | omega)
    have oz1 := (show (!(decide (1 ≤ n) && decide (n ≤ 1024))) = !false by (simp; omega))
    have oz5 := (show true = !false by (simp; done))
    have oz8 := (show true = true by with_reducible rfl)
    exact (VC.run (fn := Try.f100) (W := [.r [] [], .r [] [.callr (rO oz0), .br false, .br false, .br false, .br true, .br false, .br false, .br false, .br true, .br false, .br false, .br false, .br true, .br false, .br false, .br false, .br true], .br true, .r [] []]) (r := AV.tup [i64 0, i64 2]) Try.func100 (by kernel_rfl) (.c oz0 <| .c oz1 <| .c oz1 <| .c oz1 <| .c hc0 <| .c oz5 <| .c oz5 <| .c oz5 <| .c oz8 <| .c oz5 <| .c oz5 <| .c oz5 <| .c oz8 <| .c oz5 <| .c oz5 <| .c oz5 <| .c oz8 <| .c oz8 <| .n)).to (by (simp only [stepsE]; rw [if_pos (by omega)]))
  · have gc0 : 1 ≤ n ∧ n ≤ 1024 := by first | exact hc0 | exact of_decide_eq_true hc0 | exact of_decide_eq_false hc0 | simpa [eqNums] using hc0 | (simp [eqNums] at hc0 ⊢; first | done | assumption | omega)
    have oz3 := @in_v (k) (1) (5)
    rcases Bool.eq_false_or_eq_true (!(decide (1 ≤ k) && decide (k ≤ 5))) with hc1 | hc1
    · have gc1 : ¬1 ≤ k ∨ ¬k ≤ 5 := by first | exact hc1 | exact of_decide_eq_true hc1 | exact of_decide_eq_false hc1 | simpa [eqNums] using hc1 | (simp [eqNums] at hc1 ⊢; first | done | assumption | omega)
      have oz6 := (show (!(decide (1 ≤ k) && decide (k ≤ 5))) = !false by (simp; omega))
      have oz10 := (show true = !false by (simp; done))
      have oz13 := (show true = true by with_reducible rfl)
      exact (VC.run (fn := Try.f100) (W := [.r [] [], .r [] [.callr (rO oz0), .br true, .br true, .callr (rO oz3), .br true, .br false, .br false, .br false, .br false, .br true, .br false, .br false, .br false, .br true, .br false, .br false, .br false, .br true], .br true, .r [] []]) (r := AV.tup [i64 0, i64 2]) Try.func100 (by kernel_rfl) (.c oz0 <| .c hc0 <| .c hc0 <| .c oz3 <| .c hc0 <| .c hc0 <| .c oz6 <| .c oz6 <| .c oz6 <| .c hc1 <| .c oz10 <| .c oz10 <| .c oz10 <| .c oz13 <| .c oz10 <| .c oz10 <| .c oz10 <| .c oz13 <| .c oz13 <| .n)).to (by (simp only [stepsE]; rw [if_pos (by omega)]))
    · have gc1 : 1 ≤ k ∧ k ≤ 5 := by first | exact hc1 | exact of_decide_eq_true hc1 | exact of_decide_eq_false hc1 | simpa [eqNums] using hc1 | (simp [eqNums] at hc1 ⊢; first | done | assumption | omega)
      have oz8 := @in_v (s) (1) (4)
      rcases Bool.eq_false_or_eq_true (!(decide (1 ≤ s) && decide (s ≤ 4))) with hc2 | hc2
      · have gc2 : ¬1 ≤ s ∨ ¬s ≤ 4 := by first | exact hc2 | exact of_decide_eq_true hc2 | exact of_decide_eq_false hc2 | simpa [eqNums] using hc2 | (simp [eqNums] at hc2 ⊢; first | done | assumption | omega)
        have oz11 := (show (!(decide (1 ≤ s) && decide (s ≤ 4))) = !false by (simp; omega))
        have oz15 := (show true = !false by (simp; done))
        have oz18 := (show true = true by with_reducible rfl)
        exact (VC.run (fn := Try.f100) (W := [.r [] [], .r [] [.callr (rO oz0), .br true, .br true, .callr (rO oz3), .br true, .br false, .br true, .br true, .callr (rO oz8), .br true, .br false, .br false, .br false, .br false, .br true, .br false, .br false, .br false, .br true], .br true, .r [] []]) (r := AV.tup [i64 0, i64 2]) Try.func100 (by kernel_rfl) (.c oz0 <| .c hc0 <| .c hc0 <| .c oz3 <| .c hc0 <| .c hc0 <| .c hc1 <| .c hc1 <| .c oz8 <| .c hc1 <| .c hc1 <| .c oz11 <| .c oz11 <| .c oz11 <| .c hc2 <| .c oz15 <| .c oz15 <| .c oz15 <| .c oz18 <| .c oz18 <| .n)).to (by (simp only [stepsE]; rw [if_pos (by omega)]))
      · have gc2 : 1 ≤ s ∧ s ≤ 4 := by first | exact hc2 | exact of_decide_eq_true hc2 | exact of_decide_eq_false hc2 | simpa [eqNums] using hc2 | (simp [eqNums] at hc2 ⊢; first | done | assumption | omega)
        have oz13 := @in_v (p) (0) (4)
        rcases Bool.eq_false_or_eq_true (!(decide (0 ≤ p) && decide (p ≤ 4))) with hc3 | hc3
        · have gc3 : ¬0 ≤ p ∨ ¬p ≤ 4 := by first | exact hc3 | exact of_decide_eq_true hc3 | exact of_decide_eq_false hc3 | simpa [eqNums] using hc3 | (simp [eqNums] at hc3 ⊢; first | done | assumption | omega)
          have oz16 := (show (!(decide (0 ≤ p) && decide (p ≤ 4))) = !false by (simp; omega))
          exact (VC.run (fn := Try.f100) (W := [.r [] [], .r [] [.callr (rO oz0), .br true, .br true, .callr (rO oz3), .br true, .br false, .br true, .br true, .callr (rO oz8), .br true, .br false, .br true, .br true, .callr (rO oz13), .br true, .br false, .br false, .br false, .br false, .br true], .br true, .r [] []]) (r := AV.tup [i64 0, i64 2]) Try.func100 (by kernel_rfl) (.c oz0 <| .c hc0 <| .c hc0 <| .c oz3 <| .c hc0 <| .c hc0 <| .c hc1 <| .c hc1 <| .c oz8 <| .c hc1 <| .c hc1 <| .c hc2 <| .c hc2 <| .c oz13 <| .c hc2 <| .c hc2 <| .c oz16 <| .c oz16 <| .c oz16 <| .c hc3 <| .c (show true = true by with_reducible rfl) <| .n)).to (by (simp only [stepsE]; rw [if_pos (by omega)]))
        · have gc3 : 0 ≤ p ∧ p ≤ 4 := by first | exact hc3 | exact of_decide_eq_true hc3 | exact of_decide_eq_false hc3 | simpa [eqNums] using hc3 | (simp [eqNums] at hc3 ⊢; first | done | assumption | omega)
          rcases Bool.eq_false_or_eq_true (decide (p ≥ k)) with hc4 | hc4
          · have gc4 := of_decide_eq_true hc4
            exact (VC.run (fn := Try.f100) (W := [.r [] [], .r [] [.callr (rO oz0), .br true, .br true, .callr (rO oz3), .br true, .br false, .br true, .br true, .callr (rO oz8), .br true, .br false, .br true, .br true, .callr (rO oz13), .br true, .br false, .br true, .br true, .br true, .br false], .br true, .r [] []]) (r := AV.tup [i64 0, i64 2]) Try.func100 (by kernel_rfl) (.c oz0 <| .c hc0 <| .c hc0 <| .c oz3 <| .c hc0 <| .c hc0 <| .c hc1 <| .c hc1 <| .c oz8 <| .c hc1 <| .c hc1 <| .c hc2 <| .c hc2 <| .c oz13 <| .c hc2 <| .c hc2 <| .c hc3 <| .c hc3 <| .c hc3 <| .c hc3 <| .c hc4 <| .n)).to (by (simp only [stepsE]; rw [if_pos (by omega)]))
          · have gc4 := of_decide_eq_false hc4
            have oz21 := (IntWalk.i64_in (2 * p) (by omega))
            have oz22 := (IntWalk.i64_in (n + 2 * p) (by omega))
            rcases Bool.eq_false_or_eq_true (decide (k > n + 2 * p)) with hc5 | hc5
            · have gc5 := of_decide_eq_true hc5
              exact (VC.run (fn := Try.f100) (W := [.r [] [], .r [] [.callr (rO oz0), .br true, .br true, .callr (rO oz3), .br true, .br false, .br true, .br true, .callr (rO oz8), .br true, .br false, .br true, .br true, .callr (rO oz13), .br true, .br false, .br true, .br true, .br true, .br false], .br false, .r [] [.n (nO oz21), .n (nO oz22)], .br true, .r [] []]) (r := AV.tup [i64 0, i64 5]) Try.func100 (by kernel_rfl) (.c oz0 <| .c hc0 <| .c hc0 <| .c oz3 <| .c hc0 <| .c hc0 <| .c hc1 <| .c hc1 <| .c oz8 <| .c hc1 <| .c hc1 <| .c hc2 <| .c hc2 <| .c oz13 <| .c hc2 <| .c hc2 <| .c hc3 <| .c hc3 <| .c hc3 <| .c hc3 <| .c hc4 <| .c oz21 <| .c oz22 <| .c hc5 <| .n)).to (by (simp only [stepsE]; rw [if_neg (by omega), if_pos (by omega)]))
            · have gc5 := of_decide_eq_false hc5
              have oz28 := (show IntKind.i64.wrap ((n + 2 * p - k).tdiv s) = (n + 2 * p - k) / s from (Eq.trans (congrArg _ (Int.tdiv_eq_ediv_of_nonneg (by omega))) (by with_reducible exact IntWalk.i64_in _ (by have := div4 (n + 2 * p - k) s (by omega) (by omega) (by omega); omega))))
              have oz29 := (show IntKind.i64.wrap ((n + 2 * p - k) / s + 1) = (n + 2 * p - k) / s + 1 by with_reducible exact IntWalk.i64_in _ (by have := div4 (n + 2 * p - k) s (by omega) (by omega) (by omega); omega))
              exact (VC.run (fn := Try.f100) (W := [.r [] [], .r [] [.callr (rO oz0), .br true, .br true, .callr (rO oz3), .br true, .br false, .br true, .br true, .callr (rO oz8), .br true, .br false, .br true, .br true, .callr (rO oz13), .br true, .br false, .br true, .br true, .br true, .br false], .br false, .r [] [.n (nO oz21), .n (nO oz22)], .br false, .r [] [.n (nO oz21), .n (nO oz22), .n (n + 2 * p - k), .n ((n + 2 * p - k) / s), .n (nO oz29)]]) (r := AV.tup [i64 ((n + 2 * p - k) / s + 1), i64 0]) Try.func100 (by kernel_rfl) (.c oz0 <| .c hc0 <| .c hc0 <| .c oz3 <| .c hc0 <| .c hc0 <| .c hc1 <| .c hc1 <| .c oz8 <| .c hc1 <| .c hc1 <| .c hc2 <| .c hc2 <| .c oz13 <| .c hc2 <| .c hc2 <| .c hc3 <| .c hc3 <| .c hc3 <| .c hc3 <| .c hc4 <| .c oz21 <| .c oz22 <| .c hc5 <| .c oz21 <| .c oz22 <| .c (IntWalk.i64_in (n + 2 * p - k) (by omega)) <| .c (show s ≠ 0 by omega) <| .c oz28 <| .c oz29 <| .n)).to (by (simp only [stepsE]; rw [if_neg (by omega), if_neg (by omega)]))
theorem succ_mul' (k : Nat) (s : Int) : ((k + 1 : Nat) : Int) * s = k * s + s := by rw [Int.natCast_add, Int.add_mul]; simp
/-- So often. -/
def stepsM (n w s p : Int) : Nat := (if n + 2 * p < w then 0 else (n + 2 * p - w) / s + 1).toNat
structure StepsOk (n w s p : Int) : Prop where
  n0 : 1 ≤ n
  n1 : n ≤ 1024
  w0 : 1 ≤ w
  w1 : w ≤ 5
  s0 : 1 ≤ s
  s1 : s ≤ 4
  p0 : 0 ≤ p
  p1 : p ≤ 4
theorem stepsM_le {n w s p : Int} (h : StepsOk n w s p) : (stepsM n w s p : Int) ≤ 1040 := by
  obtain ⟨h1, h2, h3, h4, h5, h6, h7, h8⟩ := h
  unfold stepsM
  split
  · simp
  · have := div4 (n + 2 * p - w) s (by omega) (by omega) h5
    have h9 := Int.ediv_le_self s (show 0 ≤ n + 2 * p - w by omega)
    omega
theorem stepsM_lt {n w s p : Int} (h : StepsOk n w s p) {k : Nat} (hk : k < stepsM n w s p) : (k : Int) * s - p + w ≤ n + p := by
  obtain ⟨h1, h2, h3, h4, h5, h6, h7, h8⟩ := h
  unfold stepsM at hk
  split at hk
  · simp at hk
  · have h10 : (k : Int) ≤ (n + 2 * p - w) / s := by omega
    have h9 := Int.mul_le_of_le_ediv (by omega : 0 < s) h10
    omega
theorem stepsM_end {n w s p : Int} (h : StepsOk n w s p) : n + p < (stepsM n w s p : Int) * s - p + w := by
  obtain ⟨h1, h2, h3, h4, h5, h6, h7, h8⟩ := h
  unfold stepsM
  split
  · simp; omega
  · have h9 := Int.lt_ediv_add_one_mul_self (n + 2 * p - w) (by omega : 0 < s)
    have h10 := div4 (n + 2 * p - w) s (by omega) (by omega) h5
    rw [Int.toNat_of_nonneg (by omega)]
    omega
noncomputable def refSteps_l_I (n w s p : Int) (k : Nat) : VS := stt 64 [(0, i64 n), (1, i64 w), (2, i64 s), (3, i64 p), (10, i64 k), (11, i64 (k * s - p))] []
noncomputable def refSteps_l_Z (n w s p : Int) : VS := refSteps_l_I n w s p (stepsM n w s p)
set_option maxRecDepth 100000 in
set_option maxHeartbeats 2000000 in
theorem refSteps_l_s (n w s p : Int) (h : StepsOk n w s p) (k : Nat) (hk : k < stepsM n w s p) : VT Try.prog (fnC Try.f101 [1, 1, 1, 0, 1, 0, 0]) (refSteps_l_I n w s p k) .normal (refSteps_l_I n w s p (k + 1)) := by
  have h0 := stepsM_lt h hk
  have h2 : 0 ≤ (k : Int) * s := Int.mul_nonneg (by omega) (by have := h.s0; omega)
  have h1 := stepsM_le h
  obtain ⟨g1, g2, g3, g4, g5, g6, g7, g8⟩ := h
  exact VT.run (W := [.r [] [.n ((↑k : Int) * s - p + w), .n (n + p)], .br true, .r [] [.n ((↑k : Int) + 1)], .r [] [.n ((↑k : Int) * s - p + s)]]) (G := [.any (rg [(49, 12)]), .weak 10 (i64 (↑(k + 1) : Int)), .weak 11 (i64 ((↑(k + 1) : Int) * s - p)), .sort]) (by kernel_rfl) (.c (IntWalk.i64_in ((↑k : Int) * s - p + w) (by omega)) <| .c (IntWalk.i64_in (n + p) (by omega)) <| .c (decide_eq_true (p := ((↑k : Int) * s - p + w ≤ n + p)) (by omega)) <| .c (IntWalk.i64_in ((↑k : Int) + 1) (by omega)) <| .c (IntWalk.i64_in ((↑k : Int) * s - p + s) (by omega)) <| .c (Weak.int (k := .i64) (show (((↑k : Int) + 1) : Int) = ((↑(k + 1) : Int)) from (by omega))) <| .c (Weak.int (k := .i64) (show (((↑k : Int) * s - p + s) : Int) = ((↑(k + 1) : Int) * s - p) from (by (rw [succ_mul']; omega)))) <| .n)
set_option maxRecDepth 100000 in
set_option maxHeartbeats 2000000 in
theorem refSteps_l_e (n w s p : Int) (h : StepsOk n w s p) : VT Try.prog (fnC Try.f101 [1, 1, 1, 0, 1, 0, 0]) (refSteps_l_I n w s p (stepsM n w s p)) (.exit 0) (refSteps_l_Z n w s p) := by
  have h0 := stepsM_end h
  have h3 : 0 ≤ (stepsM n w s p : Int) * s := Int.mul_nonneg (by omega) (by have := h.s0; omega)
  have h1 := stepsM_le h
  have h2 : (stepsM n w s p : Int) * s ≤ 1040 * 4 := Int.mul_le_mul h1 h.s1 (by have := h.s0; omega) (by omega)
  obtain ⟨g1, g2, g3, g4, g5, g6, g7, g8⟩ := h
  have oz0 := (IntWalk.i64_in ((↑(stepsM n w s p) : Int) * s - p + w) (by omega))
  exact VT.run (W := [.r [] [.n (nO oz0), .n (n + p)], .br false]) (G := [.any (rg [(49, 7)]), .sort]) (by kernel_rfl) (.c oz0 <| .c (IntWalk.i64_in (n + p) (by omega)) <| .c (decide_eq_false (p := ((↑(stepsM n w s p) : Int) * s - p + w ≤ n + p)) (by omega)) <| .n)
theorem refSteps_l (n w s p : Int) (h : StepsOk n w s p) : VT Try.prog (fnC Try.f101 [1, 1, 1, 0, 1, 0]) (refSteps_l_I n w s p 0) (.exit 0) (refSteps_l_Z n w s p) :=
  VT.loop (fun k => refSteps_l_I n w s p k) (stepsM n w s p) (fun k hk => refSteps_l_s n w s p h k hk) (refSteps_l_e n w s p h) (by intro h; cases h)
theorem stepsE_ok {n w s p : Int} (h : StepsOk n w s p) (hw : p < w) : (if (stepsM n w s p : Int) = 0 then ((0 : Int), (5 : Int)) else ((stepsM n w s p : Int), 0)) = stepsE n w s p := by
  have hd := div4 (n + 2 * p - w) s
  obtain ⟨h1, h2, h3, h4, h5, h6, h7, h8⟩ := h
  unfold stepsM stepsE
  rw [if_neg (by omega : ¬ (n < 1 ∨ 1024 < n ∨ w < 1 ∨ 5 < w ∨ s < 1 ∨ 4 < s ∨ p < 0 ∨ 4 < p ∨ w ≤ p))]
  by_cases h : n + 2 * p < w
  · rw [if_pos h, if_pos h]; simp
  · have := hd (by omega) (by omega) h5
    rw [if_neg h, if_neg h, if_neg (by omega)]
    rw [Int.toNat_of_nonneg (by omega)]
set_option maxRecDepth 100000 in
set_option maxHeartbeats 2000000 in
theorem refSteps_v (n k s p : Int)  : VC Try.prog 101 ([i64 n, i64 k, i64 s, i64 p]) (.tup [i64 (stepsE n k s p).1, i64 (stepsE n k s p).2]) := by
  rcases Bool.eq_false_or_eq_true (decide (n < 1)) with hc0 | hc0
  · have gc0 := of_decide_eq_true hc0
    have oz0 := (show decide (n < 1) = !false by (refine decide_eq_true ?_; omega))
    have oz3 := (show true = !false by (constructor <;> omega))
    have oz5 := (show true = true by with_reducible rfl)
    exact (VC.run (fn := Try.f101) (W := [.r [] [], .r [] [.br false, .br false, .br true, .br false, .br false, .br true, .br false, .br false, .br true, .br false, .br false, .br true, .br false, .br false, .br true, .br false, .br false, .br true, .br false, .br false, .br true, .br false, .br false, .br false, .br true], .br true, .r [] []]) (r := AV.tup [i64 0, i64 2]) Try.func101 (by kernel_rfl) (.c oz0 <| .c oz0 <| .c hc0 <| .c oz3 <| .c oz3 <| .c oz5 <| .c oz3 <| .c oz3 <| .c oz5 <| .c oz3 <| .c oz3 <| .c oz5 <| .c oz3 <| .c oz3 <| .c oz5 <| .c oz3 <| .c oz3 <| .c oz5 <| .c oz3 <| .c oz3 <| .c oz5 <| .c oz3 <| .c oz3 <| .c oz3 <| .c oz5 <| .c oz5 <| .n)).to (by (simp only [stepsE]; rw [if_pos (by omega)]))
  · have gc0 := of_decide_eq_false hc0
    rcases Bool.eq_false_or_eq_true (decide (n > 1024)) with hc1 | hc1
    · have gc1 := of_decide_eq_true hc1
      have oz3 := (show decide (n > 1024) = !false by (refine decide_eq_true ?_; omega))
      have oz6 := (show true = !false by (constructor <;> omega))
      have oz8 := (show true = true by with_reducible rfl)
      exact (VC.run (fn := Try.f101) (W := [.r [] [], .r [] [.br true, .br true, .br false, .br false, .br false, .br true, .br false, .br false, .br true, .br false, .br false, .br true, .br false, .br false, .br true, .br false, .br false, .br true, .br false, .br false, .br true, .br false, .br false, .br false, .br true], .br true, .r [] []]) (r := AV.tup [i64 0, i64 2]) Try.func101 (by kernel_rfl) (.c hc0 <| .c hc0 <| .c hc0 <| .c oz3 <| .c oz3 <| .c hc1 <| .c oz6 <| .c oz6 <| .c oz8 <| .c oz6 <| .c oz6 <| .c oz8 <| .c oz6 <| .c oz6 <| .c oz8 <| .c oz6 <| .c oz6 <| .c oz8 <| .c oz6 <| .c oz6 <| .c oz8 <| .c oz6 <| .c oz6 <| .c oz6 <| .c oz8 <| .c oz8 <| .n)).to (by (simp only [stepsE]; rw [if_pos (by omega)]))
    · have gc1 := of_decide_eq_false hc1
      rcases Bool.eq_false_or_eq_true (decide (k < 1)) with hc2 | hc2
      · have gc2 := of_decide_eq_true hc2
        have oz6 := (show decide (k < 1) = !false by (refine decide_eq_true ?_; omega))
        have oz9 := (show true = !false by (constructor <;> omega))
        have oz11 := (show true = true by with_reducible rfl)
        exact (VC.run (fn := Try.f101) (W := [.r [] [], .r [] [.br true, .br true, .br false, .br true, .br true, .br false, .br false, .br false, .br true, .br false, .br false, .br true, .br false, .br false, .br true, .br false, .br false, .br true, .br false, .br false, .br true, .br false, .br false, .br false, .br true], .br true, .r [] []]) (r := AV.tup [i64 0, i64 2]) Try.func101 (by kernel_rfl) (.c hc0 <| .c hc0 <| .c hc0 <| .c hc1 <| .c hc1 <| .c hc1 <| .c oz6 <| .c oz6 <| .c hc2 <| .c oz9 <| .c oz9 <| .c oz11 <| .c oz9 <| .c oz9 <| .c oz11 <| .c oz9 <| .c oz9 <| .c oz11 <| .c oz9 <| .c oz9 <| .c oz11 <| .c oz9 <| .c oz9 <| .c oz9 <| .c oz11 <| .c oz11 <| .n)).to (by (simp only [stepsE]; rw [if_pos (by omega)]))
      · have gc2 := of_decide_eq_false hc2
        rcases Bool.eq_false_or_eq_true (decide (k > 5)) with hc3 | hc3
        · have gc3 := of_decide_eq_true hc3
          have oz9 := (show decide (k > 5) = !false by (refine decide_eq_true ?_; omega))
          have oz12 := (show true = !false by (constructor <;> omega))
          have oz14 := (show true = true by with_reducible rfl)
          exact (VC.run (fn := Try.f101) (W := [.r [] [], .r [] [.br true, .br true, .br false, .br true, .br true, .br false, .br true, .br true, .br false, .br false, .br false, .br true, .br false, .br false, .br true, .br false, .br false, .br true, .br false, .br false, .br true, .br false, .br false, .br false, .br true], .br true, .r [] []]) (r := AV.tup [i64 0, i64 2]) Try.func101 (by kernel_rfl) (.c hc0 <| .c hc0 <| .c hc0 <| .c hc1 <| .c hc1 <| .c hc1 <| .c hc2 <| .c hc2 <| .c hc2 <| .c oz9 <| .c oz9 <| .c hc3 <| .c oz12 <| .c oz12 <| .c oz14 <| .c oz12 <| .c oz12 <| .c oz14 <| .c oz12 <| .c oz12 <| .c oz14 <| .c oz12 <| .c oz12 <| .c oz12 <| .c oz14 <| .c oz14 <| .n)).to (by (simp only [stepsE]; rw [if_pos (by omega)]))
        · have gc3 := of_decide_eq_false hc3
          rcases Bool.eq_false_or_eq_true (decide (s < 1)) with hc4 | hc4
          · have gc4 := of_decide_eq_true hc4
            have oz12 := (show decide (s < 1) = !false by (refine decide_eq_true ?_; omega))
            have oz15 := (show true = !false by (constructor <;> omega))
            have oz17 := (show true = true by with_reducible rfl)
            exact (VC.run (fn := Try.f101) (W := [.r [] [], .r [] [.br true, .br true, .br false, .br true, .br true, .br false, .br true, .br true, .br false, .br true, .br true, .br false, .br false, .br false, .br true, .br false, .br false, .br true, .br false, .br false, .br true, .br false, .br false, .br false, .br true], .br true, .r [] []]) (r := AV.tup [i64 0, i64 2]) Try.func101 (by kernel_rfl) (.c hc0 <| .c hc0 <| .c hc0 <| .c hc1 <| .c hc1 <| .c hc1 <| .c hc2 <| .c hc2 <| .c hc2 <| .c hc3 <| .c hc3 <| .c hc3 <| .c oz12 <| .c oz12 <| .c hc4 <| .c oz15 <| .c oz15 <| .c oz17 <| .c oz15 <| .c oz15 <| .c oz17 <| .c oz15 <| .c oz15 <| .c oz15 <| .c oz17 <| .c oz17 <| .n)).to (by (simp only [stepsE]; rw [if_pos (by omega)]))
          · have gc4 := of_decide_eq_false hc4
            rcases Bool.eq_false_or_eq_true (decide (s > 4)) with hc5 | hc5
            · have gc5 := of_decide_eq_true hc5
              have oz15 := (show decide (s > 4) = !false by (refine decide_eq_true ?_; omega))
              have oz18 := (show true = !false by (constructor <;> omega))
              have oz20 := (show true = true by with_reducible rfl)
              exact (VC.run (fn := Try.f101) (W := [.r [] [], .r [] [.br true, .br true, .br false, .br true, .br true, .br false, .br true, .br true, .br false, .br true, .br true, .br false, .br true, .br true, .br false, .br false, .br false, .br true, .br false, .br false, .br true, .br false, .br false, .br false, .br true], .br true, .r [] []]) (r := AV.tup [i64 0, i64 2]) Try.func101 (by kernel_rfl) (.c hc0 <| .c hc0 <| .c hc0 <| .c hc1 <| .c hc1 <| .c hc1 <| .c hc2 <| .c hc2 <| .c hc2 <| .c hc3 <| .c hc3 <| .c hc3 <| .c hc4 <| .c hc4 <| .c hc4 <| .c oz15 <| .c oz15 <| .c hc5 <| .c oz18 <| .c oz18 <| .c oz20 <| .c oz18 <| .c oz18 <| .c oz18 <| .c oz20 <| .c oz20 <| .n)).to (by (simp only [stepsE]; rw [if_pos (by omega)]))
            · have gc5 := of_decide_eq_false hc5
              rcases Bool.eq_false_or_eq_true (decide (p < 0)) with hc6 | hc6
              · have gc6 := of_decide_eq_true hc6
                have oz18 := (show decide (p < 0) = !false by (refine decide_eq_true ?_; omega))
                have oz21 := (show true = !false by (constructor <;> omega))
                have oz24 := (show true = true by with_reducible rfl)
                exact (VC.run (fn := Try.f101) (W := [.r [] [], .r [] [.br true, .br true, .br false, .br true, .br true, .br false, .br true, .br true, .br false, .br true, .br true, .br false, .br true, .br true, .br false, .br true, .br true, .br false, .br false, .br false, .br true, .br false, .br false, .br false, .br true], .br true, .r [] []]) (r := AV.tup [i64 0, i64 2]) Try.func101 (by kernel_rfl) (.c hc0 <| .c hc0 <| .c hc0 <| .c hc1 <| .c hc1 <| .c hc1 <| .c hc2 <| .c hc2 <| .c hc2 <| .c hc3 <| .c hc3 <| .c hc3 <| .c hc4 <| .c hc4 <| .c hc4 <| .c hc5 <| .c hc5 <| .c hc5 <| .c oz18 <| .c oz18 <| .c hc6 <| .c oz21 <| .c oz21 <| .c oz21 <| .c oz24 <| .c oz24 <| .n)).to (by (simp only [stepsE]; rw [if_pos (by omega)]))
              · have gc6 := of_decide_eq_false hc6
                rcases Bool.eq_false_or_eq_true (decide (p > 4)) with hc7 | hc7
                · have gc7 := of_decide_eq_true hc7
                  have oz21 := (show decide (p > 4) = !false by (refine decide_eq_true ?_; omega))
                  exact (VC.run (fn := Try.f101) (W := [.r [] [], .r [] [.br true, .br true, .br false, .br true, .br true, .br false, .br true, .br true, .br false, .br true, .br true, .br false, .br true, .br true, .br false, .br true, .br true, .br false, .br true, .br true, .br false, .br false, .br false, .br false, .br true], .br true, .r [] []]) (r := AV.tup [i64 0, i64 2]) Try.func101 (by kernel_rfl) (.c hc0 <| .c hc0 <| .c hc0 <| .c hc1 <| .c hc1 <| .c hc1 <| .c hc2 <| .c hc2 <| .c hc2 <| .c hc3 <| .c hc3 <| .c hc3 <| .c hc4 <| .c hc4 <| .c hc4 <| .c hc5 <| .c hc5 <| .c hc5 <| .c hc6 <| .c hc6 <| .c hc6 <| .c oz21 <| .c oz21 <| .c oz21 <| .c hc7 <| .c (show true = true by with_reducible rfl) <| .n)).to (by (simp only [stepsE]; rw [if_pos (by omega)]))
                · have gc7 := of_decide_eq_false hc7
                  rcases Bool.eq_false_or_eq_true (decide (p ≥ k)) with hc8 | hc8
                  · have gc8 := of_decide_eq_true hc8
                    exact (VC.run (fn := Try.f101) (W := [.r [] [], .r [] [.br true, .br true, .br false, .br true, .br true, .br false, .br true, .br true, .br false, .br true, .br true, .br false, .br true, .br true, .br false, .br true, .br true, .br false, .br true, .br true, .br false, .br true, .br true, .br true, .br false], .br true, .r [] []]) (r := AV.tup [i64 0, i64 2]) Try.func101 (by kernel_rfl) (.c hc0 <| .c hc0 <| .c hc0 <| .c hc1 <| .c hc1 <| .c hc1 <| .c hc2 <| .c hc2 <| .c hc2 <| .c hc3 <| .c hc3 <| .c hc3 <| .c hc4 <| .c hc4 <| .c hc4 <| .c hc5 <| .c hc5 <| .c hc5 <| .c hc6 <| .c hc6 <| .c hc6 <| .c hc7 <| .c hc7 <| .c hc7 <| .c hc7 <| .c hc8 <| .n)).to (by (simp only [stepsE]; rw [if_pos (by omega)]))
                  · have gc8 := of_decide_eq_false hc8
                    have oz26 := (IntWalk.i64_in (0 - p) (by omega))
                    have oz27 := (Weak.int (k := .i64) (show ((0) : Int) = ((↑0 : Int)) from (by omega)))
                    have oz28 := (Weak.int (k := .i64) (show ((0 - p) : Int) = ((↑0 : Int) * s - p) from (by omega)))
                    have oz29 := @refSteps_l (n) (k) (s) (p) (by (constructor <;> omega))
                    rcases Bool.eq_false_or_eq_true ((↑(stepsM n k s p) : Int) == 0) with hc9 | hc9
                    · have gc9 : (↑(stepsM n k s p) : Int) = 0 := bet hc9
                      exact (VC.run (fn := Try.f101) (W := [.r [] [], .r [] [.br true, .br true, .br false, .br true, .br true, .br false, .br true, .br true, .br false, .br true, .br true, .br false, .br true, .br true, .br false, .br true, .br true, .br false, .br true, .br true, .br false, .br true, .br true, .br true, .br false], .br false, .r [] [], .r [] [.n (nO oz26)], .code [.any (rg [(8, 2), (12, 37)]), .weak 10 (wO oz27), .weak 11 (wO oz28), .sort] (Exit.exit 0) (zO oz29), .r [] [], .br true, .r [] []]) (r := AV.tup [i64 0, i64 5]) Try.func101 (by kernel_rfl) (.c hc0 <| .c hc0 <| .c hc0 <| .c hc1 <| .c hc1 <| .c hc1 <| .c hc2 <| .c hc2 <| .c hc2 <| .c hc3 <| .c hc3 <| .c hc3 <| .c hc4 <| .c hc4 <| .c hc4 <| .c hc5 <| .c hc5 <| .c hc5 <| .c hc6 <| .c hc6 <| .c hc6 <| .c hc7 <| .c hc7 <| .c hc7 <| .c hc7 <| .c hc8 <| .c oz26 <| .c oz27 <| .c oz28 <| .c oz29 <| .c hc9 <| .n)).weak (WeakL.refl _) (Weak.tup (.cons (Weak.int (show ((0) : Int) = ((stepsE n k s p).fst) from (by (rw [← stepsE_ok (by constructor <;> omega) (by omega), if_pos (by omega)])))) (.cons (Weak.int (show ((5) : Int) = ((stepsE n k s p).snd) from (by (rw [← stepsE_ok (by constructor <;> omega) (by omega), if_pos (by omega)])))) .nil)))
                    · have gc9 : ¬(↑(stepsM n k s p) : Int) = 0 := bef hc9
                      exact (VC.run (fn := Try.f101) (W := [.r [] [], .r [] [.br true, .br true, .br false, .br true, .br true, .br false, .br true, .br true, .br false, .br true, .br true, .br false, .br true, .br true, .br false, .br true, .br true, .br false, .br true, .br true, .br false, .br true, .br true, .br true, .br false], .br false, .r [] [], .r [] [.n (nO oz26)], .code [.any (rg [(8, 2), (12, 37)]), .weak 10 (wO oz27), .weak 11 (wO oz28), .sort] (Exit.exit 0) (zO oz29), .r [] [], .br false, .r [] []]) (r := AV.tup [i64 (↑(stepsM n k s p) : Int), i64 0]) Try.func101 (by kernel_rfl) (.c hc0 <| .c hc0 <| .c hc0 <| .c hc1 <| .c hc1 <| .c hc1 <| .c hc2 <| .c hc2 <| .c hc2 <| .c hc3 <| .c hc3 <| .c hc3 <| .c hc4 <| .c hc4 <| .c hc4 <| .c hc5 <| .c hc5 <| .c hc5 <| .c hc6 <| .c hc6 <| .c hc6 <| .c hc7 <| .c hc7 <| .c hc7 <| .c hc7 <| .c hc8 <| .c oz26 <| .c oz27 <| .c oz28 <| .c oz29 <| .c hc9 <| .n)).weak (WeakL.refl _) (Weak.tup (.cons (Weak.int (show (((↑(stepsM n k s p) : Int)) : Int) = ((stepsE n k s p).fst) from (by (rw [← stepsE_ok (by constructor <;> omega) (by omega), if_neg (by omega)])))) (.cons (Weak.int (show ((0) : Int) = ((stepsE n k s p).snd) from (by (rw [← stepsE_ok (by constructor <;> omega) (by omega), if_neg (by omega)])))) .nil)))
theorem stepsE_bd (n k s p : Int) : 0 ≤ (stepsE n k s p).1 ∧ (stepsE n k s p).1 ≤ 2001 ∧ 0 ≤ (stepsE n k s p).2 ∧ (stepsE n k s p).2 ≤ 5 := by
  unfold stepsE; split
  · simp
  · split
    · simp
    · have := div4 (n + 2 * p - k) s (by omega) (by omega) (by omega)
      simp only; omega
structure Shp where
  h : Int
  x : Int
  c : Int
structure Shp.Ok (s : Shp) : Prop where
  h : In64 s.h
  x : In64 s.x
  c : In64 s.c
theorem Shp.mk_ok {a b c : Int} (x : In64 a) (y : In64 b) (z : In64 c) : Shp.Ok ⟨a, b, c⟩ := ⟨x, y, z⟩
abbrev shp (s : Shp) : AV := .agg [i64 s.h, i64 s.x, i64 s.c]
def Shp.n (s : Shp) : Int := elems s.h s.x s.c
/-- The shape of what a window makes, or why there is none. -/
def slideE (t : Shp) (k s p o : Int) : Shp × Int :=
  if ¬ 0 < elems t.h t.x t.c then (⟨0, 0, 0⟩, 5) else if (stepsE t.h k s p).2 ≠ 0 then (⟨0, 0, 0⟩, (stepsE t.h k s p).2) else if (stepsE t.x k s p).2 ≠ 0 then (⟨0, 0, 0⟩, (stepsE t.x k s p).2)
  else if ¬ 0 < elems (stepsE t.h k s p).1 (stepsE t.x k s p).1 o then (⟨0, 0, 0⟩, 5) else (⟨(stepsE t.h k s p).1, (stepsE t.x k s p).1, o⟩, 0)
set_option maxRecDepth 100000 in
set_option maxHeartbeats 2000000 in
theorem sRight_v (t : Shp) (ok : t.Ok) : VC Try.prog 99 ([shp t]) (bv (decide (0 < elems t.h t.x t.c))) := by
  have q1 := ok.h
  have q2 := ok.x
  have q3 := ok.c
  have oz0 := @elems_v (t.h) (t.x) (t.c) q1 q2 q3
  exact VC.run (fn := Try.f99) (W := [.r [] [], .r [] [.callr (rO oz0)]]) Try.func99 (by kernel_rfl) (.c oz0 <| .n)

set_option maxRecDepth 100000 in
set_option maxHeartbeats 2000000 in
theorem slide_v (t : Shp) (k s p o : Int) (ok : t.Ok) (ho : In64 o) : VC Try.prog 67 ([shp t, i64 k, i64 s, i64 p, i64 o]) (.tup [shp (slideE t k s p o).1, i64 (slideE t k s p o).2]) := by
  have q1 := ok.h
  have q2 := ok.x
  have q3 := ok.c
  have q4 := stepsE_bd t.h k s p
  have q5 := stepsE_bd t.x k s p
  have oz0 := @sRight_v (t) ok
  rcases Bool.eq_false_or_eq_true (!decide (0 < elems t.h t.x t.c)) with hc0 | hc0
  · have gc0 := bnt hc0
    exact (VC.run (fn := Try.f67) (W := [.r [] [], .r [] [.callr (rO oz0)], .br true, .r [] []]) (r := AV.tup [AV.agg [i64 0, i64 0, i64 0], i64 5]) Try.func67 (by kernel_rfl) (.c oz0 <| .c hc0 <| .n)).to (by (simp only [slideE]; rw [if_pos (by omega)]))
  · have gc0 := bnf hc0
    have oz2 := @steps_v (t.h) (k) (s) (p)
    rcases Bool.eq_false_or_eq_true ((stepsE t.h k s p).snd != 0) with hc1 | hc1
    · have gc1 : ¬(stepsE t.h k s p).snd = 0 := bdt hc1
      exact (VC.run (fn := Try.f67) (W := [.r [] [], .r [] [.callr (rO oz0)], .br false, .r [] [.callr (rO oz2)], .r [] [], .br true, .r [] []]) (r := AV.tup [AV.agg [i64 0, i64 0, i64 0], i64 (stepsE t.h k s p).snd]) Try.func67 (by kernel_rfl) (.c oz0 <| .c hc0 <| .c oz2 <| .c hc1 <| .n)).to (by (simp only [slideE]; rw [if_neg (by omega), if_pos (by omega)]))
    · have gc1 : (stepsE t.h k s p).snd = 0 := bdf hc1
      have oz4 := @steps_v (t.x) (k) (s) (p)
      rcases Bool.eq_false_or_eq_true ((stepsE t.x k s p).snd != 0) with hc2 | hc2
      · have gc2 : ¬(stepsE t.x k s p).snd = 0 := bdt hc2
        exact (VC.run (fn := Try.f67) (W := [.r [] [], .r [] [.callr (rO oz0)], .br false, .r [] [.callr (rO oz2)], .r [] [], .br false, .r [] [.callr (rO oz4)], .r [] [], .br true, .r [] []]) (r := AV.tup [AV.agg [i64 0, i64 0, i64 0], i64 (stepsE t.x k s p).snd]) Try.func67 (by kernel_rfl) (.c oz0 <| .c hc0 <| .c oz2 <| .c hc1 <| .c oz4 <| .c hc2 <| .n)).to (by (simp only [slideE]; rw [if_neg (by omega), if_neg (by omega), if_pos (by omega)]))
      · have gc2 : (stepsE t.x k s p).snd = 0 := bdf hc2
        have oz6 := @sRight_v (Shp.mk (stepsE t.h k s p).fst (stepsE t.x k s p).fst o) (by (exact Shp.mk_ok ⟨by omega, by omega⟩ ⟨by omega, by omega⟩ ho))
        rcases Bool.eq_false_or_eq_true (!decide (0 < elems (stepsE t.h k s p).fst (stepsE t.x k s p).fst o)) with hc3 | hc3
        · have gc3 := bnt hc3
          exact (VC.run (fn := Try.f67) (W := [.r [] [], .r [] [.callr (rO oz0)], .br false, .r [] [.callr (rO oz2)], .r [] [], .br false, .r [] [.callr (rO oz4)], .r [] [], .br false, .r [] [], .r [] [.callr (rO oz6)], .br true, .r [] []]) (r := AV.tup [AV.agg [i64 0, i64 0, i64 0], i64 5]) Try.func67 (by kernel_rfl) (.c oz0 <| .c hc0 <| .c oz2 <| .c hc1 <| .c oz4 <| .c hc2 <| .c oz6 <| .c hc3 <| .n)).to (by (simp only [slideE]; rw [if_neg (by omega), if_neg (by omega), if_neg (by omega), if_pos (by omega)]))
        · have gc3 := bnf hc3
          exact (VC.run (fn := Try.f67) (W := [.r [] [], .r [] [.callr (rO oz0)], .br false, .r [] [.callr (rO oz2)], .r [] [], .br false, .r [] [.callr (rO oz4)], .r [] [], .br false, .r [] [], .r [] [.callr (rO oz6)], .br false, .r [] []]) (r := AV.tup [AV.agg [i64 (stepsE t.h k s p).fst, i64 (stepsE t.x k s p).fst, i64 o], i64 0]) Try.func67 (by kernel_rfl) (.c oz0 <| .c hc0 <| .c oz2 <| .c hc1 <| .c oz4 <| .c hc2 <| .c oz6 <| .c hc3 <| .n)).to (by (simp only [slideE]; rw [if_neg (by omega), if_neg (by omega), if_neg (by omega), if_neg (by omega)]))

set_option maxRecDepth 100000 in
set_option maxHeartbeats 2000000 in
theorem refSlide_v (t : Shp) (k s p o : Int) (ok : t.Ok) (ho : In64 o) : VC Try.prog 68 ([shp t, i64 k, i64 s, i64 p, i64 o]) (.tup [shp (slideE t k s p o).1, i64 (slideE t k s p o).2]) := by
  have q1 := ok.h
  have q2 := ok.x
  have q3 := ok.c
  have q4 := stepsE_bd t.h k s p
  have q5 := stepsE_bd t.x k s p
  have q6 := elems_bd t.h t.x t.c
  have q7 := elems_bd (stepsE t.h k s p).1 (stepsE t.x k s p).1 o
  have oz0 := @refElems_v (t.h) (t.x) (t.c) q1 q2 q3
  rcases Bool.eq_false_or_eq_true (elems t.h t.x t.c == 0) with hc0 | hc0
  · have gc0 : elems t.h t.x t.c = 0 := bet hc0
    exact (VC.run (fn := Try.f68) (W := [.r [] [], .r [] [.callr (rO oz0)], .br true, .r [] []]) (r := AV.tup [AV.agg [i64 0, i64 0, i64 0], i64 5]) Try.func68 (by kernel_rfl) (.c oz0 <| .c hc0 <| .n)).to (by (simp only [slideE]; rw [if_pos (by omega)]))
  · have gc0 : ¬elems t.h t.x t.c = 0 := bef hc0
    have oz2 := @refSteps_v (t.h) (k) (s) (p)
    rcases Bool.eq_false_or_eq_true ((stepsE t.h k s p).snd != 0) with hc1 | hc1
    · have gc1 : ¬(stepsE t.h k s p).snd = 0 := bdt hc1
      exact (VC.run (fn := Try.f68) (W := [.r [] [], .r [] [.callr (rO oz0)], .br false, .r [] [.callr (rO oz2)], .r [] [], .br true, .r [] []]) (r := AV.tup [AV.agg [i64 0, i64 0, i64 0], i64 (stepsE t.h k s p).snd]) Try.func68 (by kernel_rfl) (.c oz0 <| .c hc0 <| .c oz2 <| .c hc1 <| .n)).to (by (simp only [slideE]; rw [if_neg (by omega), if_pos (by omega)]))
    · have gc1 : (stepsE t.h k s p).snd = 0 := bdf hc1
      have oz4 := @refSteps_v (t.x) (k) (s) (p)
      rcases Bool.eq_false_or_eq_true ((stepsE t.x k s p).snd != 0) with hc2 | hc2
      · have gc2 : ¬(stepsE t.x k s p).snd = 0 := bdt hc2
        exact (VC.run (fn := Try.f68) (W := [.r [] [], .r [] [.callr (rO oz0)], .br false, .r [] [.callr (rO oz2)], .r [] [], .br false, .r [] [.callr (rO oz4)], .r [] [], .br true, .r [] []]) (r := AV.tup [AV.agg [i64 0, i64 0, i64 0], i64 (stepsE t.x k s p).snd]) Try.func68 (by kernel_rfl) (.c oz0 <| .c hc0 <| .c oz2 <| .c hc1 <| .c oz4 <| .c hc2 <| .n)).to (by (simp only [slideE]; rw [if_neg (by omega), if_neg (by omega), if_pos (by omega)]))
      · have gc2 : (stepsE t.x k s p).snd = 0 := bdf hc2
        have oz6 := @refElems_v ((stepsE t.h k s p).fst) ((stepsE t.x k s p).fst) (o) (by (refine ⟨?_, ?_⟩ <;> omega)) (by (refine ⟨?_, ?_⟩ <;> omega)) ho
        rcases Bool.eq_false_or_eq_true (elems (stepsE t.h k s p).fst (stepsE t.x k s p).fst o == 0) with hc3 | hc3
        · have gc3 : elems (stepsE t.h k s p).fst (stepsE t.x k s p).fst o = 0 := bet hc3
          exact (VC.run (fn := Try.f68) (W := [.r [] [], .r [] [.callr (rO oz0)], .br false, .r [] [.callr (rO oz2)], .r [] [], .br false, .r [] [.callr (rO oz4)], .r [] [], .br false, .r [] [], .r [] [.callr (rO oz6)], .br true, .r [] []]) (r := AV.tup [AV.agg [i64 0, i64 0, i64 0], i64 5]) Try.func68 (by kernel_rfl) (.c oz0 <| .c hc0 <| .c oz2 <| .c hc1 <| .c oz4 <| .c hc2 <| .c oz6 <| .c hc3 <| .n)).to (by (simp only [slideE]; rw [if_neg (by omega), if_neg (by omega), if_neg (by omega), if_pos (by omega)]))
        · have gc3 : ¬elems (stepsE t.h k s p).fst (stepsE t.x k s p).fst o = 0 := bef hc3
          exact (VC.run (fn := Try.f68) (W := [.r [] [], .r [] [.callr (rO oz0)], .br false, .r [] [.callr (rO oz2)], .r [] [], .br false, .r [] [.callr (rO oz4)], .r [] [], .br false, .r [] [], .r [] [.callr (rO oz6)], .br false, .r [] []]) (r := AV.tup [AV.agg [i64 (stepsE t.h k s p).fst, i64 (stepsE t.x k s p).fst, i64 o], i64 0]) Try.func68 (by kernel_rfl) (.c oz0 <| .c hc0 <| .c oz2 <| .c hc1 <| .c oz4 <| .c hc2 <| .c oz6 <| .c hc3 <| .n)).to (by (simp only [slideE]; rw [if_neg (by omega), if_neg (by omega), if_neg (by omega), if_neg (by omega)]))
end Go.Proofs.Ytcegfkmelcjdhaa

