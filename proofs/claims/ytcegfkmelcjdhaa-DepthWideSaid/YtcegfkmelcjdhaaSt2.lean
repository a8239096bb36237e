/- How often a window lies within; the shape of what a window makes. No condition. -/
import Derived.Test.YtcegfkmelcjdhaaCore
namespace Go.Proofs.Ytcegfkmelcjdhaa
open Go.RowKit
set_option linter.unusedSimpArgs false
set_option linter.unusedVariables false
set_option linter.unnecessarySimpa false

set_option maxRecDepth 100000 in
set_option maxHeartbeats 2000000 in
theorem in_v (v lo hi : Int)  : VC Try.prog 119 ([i64 v, i64 lo, i64 hi]) (bv (decide (lo ≤ v) && decide (v ≤ hi))) := by
  rcases Bool.eq_false_or_eq_true (decide (v ≥ lo)) with hc0 | hc0
  · have gc0 : v ≥ lo := of_decide_eq_true hc0
    have hz : VC Try.prog 119 ([i64 v, i64 lo, i64 hi]) (AV.lit (Value.bool (decide (v ≤ hi)))) := by
      refine VC.run (fn := Try.f119) Try.func119 (W := [.r [] [], .r [] [PI.br true, PI.br true, PI.br true, PI.br true]])
        (ob := [decide (v ≥ lo) = true,
          decide (v ≥ lo) = true,
          decide (v ≥ lo) = true,
          decide (v ≥ lo) = true]) (by kernel_rfl) ?_
      exact ⟨(by with_reducible assumption),
                (by with_reducible assumption),
                (by with_reducible assumption),
                (by with_reducible assumption),
                trivial⟩
    exact hz.weak (WeakL.refl _) (Weak.bool (show ((decide (v ≤ hi)) : Bool) = (decide (lo ≤ v) && decide (v ≤ hi)) from (by (simp; omega))))
  · have gc0 : ¬v ≥ lo := of_decide_eq_false hc0
    have hz : VC Try.prog 119 ([i64 v, i64 lo, i64 hi]) (AV.lit (Value.bool false)) := by
      refine VC.run (fn := Try.f119) Try.func119 (W := [.r [] [], .r [] [PI.br false, PI.br false, PI.br false, PI.br false]])
        (ob := [decide (v ≥ lo) = !true,
          decide (v ≥ lo) = !true,
          decide (v ≥ lo) = !true,
          decide (v ≥ lo) = false]) (by kernel_rfl) ?_
      exact ⟨(by (refine decide_eq_false ?_; omega)),
                (by (refine decide_eq_false ?_; omega)),
                (by (refine decide_eq_false ?_; omega)),
                (by with_reducible assumption),
                trivial⟩
    exact hz.weak (WeakL.refl _) (Weak.bool (show ((false) : Bool) = (decide (lo ≤ v) && decide (v ≤ hi)) from (by (simp; omega))))
/-- How often a window lies within, or why not. -/
def stepsE (n k s p : Int) : Int × Int := if n < 1 ∨ 1024 < n ∨ k < 1 ∨ 5 < k ∨ s < 1 ∨ 4 < s ∨ p < 0 ∨ 4 < p ∨ k ≤ p then (0, 2) else if n + 2 * p < k then (0, 5) else ((n + 2 * p - k) / s + 1, 0)
theorem div4 (a s : Int) (h0 : 0 ≤ a) (h1 : a ≤ 2000) (h2 : 1 ≤ s) : 0 ≤ a / s ∧ a / s ≤ 2000 := ⟨Int.ediv_nonneg h0 (by omega), Int.le_trans (Int.ediv_le_self s h0) h1⟩
set_option maxRecDepth 100000 in
set_option maxHeartbeats 2000000 in
theorem steps_v (n k s p : Int)  : VC Try.prog 100 ([i64 n, i64 k, i64 s, i64 p]) (.tup [i64 (stepsE n k s p).1, i64 (stepsE n k s p).2]) := by
  rcases Bool.eq_false_or_eq_true (!(decide (1 ≤ n) && decide (n ≤ 1024))) with hc0 | hc0
  · have gc0 : ¬1 ≤ n ∨ ¬n ≤ 1024 := by first | exact hc0 | exact of_decide_eq_true hc0 | exact of_decide_eq_false hc0 | simpa [eqNums] using hc0 | (simp [eqNums] at hc0 ⊢; first | done | assumption | omega)
    have hz : VC Try.prog 100 ([i64 n, i64 k, i64 s, i64 p]) (AV.tup [AV.lit (Value.int IntKind.i64 0), AV.lit (Value.int IntKind.i64 2)]) := by
      refine VC.run (fn := Try.f100) Try.func100 (W := [.r [] [], .r [] [PI.callr (bv (decide (1 ≤ n) && decide (n ≤ 1024))),
 PI.br false,
 PI.br false,
 PI.br false,
 PI.br true,
 PI.br false,
 PI.br false,
 PI.br false,
 PI.br true,
 PI.br false,
 PI.br false,
 PI.br false,
 PI.br true,
 PI.br false,
 PI.br false,
 PI.br false,
 PI.br true], .br true, .r [] []])
        (ob := [VC Try.prog 119
  [AV.lit (Value.int IntKind.i64 n), AV.lit (Value.int IntKind.i64 1), AV.lit (Value.int IntKind.i64 1024)]
  (AV.lit (Value.bool (decide (1 ≤ n) && decide (n ≤ 1024)))),
          (!(decide (1 ≤ n) && decide (n ≤ 1024))) = !false,
          (!(decide (1 ≤ n) && decide (n ≤ 1024))) = !false,
          (!(decide (1 ≤ n) && decide (n ≤ 1024))) = !false,
          (!(decide (1 ≤ n) && decide (n ≤ 1024))) = true,
          true = !false,
          true = !false,
          true = !false,
          true = true,
          true = !false,
          true = !false,
          true = !false,
          true = true,
          true = !false,
          true = !false,
          true = !false,
          true = true,
          true = true]) (by kernel_rfl) ?_
      exact ⟨(@in_v (n) (1) (1024)),
                (by (simp; omega)),
                (by (simp; omega)),
                (by (simp; omega)),
                (by with_reducible assumption),
                (by (simp; done)),
                (by (simp; done)),
                (by (simp; done)),
                (by with_reducible rfl),
                (by (simp; done)),
                (by (simp; done)),
                (by (simp; done)),
                (by with_reducible rfl),
                (by (simp; done)),
                (by (simp; done)),
                (by (simp; done)),
                (by with_reducible rfl),
                (by with_reducible rfl),
                trivial⟩
    exact hz.weak (WeakL.refl _) (Weak.tup (.cons (Weak.int (show ((0) : Int) = ((stepsE n k s
    p).fst) from (by (simp only [stepsE]; rw [if_pos (by omega)])))) (.cons (Weak.int (show ((2) : Int) = ((stepsE n k s p).snd) from (by (simp only [stepsE]; rw [if_pos (by omega)])))) .nil)))
  · have gc0 : 1 ≤ n ∧ n ≤ 1024 := by first | exact hc0 | exact of_decide_eq_true hc0 | exact of_decide_eq_false hc0 | simpa [eqNums] using hc0 | (simp [eqNums] at hc0 ⊢; first | done | assumption | omega)
    rcases Bool.eq_false_or_eq_true (!(decide (1 ≤ k) && decide (k ≤ 5))) with hc1 | hc1
    · have gc1 : ¬1 ≤ k ∨ ¬k ≤ 5 := by first | exact hc1 | exact of_decide_eq_true hc1 | exact of_decide_eq_false hc1 | simpa [eqNums] using hc1 | (simp [eqNums] at hc1 ⊢; first | done | assumption | omega)
      have hz : VC Try.prog 100 ([i64 n, i64 k, i64 s, i64 p]) (AV.tup [AV.lit (Value.int IntKind.i64 0), AV.lit (Value.int IntKind.i64 2)]) := by
        refine VC.run (fn := Try.f100) Try.func100 (W := [.r [] [], .r [] [PI.callr (bv (decide (1 ≤ n) && decide (n ≤ 1024))),
 PI.br true,
 PI.br true,
 PI.callr (bv (decide (1 ≤ k) && decide (k ≤ 5))),
 PI.br true,
 PI.br false,
 PI.br false,
 PI.br false,
 PI.br false,
 PI.br true,
 PI.br false,
 PI.br false,
 PI.br false,
 PI.br true,
 PI.br false,
 PI.br false,
 PI.br false,
 PI.br true], .br true, .r [] []])
          (ob := [VC Try.prog 119
  [AV.lit (Value.int IntKind.i64 n), AV.lit (Value.int IntKind.i64 1), AV.lit (Value.int IntKind.i64 1024)]
  (AV.lit (Value.bool (decide (1 ≤ n) && decide (n ≤ 1024)))),
            (!(decide (1 ≤ n) && decide (n ≤ 1024))) = false,
            (!(decide (1 ≤ n) && decide (n ≤ 1024))) = false,
            VC Try.prog 119
  [AV.lit (Value.int IntKind.i64 k), AV.lit (Value.int IntKind.i64 1), AV.lit (Value.int IntKind.i64 5)]
  (AV.lit (Value.bool (decide (1 ≤ k) && decide (k ≤ 5)))),
            (!(decide (1 ≤ n) && decide (n ≤ 1024))) = false,
            (!(decide (1 ≤ n) && decide (n ≤ 1024))) = false,
            (!(decide (1 ≤ k) && decide (k ≤ 5))) = !false,
            (!(decide (1 ≤ k) && decide (k ≤ 5))) = !false,
            (!(decide (1 ≤ k) && decide (k ≤ 5))) = !false,
            (!(decide (1 ≤ k) && decide (k ≤ 5))) = true,
            true = !false,
            true = !false,
            true = !false,
            true = true,
            true = !false,
            true = !false,
            true = !false,
            true = true,
            true = true]) (by kernel_rfl) ?_
        exact ⟨(@in_v (n) (1) (1024)),
                    (by with_reducible assumption),
                    (by with_reducible assumption),
                    (@in_v (k) (1) (5)),
                    (by with_reducible assumption),
                    (by with_reducible assumption),
                    (by (simp; omega)),
                    (by (simp; omega)),
                    (by (simp; omega)),
                    (by with_reducible assumption),
                    (by (simp; done)),
                    (by (simp; done)),
                    (by (simp; done)),
                    (by with_reducible rfl),
                    (by (simp; done)),
                    (by (simp; done)),
                    (by (simp; done)),
                    (by with_reducible rfl),
                    (by with_reducible rfl),
                    trivial⟩
      exact hz.weak (WeakL.refl _) (Weak.tup (.cons (Weak.int (show ((0) : Int) = ((stepsE n k s
    p).fst) from (by (simp only [stepsE]; rw [if_pos (by omega)])))) (.cons (Weak.int (show ((2) : Int) = ((stepsE n k s p).snd) from (by (simp only [stepsE]; rw [if_pos (by omega)])))) .nil)))
    · have gc1 : 1 ≤ k ∧ k ≤ 5 := by first | exact hc1 | exact of_decide_eq_true hc1 | exact of_decide_eq_false hc1 | simpa [eqNums] using hc1 | (simp [eqNums] at hc1 ⊢; first | done | assumption | omega)
      rcases Bool.eq_false_or_eq_true (!(decide (1 ≤ s) && decide (s ≤ 4))) with hc2 | hc2
      · have gc2 : ¬1 ≤ s ∨ ¬s ≤ 4 := by first | exact hc2 | exact of_decide_eq_true hc2 | exact of_decide_eq_false hc2 | simpa [eqNums] using hc2 | (simp [eqNums] at hc2 ⊢; first | done | assumption | omega)
        have hz : VC Try.prog 100 ([i64 n, i64 k, i64 s, i64 p]) (AV.tup [AV.lit (Value.int IntKind.i64 0), AV.lit (Value.int IntKind.i64 2)]) := by
          refine VC.run (fn := Try.f100) Try.func100 (W := [.r [] [], .r [] [PI.callr (bv (decide (1 ≤ n) && decide (n ≤ 1024))),
 PI.br true,
 PI.br true,
 PI.callr (bv (decide (1 ≤ k) && decide (k ≤ 5))),
 PI.br true,
 PI.br false,
 PI.br true,
 PI.br true,
 PI.callr (bv (decide (1 ≤ s) && decide (s ≤ 4))),
 PI.br true,
 PI.br false,
 PI.br false,
 PI.br false,
 PI.br false,
 PI.br true,
 PI.br false,
 PI.br false,
 PI.br false,
 PI.br true], .br true, .r [] []])
            (ob := [VC Try.prog 119
  [AV.lit (Value.int IntKind.i64 n), AV.lit (Value.int IntKind.i64 1), AV.lit (Value.int IntKind.i64 1024)]
  (AV.lit (Value.bool (decide (1 ≤ n) && decide (n ≤ 1024)))),
              (!(decide (1 ≤ n) && decide (n ≤ 1024))) = false,
              (!(decide (1 ≤ n) && decide (n ≤ 1024))) = false,
              VC Try.prog 119
  [AV.lit (Value.int IntKind.i64 k), AV.lit (Value.int IntKind.i64 1), AV.lit (Value.int IntKind.i64 5)]
  (AV.lit (Value.bool (decide (1 ≤ k) && decide (k ≤ 5)))),
              (!(decide (1 ≤ n) && decide (n ≤ 1024))) = false,
              (!(decide (1 ≤ n) && decide (n ≤ 1024))) = false,
              (!(decide (1 ≤ k) && decide (k ≤ 5))) = false,
              (!(decide (1 ≤ k) && decide (k ≤ 5))) = false,
              VC Try.prog 119
  [AV.lit (Value.int IntKind.i64 s), AV.lit (Value.int IntKind.i64 1), AV.lit (Value.int IntKind.i64 4)]
  (AV.lit (Value.bool (decide (1 ≤ s) && decide (s ≤ 4)))),
              (!(decide (1 ≤ k) && decide (k ≤ 5))) = false,
              (!(decide (1 ≤ k) && decide (k ≤ 5))) = false,
              (!(decide (1 ≤ s) && decide (s ≤ 4))) = !false,
              (!(decide (1 ≤ s) && decide (s ≤ 4))) = !false,
              (!(decide (1 ≤ s) && decide (s ≤ 4))) = !false,
              (!(decide (1 ≤ s) && decide (s ≤ 4))) = true,
              true = !false,
              true = !false,
              true = !false,
              true = true,
              true = true]) (by kernel_rfl) ?_
          exact ⟨(@in_v (n) (1) (1024)),
                        (by with_reducible assumption),
                        (by with_reducible assumption),
                        (@in_v (k) (1) (5)),
                        (by with_reducible assumption),
                        (by with_reducible assumption),
                        (by with_reducible assumption),
                        (by with_reducible assumption),
                        (@in_v (s) (1) (4)),
                        (by with_reducible assumption),
                        (by with_reducible assumption),
                        (by (simp; omega)),
                        (by (simp; omega)),
                        (by (simp; omega)),
                        (by with_reducible assumption),
                        (by (simp; done)),
                        (by (simp; done)),
                        (by (simp; done)),
                        (by with_reducible rfl),
                        (by with_reducible rfl),
                        trivial⟩
        exact hz.weak (WeakL.refl _) (Weak.tup (.cons (Weak.int (show ((0) : Int) = ((stepsE n k s
    p).fst) from (by (simp only [stepsE]; rw [if_pos (by omega)])))) (.cons (Weak.int (show ((2) : Int) = ((stepsE n k s p).snd) from (by (simp only [stepsE]; rw [if_pos (by omega)])))) .nil)))
      · have gc2 : 1 ≤ s ∧ s ≤ 4 := by first | exact hc2 | exact of_decide_eq_true hc2 | exact of_decide_eq_false hc2 | simpa [eqNums] using hc2 | (simp [eqNums] at hc2 ⊢; first | done | assumption | omega)
        rcases Bool.eq_false_or_eq_true (!(decide (0 ≤ p) && decide (p ≤ 4))) with hc3 | hc3
        · have gc3 : ¬0 ≤ p ∨ ¬p ≤ 4 := by first | exact hc3 | exact of_decide_eq_true hc3 | exact of_decide_eq_false hc3 | simpa [eqNums] using hc3 | (simp [eqNums] at hc3 ⊢; first | done | assumption | omega)
          have hz : VC Try.prog 100 ([i64 n, i64 k, i64 s, i64 p]) (AV.tup [AV.lit (Value.int IntKind.i64 0), AV.lit (Value.int IntKind.i64 2)]) := by
            refine VC.run (fn := Try.f100) Try.func100 (W := [.r [] [], .r [] [PI.callr (bv (decide (1 ≤ n) && decide (n ≤ 1024))),
 PI.br true,
 PI.br true,
 PI.callr (bv (decide (1 ≤ k) && decide (k ≤ 5))),
 PI.br true,
 PI.br false,
 PI.br true,
 PI.br true,
 PI.callr (bv (decide (1 ≤ s) && decide (s ≤ 4))),
 PI.br true,
 PI.br false,
 PI.br true,
 PI.br true,
 PI.callr (bv (decide (0 ≤ p) && decide (p ≤ 4))),
 PI.br true,
 PI.br false,
 PI.br false,
 PI.br false,
 PI.br false,
 PI.br true], .br true, .r [] []])
              (ob := [VC Try.prog 119
  [AV.lit (Value.int IntKind.i64 n), AV.lit (Value.int IntKind.i64 1), AV.lit (Value.int IntKind.i64 1024)]
  (AV.lit (Value.bool (decide (1 ≤ n) && decide (n ≤ 1024)))),
                (!(decide (1 ≤ n) && decide (n ≤ 1024))) = false,
                (!(decide (1 ≤ n) && decide (n ≤ 1024))) = false,
                VC Try.prog 119
  [AV.lit (Value.int IntKind.i64 k), AV.lit (Value.int IntKind.i64 1), AV.lit (Value.int IntKind.i64 5)]
  (AV.lit (Value.bool (decide (1 ≤ k) && decide (k ≤ 5)))),
                (!(decide (1 ≤ n) && decide (n ≤ 1024))) = false,
                (!(decide (1 ≤ n) && decide (n ≤ 1024))) = false,
                (!(decide (1 ≤ k) && decide (k ≤ 5))) = false,
                (!(decide (1 ≤ k) && decide (k ≤ 5))) = false,
                VC Try.prog 119
  [AV.lit (Value.int IntKind.i64 s), AV.lit (Value.int IntKind.i64 1), AV.lit (Value.int IntKind.i64 4)]
  (AV.lit (Value.bool (decide (1 ≤ s) && decide (s ≤ 4)))),
                (!(decide (1 ≤ k) && decide (k ≤ 5))) = false,
                (!(decide (1 ≤ k) && decide (k ≤ 5))) = false,
                (!(decide (1 ≤ s) && decide (s ≤ 4))) = false,
                (!(decide (1 ≤ s) && decide (s ≤ 4))) = false,
                VC Try.prog 119
  [AV.lit (Value.int IntKind.i64 p), AV.lit (Value.int IntKind.i64 0), AV.lit (Value.int IntKind.i64 4)]
  (AV.lit (Value.bool (decide (0 ≤ p) && decide (p ≤ 4)))),
                (!(decide (1 ≤ s) && decide (s ≤ 4))) = false,
                (!(decide (1 ≤ s) && decide (s ≤ 4))) = false,
                (!(decide (0 ≤ p) && decide (p ≤ 4))) = !false,
                (!(decide (0 ≤ p) && decide (p ≤ 4))) = !false,
                (!(decide (0 ≤ p) && decide (p ≤ 4))) = !false,
                (!(decide (0 ≤ p) && decide (p ≤ 4))) = true,
                true = true]) (by kernel_rfl) ?_
            exact ⟨(@in_v (n) (1) (1024)),
                            (by with_reducible assumption),
                            (by with_reducible assumption),
                            (@in_v (k) (1) (5)),
                            (by with_reducible assumption),
                            (by with_reducible assumption),
                            (by with_reducible assumption),
                            (by with_reducible assumption),
                            (@in_v (s) (1) (4)),
                            (by with_reducible assumption),
                            (by with_reducible assumption),
                            (by with_reducible assumption),
                            (by with_reducible assumption),
                            (@in_v (p) (0) (4)),
                            (by with_reducible assumption),
                            (by with_reducible assumption),
                            (by (simp; omega)),
                            (by (simp; omega)),
                            (by (simp; omega)),
                            (by with_reducible assumption),
                            (by with_reducible rfl),
                            trivial⟩
          exact hz.weak (WeakL.refl _) (Weak.tup (.cons (Weak.int (show ((0) : Int) = ((stepsE n k s
    p).fst) from (by (simp only [stepsE]; rw [if_pos (by omega)])))) (.cons (Weak.int (show ((2) : Int) = ((stepsE n k s p).snd) from (by (simp only [stepsE]; rw [if_pos (by omega)])))) .nil)))
        · have gc3 : 0 ≤ p ∧ p ≤ 4 := by first | exact hc3 | exact of_decide_eq_true hc3 | exact of_decide_eq_false hc3 | simpa [eqNums] using hc3 | (simp [eqNums] at hc3 ⊢; first | done | assumption | omega)
          rcases Bool.eq_false_or_eq_true (decide (p ≥ k)) with hc4 | hc4
          · have gc4 : p ≥ k := of_decide_eq_true hc4
            have hz : VC Try.prog 100 ([i64 n, i64 k, i64 s, i64 p]) (AV.tup [AV.lit (Value.int IntKind.i64 0), AV.lit (Value.int IntKind.i64 2)]) := by
              refine VC.run (fn := Try.f100) Try.func100 (W := [.r [] [], .r [] [PI.callr (bv (decide (1 ≤ n) && decide (n ≤ 1024))),
 PI.br true,
 PI.br true,
 PI.callr (bv (decide (1 ≤ k) && decide (k ≤ 5))),
 PI.br true,
 PI.br false,
 PI.br true,
 PI.br true,
 PI.callr (bv (decide (1 ≤ s) && decide (s ≤ 4))),
 PI.br true,
 PI.br false,
 PI.br true,
 PI.br true,
 PI.callr (bv (decide (0 ≤ p) && decide (p ≤ 4))),
 PI.br true,
 PI.br false,
 PI.br true,
 PI.br true,
 PI.br true,
 PI.br false], .br true, .r [] []])
                (ob := [VC Try.prog 119
  [AV.lit (Value.int IntKind.i64 n), AV.lit (Value.int IntKind.i64 1), AV.lit (Value.int IntKind.i64 1024)]
  (AV.lit (Value.bool (decide (1 ≤ n) && decide (n ≤ 1024)))),
                  (!(decide (1 ≤ n) && decide (n ≤ 1024))) = false,
                  (!(decide (1 ≤ n) && decide (n ≤ 1024))) = false,
                  VC Try.prog 119
  [AV.lit (Value.int IntKind.i64 k), AV.lit (Value.int IntKind.i64 1), AV.lit (Value.int IntKind.i64 5)]
  (AV.lit (Value.bool (decide (1 ≤ k) && decide (k ≤ 5)))),
                  (!(decide (1 ≤ n) && decide (n ≤ 1024))) = false,
                  (!(decide (1 ≤ n) && decide (n ≤ 1024))) = false,
                  (!(decide (1 ≤ k) && decide (k ≤ 5))) = false,
                  (!(decide (1 ≤ k) && decide (k ≤ 5))) = false,
                  VC Try.prog 119
  [AV.lit (Value.int IntKind.i64 s), AV.lit (Value.int IntKind.i64 1), AV.lit (Value.int IntKind.i64 4)]
  (AV.lit (Value.bool (decide (1 ≤ s) && decide (s ≤ 4)))),
                  (!(decide (1 ≤ k) && decide (k ≤ 5))) = false,
                  (!(decide (1 ≤ k) && decide (k ≤ 5))) = false,
                  (!(decide (1 ≤ s) && decide (s ≤ 4))) = false,
                  (!(decide (1 ≤ s) && decide (s ≤ 4))) = false,
                  VC Try.prog 119
  [AV.lit (Value.int IntKind.i64 p), AV.lit (Value.int IntKind.i64 0), AV.lit (Value.int IntKind.i64 4)]
  (AV.lit (Value.bool (decide (0 ≤ p) && decide (p ≤ 4)))),
                  (!(decide (1 ≤ s) && decide (s ≤ 4))) = false,
                  (!(decide (1 ≤ s) && decide (s ≤ 4))) = false,
                  (!(decide (0 ≤ p) && decide (p ≤ 4))) = false,
                  (!(decide (0 ≤ p) && decide (p ≤ 4))) = false,
                  (!(decide (0 ≤ p) && decide (p ≤ 4))) = false,
                  (!(decide (0 ≤ p) && decide (p ≤ 4))) = false,
                  decide (p ≥ k) = true]) (by kernel_rfl) ?_
              exact ⟨(@in_v (n) (1) (1024)),
                                (by with_reducible assumption),
                                (by with_reducible assumption),
                                (@in_v (k) (1) (5)),
                                (by with_reducible assumption),
                                (by with_reducible assumption),
                                (by with_reducible assumption),
                                (by with_reducible assumption),
                                (@in_v (s) (1) (4)),
                                (by with_reducible assumption),
                                (by with_reducible assumption),
                                (by with_reducible assumption),
                                (by with_reducible assumption),
                                (@in_v (p) (0) (4)),
                                (by with_reducible assumption),
                                (by with_reducible assumption),
                                (by with_reducible assumption),
                                (by with_reducible assumption),
                                (by with_reducible assumption),
                                (by with_reducible assumption),
                                (by with_reducible assumption),
                                trivial⟩
            exact hz.weak (WeakL.refl _) (Weak.tup (.cons (Weak.int (show ((0) : Int) = ((stepsE n k s
    p).fst) from (by (simp only [stepsE]; rw [if_pos (by omega)])))) (.cons (Weak.int (show ((2) : Int) = ((stepsE n k s p).snd) from (by (simp only [stepsE]; rw [if_pos (by omega)])))) .nil)))
          · have gc4 : ¬p ≥ k := of_decide_eq_false hc4
            rcases Bool.eq_false_or_eq_true (decide (k > n + 2 * p)) with hc5 | hc5
            · have gc5 : k > n + 2 * p := of_decide_eq_true hc5
              have hz : VC Try.prog 100 ([i64 n, i64 k, i64 s, i64 p]) (AV.tup [AV.lit (Value.int IntKind.i64 0), AV.lit (Value.int IntKind.i64 5)]) := by
                refine VC.run (fn := Try.f100) Try.func100 (W := [.r [] [], .r [] [PI.callr (bv (decide (1 ≤ n) && decide (n ≤ 1024))),
 PI.br true,
 PI.br true,
 PI.callr (bv (decide (1 ≤ k) && decide (k ≤ 5))),
 PI.br true,
 PI.br false,
 PI.br true,
 PI.br true,
 PI.callr (bv (decide (1 ≤ s) && decide (s ≤ 4))),
 PI.br true,
 PI.br false,
 PI.br true,
 PI.br true,
 PI.callr (bv (decide (0 ≤ p) && decide (p ≤ 4))),
 PI.br true,
 PI.br false,
 PI.br true,
 PI.br true,
 PI.br true,
 PI.br false], .br false, .r [] [PI.n (2 * p), PI.n (n + 2 * p)], .br true, .r [] []])
                  (ob := [VC Try.prog 119
  [AV.lit (Value.int IntKind.i64 n), AV.lit (Value.int IntKind.i64 1), AV.lit (Value.int IntKind.i64 1024)]
  (AV.lit (Value.bool (decide (1 ≤ n) && decide (n ≤ 1024)))),
                    (!(decide (1 ≤ n) && decide (n ≤ 1024))) = false,
                    (!(decide (1 ≤ n) && decide (n ≤ 1024))) = false,
                    VC Try.prog 119
  [AV.lit (Value.int IntKind.i64 k), AV.lit (Value.int IntKind.i64 1), AV.lit (Value.int IntKind.i64 5)]
  (AV.lit (Value.bool (decide (1 ≤ k) && decide (k ≤ 5)))),
                    (!(decide (1 ≤ n) && decide (n ≤ 1024))) = false,
                    (!(decide (1 ≤ n) && decide (n ≤ 1024))) = false,
                    (!(decide (1 ≤ k) && decide (k ≤ 5))) = false,
                    (!(decide (1 ≤ k) && decide (k ≤ 5))) = false,
                    VC Try.prog 119
  [AV.lit (Value.int IntKind.i64 s), AV.lit (Value.int IntKind.i64 1), AV.lit (Value.int IntKind.i64 4)]
  (AV.lit (Value.bool (decide (1 ≤ s) && decide (s ≤ 4)))),
                    (!(decide (1 ≤ k) && decide (k ≤ 5))) = false,
                    (!(decide (1 ≤ k) && decide (k ≤ 5))) = false,
                    (!(decide (1 ≤ s) && decide (s ≤ 4))) = false,
                    (!(decide (1 ≤ s) && decide (s ≤ 4))) = false,
                    VC Try.prog 119
  [AV.lit (Value.int IntKind.i64 p), AV.lit (Value.int IntKind.i64 0), AV.lit (Value.int IntKind.i64 4)]
  (AV.lit (Value.bool (decide (0 ≤ p) && decide (p ≤ 4)))),
                    (!(decide (1 ≤ s) && decide (s ≤ 4))) = false,
                    (!(decide (1 ≤ s) && decide (s ≤ 4))) = false,
                    (!(decide (0 ≤ p) && decide (p ≤ 4))) = false,
                    (!(decide (0 ≤ p) && decide (p ≤ 4))) = false,
                    (!(decide (0 ≤ p) && decide (p ≤ 4))) = false,
                    (!(decide (0 ≤ p) && decide (p ≤ 4))) = false,
                    decide (p ≥ k) = false,
                    IntKind.i64.wrap (2 * p) = 2 * p,
                    IntKind.i64.wrap (n + 2 * p) = n + 2 * p,
                    decide (k > n + 2 * p) = true]) (by kernel_rfl) ?_
                exact ⟨(@in_v (n) (1) (1024)),
                                    (by with_reducible assumption),
                                    (by with_reducible assumption),
                                    (@in_v (k) (1) (5)),
                                    (by with_reducible assumption),
                                    (by with_reducible assumption),
                                    (by with_reducible assumption),
                                    (by with_reducible assumption),
                                    (@in_v (s) (1) (4)),
                                    (by with_reducible assumption),
                                    (by with_reducible assumption),
                                    (by with_reducible assumption),
                                    (by with_reducible assumption),
                                    (@in_v (p) (0) (4)),
                                    (by with_reducible assumption),
                                    (by with_reducible assumption),
                                    (by with_reducible assumption),
                                    (by with_reducible assumption),
                                    (by with_reducible assumption),
                                    (by with_reducible assumption),
                                    (by with_reducible assumption),
                                    (by exact IntWalk.i64_in _ (by omega)),
                                    (by exact IntWalk.i64_in _ (by omega)),
                                    (by with_reducible assumption),
                                    trivial⟩
              exact hz.weak (WeakL.refl _) (Weak.tup (.cons (Weak.int (show ((0) : Int) = ((stepsE n k s
    p).fst) from (by (simp only [stepsE]; rw [if_neg (by omega), if_pos (by omega)])))) (.cons (Weak.int (show ((5) : Int) = ((stepsE n k s p).snd) from (by (simp only [stepsE]; rw [if_neg (by omega), if_pos (by omega)])))) .nil)))
            · have gc5 : ¬k > n + 2 * p := of_decide_eq_false hc5
              have hz : VC Try.prog 100 ([i64 n, i64 k, i64 s, i64 p]) (AV.tup [AV.lit (Value.int IntKind.i64 ((n + 2 * p - k) / s + 1)), AV.lit (Value.int IntKind.i64 0)]) := by
                refine VC.run (fn := Try.f100) Try.func100 (W := [.r [] [], .r [] [PI.callr (bv (decide (1 ≤ n) && decide (n ≤ 1024))),
 PI.br true,
 PI.br true,
 PI.callr (bv (decide (1 ≤ k) && decide (k ≤ 5))),
 PI.br true,
 PI.br false,
 PI.br true,
 PI.br true,
 PI.callr (bv (decide (1 ≤ s) && decide (s ≤ 4))),
 PI.br true,
 PI.br false,
 PI.br true,
 PI.br true,
 PI.callr (bv (decide (0 ≤ p) && decide (p ≤ 4))),
 PI.br true,
 PI.br false,
 PI.br true,
 PI.br true,
 PI.br true,
 PI.br
   false], .br false, .r [] [PI.n (2 * p),
 PI.n
   (n +
     2 *
       p)], .br false, .r [] [PI.n (2 * p),
 PI.n (n + 2 * p),
 PI.n (n + 2 * p - k),
 PI.n ((n + 2 * p - k) / s),
 PI.n ((n + 2 * p - k) / s + 1)]])
                  (ob := [VC Try.prog 119
  [AV.lit (Value.int IntKind.i64 n), AV.lit (Value.int IntKind.i64 1), AV.lit (Value.int IntKind.i64 1024)]
  (AV.lit (Value.bool (decide (1 ≤ n) && decide (n ≤ 1024)))),
                    (!(decide (1 ≤ n) && decide (n ≤ 1024))) = false,
                    (!(decide (1 ≤ n) && decide (n ≤ 1024))) = false,
                    VC Try.prog 119
  [AV.lit (Value.int IntKind.i64 k), AV.lit (Value.int IntKind.i64 1), AV.lit (Value.int IntKind.i64 5)]
  (AV.lit (Value.bool (decide (1 ≤ k) && decide (k ≤ 5)))),
                    (!(decide (1 ≤ n) && decide (n ≤ 1024))) = false,
                    (!(decide (1 ≤ n) && decide (n ≤ 1024))) = false,
                    (!(decide (1 ≤ k) && decide (k ≤ 5))) = false,
                    (!(decide (1 ≤ k) && decide (k ≤ 5))) = false,
                    VC Try.prog 119
  [AV.lit (Value.int IntKind.i64 s), AV.lit (Value.int IntKind.i64 1), AV.lit (Value.int IntKind.i64 4)]
  (AV.lit (Value.bool (decide (1 ≤ s) && decide (s ≤ 4)))),
                    (!(decide (1 ≤ k) && decide (k ≤ 5))) = false,
                    (!(decide (1 ≤ k) && decide (k ≤ 5))) = false,
                    (!(decide (1 ≤ s) && decide (s ≤ 4))) = false,
                    (!(decide (1 ≤ s) && decide (s ≤ 4))) = false,
                    VC Try.prog 119
  [AV.lit (Value.int IntKind.i64 p), AV.lit (Value.int IntKind.i64 0), AV.lit (Value.int IntKind.i64 4)]
  (AV.lit (Value.bool (decide (0 ≤ p) && decide (p ≤ 4)))),
                    (!(decide (1 ≤ s) && decide (s ≤ 4))) = false,
                    (!(decide (1 ≤ s) && decide (s ≤ 4))) = false,
                    (!(decide (0 ≤ p) && decide (p ≤ 4))) = false,
                    (!(decide (0 ≤ p) && decide (p ≤ 4))) = false,
                    (!(decide (0 ≤ p) && decide (p ≤ 4))) = false,
                    (!(decide (0 ≤ p) && decide (p ≤ 4))) = false,
                    decide (p ≥ k) = false,
                    IntKind.i64.wrap (2 * p) = 2 * p,
                    IntKind.i64.wrap (n + 2 * p) = n + 2 * p,
                    decide (k > n + 2 * p) = false,
                    IntKind.i64.wrap (2 * p) = 2 * p,
                    IntKind.i64.wrap (n + 2 * p) = n + 2 * p,
                    IntKind.i64.wrap (n + 2 * p - k) = n + 2 * p - k,
                    s ≠ 0,
                    IntKind.i64.wrap ((n + 2 * p - k).tdiv s) = (n + 2 * p - k) / s,
                    IntKind.i64.wrap ((n + 2 * p - k) / s + 1) = (n + 2 * p - k) / s + 1]) (by kernel_rfl) ?_
                exact ⟨(@in_v (n) (1) (1024)),
                                    (by with_reducible assumption),
                                    (by with_reducible assumption),
                                    (@in_v (k) (1) (5)),
                                    (by with_reducible assumption),
                                    (by with_reducible assumption),
                                    (by with_reducible assumption),
                                    (by with_reducible assumption),
                                    (@in_v (s) (1) (4)),
                                    (by with_reducible assumption),
                                    (by with_reducible assumption),
                                    (by with_reducible assumption),
                                    (by with_reducible assumption),
                                    (@in_v (p) (0) (4)),
                                    (by with_reducible assumption),
                                    (by with_reducible assumption),
                                    (by with_reducible assumption),
                                    (by with_reducible assumption),
                                    (by with_reducible assumption),
                                    (by with_reducible assumption),
                                    (by with_reducible assumption),
                                    (by exact IntWalk.i64_in _ (by omega)),
                                    (by exact IntWalk.i64_in _ (by omega)),
                                    (by with_reducible assumption),
                                    (by exact IntWalk.i64_in _ (by omega)),
                                    (by exact IntWalk.i64_in _ (by omega)),
                                    (by exact IntWalk.i64_in _ (by omega)),
                                    (by omega),
                                    (Eq.trans (congrArg _ (Int.tdiv_eq_ediv_of_nonneg (by omega))) (by with_reducible exact IntWalk.i64_in _ (by have := div4 (n + 2 * p - k) s (by omega) (by omega) (by omega); omega))),
                                    (by with_reducible exact IntWalk.i64_in _ (by have := div4 (n + 2 * p - k) s (by omega) (by omega) (by omega); omega)),
                                    trivial⟩
              exact hz.weak (WeakL.refl _) (Weak.tup (.cons (Weak.int (show (((n + 2 * p - k) / s +
  1) : Int) = ((stepsE n k s
    p).fst) from (by (simp only [stepsE]; rw [if_neg (by omega), if_neg (by omega)])))) (.cons (Weak.int (show ((0) : Int) = ((stepsE n k s p).snd) from (by (simp only [stepsE]; rw [if_neg (by omega), if_neg (by omega)])))) .nil)))
theorem succ_mul' (k : Nat) (s : Int) : ((k + 1 : Nat) : Int) * s = k * s + s := by rw [Int.natCast_add, Int.add_mul]; simp
/-- So often. -/
def stepsM (n w s p : Int) : Nat := (if n + 2 * p < w then 0 else (n + 2 * p - w) / s + 1).toNat
structure StepsOk (n w s p : Int) : Prop where
  n0 : 1 ≤ n
  n1 : n ≤ 1024
  w0 : 1 ≤ w
  w1 : w ≤ 5
  s0 : 1 ≤ s
  s1 : s ≤ 4
  p0 : 0 ≤ p
  p1 : p ≤ 4
theorem stepsM_le {n w s p : Int} (h : StepsOk n w s p) : (stepsM n w s p : Int) ≤ 1040 := by
  obtain ⟨h1, h2, h3, h4, h5, h6, h7, h8⟩ := h
  unfold stepsM
  split
  · simp
  · have := div4 (n + 2 * p - w) s (by omega) (by omega) h5
    have h9 := Int.ediv_le_self s (show 0 ≤ n + 2 * p - w by omega)
    omega
theorem stepsM_lt {n w s p : Int} (h : StepsOk n w s p) {k : Nat} (hk : k < stepsM n w s p) : (k : Int) * s - p + w ≤ n + p := by
  obtain ⟨h1, h2, h3, h4, h5, h6, h7, h8⟩ := h
  unfold stepsM at hk
  split at hk
  · simp at hk
  · have h10 : (k : Int) ≤ (n + 2 * p - w) / s := by omega
    have h9 := Int.mul_le_of_le_ediv (by omega : 0 < s) h10
    omega
theorem stepsM_end {n w s p : Int} (h : StepsOk n w s p) : n + p < (stepsM n w s p : Int) * s - p + w := by
  obtain ⟨h1, h2, h3, h4, h5, h6, h7, h8⟩ := h
  unfold stepsM
  split
  · simp; omega
  · have h9 := Int.lt_ediv_add_one_mul_self (n + 2 * p - w) (by omega : 0 < s)
    have h10 := div4 (n + 2 * p - w) s (by omega) (by omega) h5
    rw [Int.toNat_of_nonneg (by omega)]
    omega
noncomputable def refSteps_l_I (n w s p : Int) (k : Nat) : VS := stt 64 [(0, i64 n), (1, i64 w), (2, i64 s), (3, i64 p), (10, i64 k), (11, i64 (k * s - p))] []
noncomputable def refSteps_l_Z (n w s p : Int) : VS := refSteps_l_I n w s p (stepsM n w s p)
set_option maxRecDepth 100000 in
set_option maxHeartbeats 2000000 in
theorem refSteps_l_s (n w s p : Int) (h : StepsOk n w s p) (k : Nat) (hk : k < stepsM n w s p) : VT Try.prog (fnC Try.f101 [1, 1, 1, 0, 1, 0, 0]) (refSteps_l_I n w s p k) .normal (refSteps_l_I n w s p (k + 1)) := by
  have h0 := stepsM_lt h hk
  have h2 : 0 ≤ (k : Int) * s := Int.mul_nonneg (by omega) (by have := h.s0; omega)
  have h1 := stepsM_le h
  obtain ⟨g1, g2, g3, g4, g5, g6, g7, g8⟩ := h
  refine VT.run (W := [.r [] [PI.n ((↑k : Int) * s - p + w),
 PI.n (n + p)], .br true, .r [] [PI.n ((↑k : Int) + 1)], .r [] [PI.n ((↑k : Int) * s - p + s)]]) (G := [GI.any [49, 50, 51, 52, 53, 54, 55, 56, 57, 58, 59, 60],
  GI.weak 10 (AV.lit (Value.int IntKind.i64 (↑(k + 1) : Int))),
  GI.weak 11 (AV.lit (Value.int IntKind.i64 ((↑(k + 1) : Int) * s - p))), GI.sort])
    (ob := [IntKind.i64.wrap ((↑k : Int) * s - p + w) = (↑k : Int) * s - p + w,
        IntKind.i64.wrap (n + p) = n + p,
        decide ((↑k : Int) * s - p + w ≤ n + p) = true,
        IntKind.i64.wrap ((↑k : Int) + 1) = (↑k : Int) + 1,
        IntKind.i64.wrap ((↑k : Int) * s - p + s) = (↑k : Int) * s - p + s,
        Weak (AV.lit (Value.int IntKind.i64 ((↑k : Int) + 1))) (AV.lit (Value.int IntKind.i64 (↑(k + 1) : Int))),
        Weak (AV.lit (Value.int IntKind.i64 ((↑k : Int) * s - p + s)))
  (AV.lit (Value.int IntKind.i64 ((↑(k + 1) : Int) * s - p)))]) (by kernel_rfl) ?_
  exact ⟨(by exact IntWalk.i64_in _ (by omega)),
          (by exact IntWalk.i64_in _ (by omega)),
          (by (refine decide_eq_true ?_; omega)),
          (by exact IntWalk.i64_in _ (by omega)),
          (by exact IntWalk.i64_in _ (by omega)),
          (Weak.int (show (((↑k : Int) + 1) : Int) = ((↑(k + 1) : Int)) from (by omega))),
          (Weak.int (show (((↑k : Int) * s - p + s) : Int) = ((↑(k + 1) : Int) * s - p) from (by (rw [succ_mul']; omega)))),
          trivial⟩
set_option maxRecDepth 100000 in
set_option maxHeartbeats 2000000 in
theorem refSteps_l_e (n w s p : Int) (h : StepsOk n w s p) : VT Try.prog (fnC Try.f101 [1, 1, 1, 0, 1, 0, 0]) (refSteps_l_I n w s p (stepsM n w s p)) (.exit 0) (refSteps_l_Z n w s p) := by
  have h0 := stepsM_end h
  have h3 : 0 ≤ (stepsM n w s p : Int) * s := Int.mul_nonneg (by omega) (by have := h.s0; omega)
  have h1 := stepsM_le h
  have h2 : (stepsM n w s p : Int) * s ≤ 1040 * 4 := Int.mul_le_mul h1 h.s1 (by have := h.s0; omega) (by omega)
  obtain ⟨g1, g2, g3, g4, g5, g6, g7, g8⟩ := h
  refine VT.run (W := [.r [] [PI.n ((↑(stepsM n w s p) : Int) * s - p + w), PI.n (n + p)], .br false]) (G := [GI.any [49, 50, 51, 52, 53, 54, 55], GI.sort])
    (ob := [IntKind.i64.wrap ((↑(stepsM n w s p) : Int) * s - p + w) = (↑(stepsM n w s p) : Int) * s - p + w,
        IntKind.i64.wrap (n + p) = n + p,
        decide ((↑(stepsM n w s p) : Int) * s - p + w ≤ n + p) = false]) (by kernel_rfl) ?_
  exact ⟨(by exact IntWalk.i64_in _ (by omega)),
          (by exact IntWalk.i64_in _ (by omega)),
          (by (refine decide_eq_false ?_; omega)),
          trivial⟩
theorem refSteps_l (n w s p : Int) (h : StepsOk n w s p) : VT Try.prog (fnC Try.f101 [1, 1, 1, 0, 1, 0]) (refSteps_l_I n w s p 0) (.exit 0) (refSteps_l_Z n w s p) :=
  VT.loop (fun k => refSteps_l_I n w s p k) (stepsM n w s p) (fun k hk => refSteps_l_s n w s p h k hk) (refSteps_l_e n w s p h) (by intro h; cases h)
theorem stepsE_ok {n w s p : Int} (h : StepsOk n w s p) (hw : p < w) : (if (stepsM n w s p : Int) = 0 then ((0 : Int), (5 : Int)) else ((stepsM n w s p : Int), 0)) = stepsE n w s p := by
  have hd := div4 (n + 2 * p - w) s
  obtain ⟨h1, h2, h3, h4, h5, h6, h7, h8⟩ := h
  unfold stepsM stepsE
  rw [if_neg (by omega : ¬ (n < 1 ∨ 1024 < n ∨ w < 1 ∨ 5 < w ∨ s < 1 ∨ 4 < s ∨ p < 0 ∨ 4 < p ∨ w ≤ p))]
  by_cases h : n + 2 * p < w
  · rw [if_pos h, if_pos h]; simp
  · have := hd (by omega) (by omega) h5
    rw [if_neg h, if_neg h, if_neg (by omega)]
    rw [Int.toNat_of_nonneg (by omega)]
set_option maxRecDepth 100000 in
set_option maxHeartbeats 2000000 in
theorem refSteps_v (n k s p : Int)  : VC Try.prog 101 ([i64 n, i64 k, i64 s, i64 p]) (.tup [i64 (stepsE n k s p).1, i64 (stepsE n k s p).2]) := by
  rcases Bool.eq_false_or_eq_true (decide (n < 1)) with hc0 | hc0
  · have gc0 : n < 1 := of_decide_eq_true hc0
    have hz : VC Try.prog 101 ([i64 n, i64 k, i64 s, i64 p]) (AV.tup [AV.lit (Value.int IntKind.i64 0), AV.lit (Value.int IntKind.i64 2)]) := by
      refine VC.run (fn := Try.f101) Try.func101 (W := [.r [] [], .r [] [PI.br false,
 PI.br false,
 PI.br true,
 PI.br false,
 PI.br false,
 PI.br true,
 PI.br false,
 PI.br false,
 PI.br true,
 PI.br false,
 PI.br false,
 PI.br true,
 PI.br false,
 PI.br false,
 PI.br true,
 PI.br false,
 PI.br false,
 PI.br true,
 PI.br false,
 PI.br false,
 PI.br true,
 PI.br false,
 PI.br false,
 PI.br false,
 PI.br true], .br true, .r [] []])
        (ob := [decide (n < 1) = !false,
          decide (n < 1) = !false,
          decide (n < 1) = true,
          true = !false,
          true = !false,
          true = true,
          true = !false,
          true = !false,
          true = true,
          true = !false,
          true = !false,
          true = true,
          true = !false,
          true = !false,
          true = true,
          true = !false,
          true = !false,
          true = true,
          true = !false,
          true = !false,
          true = true,
          true = !false,
          true = !false,
          true = !false,
          true = true,
          true = true]) (by kernel_rfl) ?_
      exact ⟨(by (refine decide_eq_true ?_; omega)),
                (by (refine decide_eq_true ?_; omega)),
                (by with_reducible assumption),
                (by (constructor <;> omega)),
                (by (constructor <;> omega)),
                (by with_reducible rfl),
                (by (constructor <;> omega)),
                (by (constructor <;> omega)),
                (by with_reducible rfl),
                (by (constructor <;> omega)),
                (by (constructor <;> omega)),
                (by with_reducible rfl),
                (by (constructor <;> omega)),
                (by (constructor <;> omega)),
                (by with_reducible rfl),
                (by (constructor <;> omega)),
                (by (constructor <;> omega)),
                (by with_reducible rfl),
                (by (constructor <;> omega)),
                (by (constructor <;> omega)),
                (by with_reducible rfl),
                (by (constructor <;> omega)),
                (by (constructor <;> omega)),
                (by (constructor <;> omega)),
                (by with_reducible rfl),
                (by with_reducible rfl),
                trivial⟩
    exact hz.weak (WeakL.refl _) (Weak.tup (.cons (Weak.int (show ((0) : Int) = ((stepsE n k s
    p).fst) from (by (simp only [stepsE]; rw [if_pos (by omega)])))) (.cons (Weak.int (show ((2) : Int) = ((stepsE n k s p).snd) from (by (simp only [stepsE]; rw [if_pos (by omega)])))) .nil)))
  · have gc0 : ¬n < 1 := of_decide_eq_false hc0
    rcases Bool.eq_false_or_eq_true (decide (n > 1024)) with hc1 | hc1
    · have gc1 : n > 1024 := of_decide_eq_true hc1
      have hz : VC Try.prog 101 ([i64 n, i64 k, i64 s, i64 p]) (AV.tup [AV.lit (Value.int IntKind.i64 0), AV.lit (Value.int IntKind.i64 2)]) := by
        refine VC.run (fn := Try.f101) Try.func101 (W := [.r [] [], .r [] [PI.br true,
 PI.br true,
 PI.br false,
 PI.br false,
 PI.br false,
 PI.br true,
 PI.br false,
 PI.br false,
 PI.br true,
 PI.br false,
 PI.br false,
 PI.br true,
 PI.br false,
 PI.br false,
 PI.br true,
 PI.br false,
 PI.br false,
 PI.br true,
 PI.br false,
 PI.br false,
 PI.br true,
 PI.br false,
 PI.br false,
 PI.br false,
 PI.br true], .br true, .r [] []])
          (ob := [decide (n < 1) = false,
            decide (n < 1) = false,
            decide (n < 1) = false,
            decide (n > 1024) = !false,
            decide (n > 1024) = !false,
            decide (n > 1024) = true,
            true = !false,
            true = !false,
            true = true,
            true = !false,
            true = !false,
            true = true,
            true = !false,
            true = !false,
            true = true,
            true = !false,
            true = !false,
            true = true,
            true = !false,
            true = !false,
            true = true,
            true = !false,
            true = !false,
            true = !false,
            true = true,
            true = true]) (by kernel_rfl) ?_
        exact ⟨(by with_reducible assumption),
                    (by with_reducible assumption),
                    (by with_reducible assumption),
                    (by (refine decide_eq_true ?_; omega)),
                    (by (refine decide_eq_true ?_; omega)),
                    (by with_reducible assumption),
                    (by (constructor <;> omega)),
                    (by (constructor <;> omega)),
                    (by with_reducible rfl),
                    (by (constructor <;> omega)),
                    (by (constructor <;> omega)),
                    (by with_reducible rfl),
                    (by (constructor <;> omega)),
                    (by (constructor <;> omega)),
                    (by with_reducible rfl),
                    (by (constructor <;> omega)),
                    (by (constructor <;> omega)),
                    (by with_reducible rfl),
                    (by (constructor <;> omega)),
                    (by (constructor <;> omega)),
                    (by with_reducible rfl),
                    (by (constructor <;> omega)),
                    (by (constructor <;> omega)),
                    (by (constructor <;> omega)),
                    (by with_reducible rfl),
                    (by with_reducible rfl),
                    trivial⟩
      exact hz.weak (WeakL.refl _) (Weak.tup (.cons (Weak.int (show ((0) : Int) = ((stepsE n k s
    p).fst) from (by (simp only [stepsE]; rw [if_pos (by omega)])))) (.cons (Weak.int (show ((2) : Int) = ((stepsE n k s p).snd) from (by (simp only [stepsE]; rw [if_pos (by omega)])))) .nil)))
    · have gc1 : ¬n > 1024 := of_decide_eq_false hc1
      rcases Bool.eq_false_or_eq_true (decide (k < 1)) with hc2 | hc2
      · have gc2 : k < 1 := of_decide_eq_true hc2
        have hz : VC Try.prog 101 ([i64 n, i64 k, i64 s, i64 p]) (AV.tup [AV.lit (Value.int IntKind.i64 0), AV.lit (Value.int IntKind.i64 2)]) := by
          refine VC.run (fn := Try.f101) Try.func101 (W := [.r [] [], .r [] [PI.br true,
 PI.br true,
 PI.br false,
 PI.br true,
 PI.br true,
 PI.br false,
 PI.br false,
 PI.br false,
 PI.br true,
 PI.br false,
 PI.br false,
 PI.br true,
 PI.br false,
 PI.br false,
 PI.br true,
 PI.br false,
 PI.br false,
 PI.br true,
 PI.br false,
 PI.br false,
 PI.br true,
 PI.br false,
 PI.br false,
 PI.br false,
 PI.br true], .br true, .r [] []])
            (ob := [decide (n < 1) = false,
              decide (n < 1) = false,
              decide (n < 1) = false,
              decide (n > 1024) = false,
              decide (n > 1024) = false,
              decide (n > 1024) = false,
              decide (k < 1) = !false,
              decide (k < 1) = !false,
              decide (k < 1) = true,
              true = !false,
              true = !false,
              true = true,
              true = !false,
              true = !false,
              true = true,
              true = !false,
              true = !false,
              true = true,
              true = !false,
              true = !false,
              true = true,
              true = !false,
              true = !false,
              true = !false,
              true = true,
              true = true]) (by kernel_rfl) ?_
          exact ⟨(by with_reducible assumption),
                        (by with_reducible assumption),
                        (by with_reducible assumption),
                        (by with_reducible assumption),
                        (by with_reducible assumption),
                        (by with_reducible assumption),
                        (by (refine decide_eq_true ?_; omega)),
                        (by (refine decide_eq_true ?_; omega)),
                        (by with_reducible assumption),
                        (by (constructor <;> omega)),
                        (by (constructor <;> omega)),
                        (by with_reducible rfl),
                        (by (constructor <;> omega)),
                        (by (constructor <;> omega)),
                        (by with_reducible rfl),
                        (by (constructor <;> omega)),
                        (by (constructor <;> omega)),
                        (by with_reducible rfl),
                        (by (constructor <;> omega)),
                        (by (constructor <;> omega)),
                        (by with_reducible rfl),
                        (by (constructor <;> omega)),
                        (by (constructor <;> omega)),
                        (by (constructor <;> omega)),
                        (by with_reducible rfl),
                        (by with_reducible rfl),
                        trivial⟩
        exact hz.weak (WeakL.refl _) (Weak.tup (.cons (Weak.int (show ((0) : Int) = ((stepsE n k s
    p).fst) from (by (simp only [stepsE]; rw [if_pos (by omega)])))) (.cons (Weak.int (show ((2) : Int) = ((stepsE n k s p).snd) from (by (simp only [stepsE]; rw [if_pos (by omega)])))) .nil)))
      · have gc2 : ¬k < 1 := of_decide_eq_false hc2
        rcases Bool.eq_false_or_eq_true (decide (k > 5)) with hc3 | hc3
        · have gc3 : k > 5 := of_decide_eq_true hc3
          have hz : VC Try.prog 101 ([i64 n, i64 k, i64 s, i64 p]) (AV.tup [AV.lit (Value.int IntKind.i64 0), AV.lit (Value.int IntKind.i64 2)]) := by
            refine VC.run (fn := Try.f101) Try.func101 (W := [.r [] [], .r [] [PI.br true,
 PI.br true,
 PI.br false,
 PI.br true,
 PI.br true,
 PI.br false,
 PI.br true,
 PI.br true,
 PI.br false,
 PI.br false,
 PI.br false,
 PI.br true,
 PI.br false,
 PI.br false,
 PI.br true,
 PI.br false,
 PI.br false,
 PI.br true,
 PI.br false,
 PI.br false,
 PI.br true,
 PI.br false,
 PI.br false,
 PI.br false,
 PI.br true], .br true, .r [] []])
              (ob := [decide (n < 1) = false,
                decide (n < 1) = false,
                decide (n < 1) = false,
                decide (n > 1024) = false,
                decide (n > 1024) = false,
                decide (n > 1024) = false,
                decide (k < 1) = false,
                decide (k < 1) = false,
                decide (k < 1) = false,
                decide (k > 5) = !false,
                decide (k > 5) = !false,
                decide (k > 5) = true,
                true = !false,
                true = !false,
                true = true,
                true = !false,
                true = !false,
                true = true,
                true = !false,
                true = !false,
                true = true,
                true = !false,
                true = !false,
                true = !false,
                true = true,
                true = true]) (by kernel_rfl) ?_
            exact ⟨(by with_reducible assumption),
                            (by with_reducible assumption),
                            (by with_reducible assumption),
                            (by with_reducible assumption),
                            (by with_reducible assumption),
                            (by with_reducible assumption),
                            (by with_reducible assumption),
                            (by with_reducible assumption),
                            (by with_reducible assumption),
                            (by (refine decide_eq_true ?_; omega)),
                            (by (refine decide_eq_true ?_; omega)),
                            (by with_reducible assumption),
                            (by (constructor <;> omega)),
                            (by (constructor <;> omega)),
                            (by with_reducible rfl),
                            (by (constructor <;> omega)),
                            (by (constructor <;> omega)),
                            (by with_reducible rfl),
                            (by (constructor <;> omega)),
                            (by (constructor <;> omega)),
                            (by with_reducible rfl),
                            (by (constructor <;> omega)),
                            (by (constructor <;> omega)),
                            (by (constructor <;> omega)),
                            (by with_reducible rfl),
                            (by with_reducible rfl),
                            trivial⟩
          exact hz.weak (WeakL.refl _) (Weak.tup (.cons (Weak.int (show ((0) : Int) = ((stepsE n k s
    p).fst) from (by (simp only [stepsE]; rw [if_pos (by omega)])))) (.cons (Weak.int (show ((2) : Int) = ((stepsE n k s p).snd) from (by (simp only [stepsE]; rw [if_pos (by omega)])))) .nil)))
        · have gc3 : ¬k > 5 := of_decide_eq_false hc3
          rcases Bool.eq_false_or_eq_true (decide (s < 1)) with hc4 | hc4
          · have gc4 : s < 1 := of_decide_eq_true hc4
            have hz : VC Try.prog 101 ([i64 n, i64 k, i64 s, i64 p]) (AV.tup [AV.lit (Value.int IntKind.i64 0), AV.lit (Value.int IntKind.i64 2)]) := by
              refine VC.run (fn := Try.f101) Try.func101 (W := [.r [] [], .r [] [PI.br true,
 PI.br true,
 PI.br false,
 PI.br true,
 PI.br true,
 PI.br false,
 PI.br true,
 PI.br true,
 PI.br false,
 PI.br true,
 PI.br true,
 PI.br false,
 PI.br false,
 PI.br false,
 PI.br true,
 PI.br false,
 PI.br false,
 PI.br true,
 PI.br false,
 PI.br false,
 PI.br true,
 PI.br false,
 PI.br false,
 PI.br false,
 PI.br true], .br true, .r [] []])
                (ob := [decide (n < 1) = false,
                  decide (n < 1) = false,
                  decide (n < 1) = false,
                  decide (n > 1024) = false,
                  decide (n > 1024) = false,
                  decide (n > 1024) = false,
                  decide (k < 1) = false,
                  decide (k < 1) = false,
                  decide (k < 1) = false,
                  decide (k > 5) = false,
                  decide (k > 5) = false,
                  decide (k > 5) = false,
                  decide (s < 1) = !false,
                  decide (s < 1) = !false,
                  decide (s < 1) = true,
                  true = !false,
                  true = !false,
                  true = true,
                  true = !false,
                  true = !false,
                  true = true,
                  true = !false,
                  true = !false,
                  true = !false,
                  true = true,
                  true = true]) (by kernel_rfl) ?_
              exact ⟨(by with_reducible assumption),
                                (by with_reducible assumption),
                                (by with_reducible assumption),
                                (by with_reducible assumption),
                                (by with_reducible assumption),
                                (by with_reducible assumption),
                                (by with_reducible assumption),
                                (by with_reducible assumption),
                                (by with_reducible assumption),
                                (by with_reducible assumption),
                                (by with_reducible assumption),
                                (by with_reducible assumption),
                                (by (refine decide_eq_true ?_; omega)),
                                (by (refine decide_eq_true ?_; omega)),
                                (by with_reducible assumption),
                                (by (constructor <;> omega)),
                                (by (constructor <;> omega)),
                                (by with_reducible rfl),
                                (by (constructor <;> omega)),
                                (by (constructor <;> omega)),
                                (by with_reducible rfl),
                                (by (constructor <;> omega)),
                                (by (constructor <;> omega)),
                                (by (constructor <;> omega)),
                                (by with_reducible rfl),
                                (by with_reducible rfl),
                                trivial⟩
            exact hz.weak (WeakL.refl _) (Weak.tup (.cons (Weak.int (show ((0) : Int) = ((stepsE n k s
    p).fst) from (by (simp only [stepsE]; rw [if_pos (by omega)])))) (.cons (Weak.int (show ((2) : Int) = ((stepsE n k s p).snd) from (by (simp only [stepsE]; rw [if_pos (by omega)])))) .nil)))
          · have gc4 : ¬s < 1 := of_decide_eq_false hc4
            rcases Bool.eq_false_or_eq_true (decide (s > 4)) with hc5 | hc5
            · have gc5 : s > 4 := of_decide_eq_true hc5
              have hz : VC Try.prog 101 ([i64 n, i64 k, i64 s, i64 p]) (AV.tup [AV.lit (Value.int IntKind.i64 0), AV.lit (Value.int IntKind.i64 2)]) := by
                refine VC.run (fn := Try.f101) Try.func101 (W := [.r [] [], .r [] [PI.br true,
 PI.br true,
 PI.br false,
 PI.br true,
 PI.br true,
 PI.br false,
 PI.br true,
 PI.br true,
 PI.br false,
 PI.br true,
 PI.br true,
 PI.br false,
 PI.br true,
 PI.br true,
 PI.br false,
 PI.br false,
 PI.br false,
 PI.br true,
 PI.br false,
 PI.br false,
 PI.br true,
 PI.br false,
 PI.br false,
 PI.br false,
 PI.br true], .br true, .r [] []])
                  (ob := [decide (n < 1) = false,
                    decide (n < 1) = false,
                    decide (n < 1) = false,
                    decide (n > 1024) = false,
                    decide (n > 1024) = false,
                    decide (n > 1024) = false,
                    decide (k < 1) = false,
                    decide (k < 1) = false,
                    decide (k < 1) = false,
                    decide (k > 5) = false,
                    decide (k > 5) = false,
                    decide (k > 5) = false,
                    decide (s < 1) = false,
                    decide (s < 1) = false,
                    decide (s < 1) = false,
                    decide (s > 4) = !false,
                    decide (s > 4) = !false,
                    decide (s > 4) = true,
                    true = !false,
                    true = !false,
                    true = true,
                    true = !false,
                    true = !false,
                    true = !false,
                    true = true,
                    true = true]) (by kernel_rfl) ?_
                exact ⟨(by with_reducible assumption),
                                    (by with_reducible assumption),
                                    (by with_reducible assumption),
                                    (by with_reducible assumption),
                                    (by with_reducible assumption),
                                    (by with_reducible assumption),
                                    (by with_reducible assumption),
                                    (by with_reducible assumption),
                                    (by with_reducible assumption),
                                    (by with_reducible assumption),
                                    (by with_reducible assumption),
                                    (by with_reducible assumption),
                                    (by with_reducible assumption),
                                    (by with_reducible assumption),
                                    (by with_reducible assumption),
                                    (by (refine decide_eq_true ?_; omega)),
                                    (by (refine decide_eq_true ?_; omega)),
                                    (by with_reducible assumption),
                                    (by (constructor <;> omega)),
                                    (by (constructor <;> omega)),
                                    (by with_reducible rfl),
                                    (by (constructor <;> omega)),
                                    (by (constructor <;> omega)),
                                    (by (constructor <;> omega)),
                                    (by with_reducible rfl),
                                    (by with_reducible rfl),
                                    trivial⟩
              exact hz.weak (WeakL.refl _) (Weak.tup (.cons (Weak.int (show ((0) : Int) = ((stepsE n k s
    p).fst) from (by (simp only [stepsE]; rw [if_pos (by omega)])))) (.cons (Weak.int (show ((2) : Int) = ((stepsE n k s p).snd) from (by (simp only [stepsE]; rw [if_pos (by omega)])))) .nil)))
            · have gc5 : ¬s > 4 := of_decide_eq_false hc5
              rcases Bool.eq_false_or_eq_true (decide (p < 0)) with hc6 | hc6
              · have gc6 : p < 0 := of_decide_eq_true hc6
                have hz : VC Try.prog 101 ([i64 n, i64 k, i64 s, i64 p]) (AV.tup [AV.lit (Value.int IntKind.i64 0), AV.lit (Value.int IntKind.i64 2)]) := by
                  refine VC.run (fn := Try.f101) Try.func101 (W := [.r [] [], .r [] [PI.br true,
 PI.br true,
 PI.br false,
 PI.br true,
 PI.br true,
 PI.br false,
 PI.br true,
 PI.br true,
 PI.br false,
 PI.br true,
 PI.br true,
 PI.br false,
 PI.br true,
 PI.br true,
 PI.br false,
 PI.br true,
 PI.br true,
 PI.br false,
 PI.br false,
 PI.br false,
 PI.br true,
 PI.br false,
 PI.br false,
 PI.br false,
 PI.br true], .br true, .r [] []])
                    (ob := [decide (n < 1) = false,
                      decide (n < 1) = false,
                      decide (n < 1) = false,
                      decide (n > 1024) = false,
                      decide (n > 1024) = false,
                      decide (n > 1024) = false,
                      decide (k < 1) = false,
                      decide (k < 1) = false,
                      decide (k < 1) = false,
                      decide (k > 5) = false,
                      decide (k > 5) = false,
                      decide (k > 5) = false,
                      decide (s < 1) = false,
                      decide (s < 1) = false,
                      decide (s < 1) = false,
                      decide (s > 4) = false,
                      decide (s > 4) = false,
                      decide (s > 4) = false,
                      decide (p < 0) = !false,
                      decide (p < 0) = !false,
                      decide (p < 0) = true,
                      true = !false,
                      true = !false,
                      true = !false,
                      true = true,
                      true = true]) (by kernel_rfl) ?_
                  exact ⟨(by with_reducible assumption),
                                        (by with_reducible assumption),
                                        (by with_reducible assumption),
                                        (by with_reducible assumption),
                                        (by with_reducible assumption),
                                        (by with_reducible assumption),
                                        (by with_reducible assumption),
                                        (by with_reducible assumption),
                                        (by with_reducible assumption),
                                        (by with_reducible assumption),
                                        (by with_reducible assumption),
                                        (by with_reducible assumption),
                                        (by with_reducible assumption),
                                        (by with_reducible assumption),
                                        (by with_reducible assumption),
                                        (by with_reducible assumption),
                                        (by with_reducible assumption),
                                        (by with_reducible assumption),
                                        (by (refine decide_eq_true ?_; omega)),
                                        (by (refine decide_eq_true ?_; omega)),
                                        (by with_reducible assumption),
                                        (by (constructor <;> omega)),
                                        (by (constructor <;> omega)),
                                        (by (constructor <;> omega)),
                                        (by with_reducible rfl),
                                        (by with_reducible rfl),
                                        trivial⟩
                exact hz.weak (WeakL.refl _) (Weak.tup (.cons (Weak.int (show ((0) : Int) = ((stepsE n k s
    p).fst) from (by (simp only [stepsE]; rw [if_pos (by omega)])))) (.cons (Weak.int (show ((2) : Int) = ((stepsE n k s p).snd) from (by (simp only [stepsE]; rw [if_pos (by omega)])))) .nil)))
              · have gc6 : ¬p < 0 := of_decide_eq_false hc6
                rcases Bool.eq_false_or_eq_true (decide (p > 4)) with hc7 | hc7
                · have gc7 : p > 4 := of_decide_eq_true hc7
                  have hz : VC Try.prog 101 ([i64 n, i64 k, i64 s, i64 p]) (AV.tup [AV.lit (Value.int IntKind.i64 0), AV.lit (Value.int IntKind.i64 2)]) := by
                    refine VC.run (fn := Try.f101) Try.func101 (W := [.r [] [], .r [] [PI.br true,
 PI.br true,
 PI.br false,
 PI.br true,
 PI.br true,
 PI.br false,
 PI.br true,
 PI.br true,
 PI.br false,
 PI.br true,
 PI.br true,
 PI.br false,
 PI.br true,
 PI.br true,
 PI.br false,
 PI.br true,
 PI.br true,
 PI.br false,
 PI.br true,
 PI.br true,
 PI.br false,
 PI.br false,
 PI.br false,
 PI.br false,
 PI.br true], .br true, .r [] []])
                      (ob := [decide (n < 1) = false,
                        decide (n < 1) = false,
                        decide (n < 1) = false,
                        decide (n > 1024) = false,
                        decide (n > 1024) = false,
                        decide (n > 1024) = false,
                        decide (k < 1) = false,
                        decide (k < 1) = false,
                        decide (k < 1) = false,
                        decide (k > 5) = false,
                        decide (k > 5) = false,
                        decide (k > 5) = false,
                        decide (s < 1) = false,
                        decide (s < 1) = false,
                        decide (s < 1) = false,
                        decide (s > 4) = false,
                        decide (s > 4) = false,
                        decide (s > 4) = false,
                        decide (p < 0) = false,
                        decide (p < 0) = false,
                        decide (p < 0) = false,
                        decide (p > 4) = !false,
                        decide (p > 4) = !false,
                        decide (p > 4) = !false,
                        decide (p > 4) = true,
                        true = true]) (by kernel_rfl) ?_
                    exact ⟨(by with_reducible assumption),
                                            (by with_reducible assumption),
                                            (by with_reducible assumption),
                                            (by with_reducible assumption),
                                            (by with_reducible assumption),
                                            (by with_reducible assumption),
                                            (by with_reducible assumption),
                                            (by with_reducible assumption),
                                            (by with_reducible assumption),
                                            (by with_reducible assumption),
                                            (by with_reducible assumption),
                                            (by with_reducible assumption),
                                            (by with_reducible assumption),
                                            (by with_reducible assumption),
                                            (by with_reducible assumption),
                                            (by with_reducible assumption),
                                            (by with_reducible assumption),
                                            (by with_reducible assumption),
                                            (by with_reducible assumption),
                                            (by with_reducible assumption),
                                            (by with_reducible assumption),
                                            (by (refine decide_eq_true ?_; omega)),
                                            (by (refine decide_eq_true ?_; omega)),
                                            (by (refine decide_eq_true ?_; omega)),
                                            (by with_reducible assumption),
                                            (by with_reducible rfl),
                                            trivial⟩
                  exact hz.weak (WeakL.refl _) (Weak.tup (.cons (Weak.int (show ((0) : Int) = ((stepsE n k s
    p).fst) from (by (simp only [stepsE]; rw [if_pos (by omega)])))) (.cons (Weak.int (show ((2) : Int) = ((stepsE n k s p).snd) from (by (simp only [stepsE]; rw [if_pos (by omega)])))) .nil)))
                · have gc7 : ¬p > 4 := of_decide_eq_false hc7
                  rcases Bool.eq_false_or_eq_true (decide (p ≥ k)) with hc8 | hc8
                  · have gc8 : p ≥ k := of_decide_eq_true hc8
                    have hz : VC Try.prog 101 ([i64 n, i64 k, i64 s, i64 p]) (AV.tup [AV.lit (Value.int IntKind.i64 0), AV.lit (Value.int IntKind.i64 2)]) := by
                      refine VC.run (fn := Try.f101) Try.func101 (W := [.r [] [], .r [] [PI.br true,
 PI.br true,
 PI.br false,
 PI.br true,
 PI.br true,
 PI.br false,
 PI.br true,
 PI.br true,
 PI.br false,
 PI.br true,
 PI.br true,
 PI.br false,
 PI.br true,
 PI.br true,
 PI.br false,
 PI.br true,
 PI.br true,
 PI.br false,
 PI.br true,
 PI.br true,
 PI.br false,
 PI.br true,
 PI.br true,
 PI.br true,
 PI.br false], .br true, .r [] []])
                        (ob := [decide (n < 1) = false,
                          decide (n < 1) = false,
                          decide (n < 1) = false,
                          decide (n > 1024) = false,
                          decide (n > 1024) = false,
                          decide (n > 1024) = false,
                          decide (k < 1) = false,
                          decide (k < 1) = false,
                          decide (k < 1) = false,
                          decide (k > 5) = false,
                          decide (k > 5) = false,
                          decide (k > 5) = false,
                          decide (s < 1) = false,
                          decide (s < 1) = false,
                          decide (s < 1) = false,
                          decide (s > 4) = false,
                          decide (s > 4) = false,
                          decide (s > 4) = false,
                          decide (p < 0) = false,
                          decide (p < 0) = false,
                          decide (p < 0) = false,
                          decide (p > 4) = false,
                          decide (p > 4) = false,
                          decide (p > 4) = false,
                          decide (p > 4) = false,
                          decide (p ≥ k) = true]) (by kernel_rfl) ?_
                      exact ⟨(by with_reducible assumption),
                                                (by with_reducible assumption),
                                                (by with_reducible assumption),
                                                (by with_reducible assumption),
                                                (by with_reducible assumption),
                                                (by with_reducible assumption),
                                                (by with_reducible assumption),
                                                (by with_reducible assumption),
                                                (by with_reducible assumption),
                                                (by with_reducible assumption),
                                                (by with_reducible assumption),
                                                (by with_reducible assumption),
                                                (by with_reducible assumption),
                                                (by with_reducible assumption),
                                                (by with_reducible assumption),
                                                (by with_reducible assumption),
                                                (by with_reducible assumption),
                                                (by with_reducible assumption),
                                                (by with_reducible assumption),
                                                (by with_reducible assumption),
                                                (by with_reducible assumption),
                                                (by with_reducible assumption),
                                                (by with_reducible assumption),
                                                (by with_reducible assumption),
                                                (by with_reducible assumption),
                                                (by with_reducible assumption),
                                                trivial⟩
                    exact hz.weak (WeakL.refl _) (Weak.tup (.cons (Weak.int (show ((0) : Int) = ((stepsE n k s
    p).fst) from (by (simp only [stepsE]; rw [if_pos (by omega)])))) (.cons (Weak.int (show ((2) : Int) = ((stepsE n k s p).snd) from (by (simp only [stepsE]; rw [if_pos (by omega)])))) .nil)))
                  · have gc8 : ¬p ≥ k := of_decide_eq_false hc8
                    rcases Bool.eq_false_or_eq_true ((↑(stepsM n k s p) : Int) == 0) with hc9 | hc9
                    · have gc9 : (↑(stepsM n k s p) : Int) = 0 := by first | exact hc9 | exact of_decide_eq_true hc9 | exact of_decide_eq_false hc9 | simpa [eqNums] using hc9 | (simp [eqNums] at hc9 ⊢; first | done | assumption | omega)
                      have hz : VC Try.prog 101 ([i64 n, i64 k, i64 s, i64 p]) (AV.tup [AV.lit (Value.int IntKind.i64 0), AV.lit (Value.int IntKind.i64 5)]) := by
                        refine VC.run (fn := Try.f101) Try.func101 (W := [.r [] [], .r [] [PI.br true,
 PI.br true,
 PI.br false,
 PI.br true,
 PI.br true,
 PI.br false,
 PI.br true,
 PI.br true,
 PI.br false,
 PI.br true,
 PI.br true,
 PI.br false,
 PI.br true,
 PI.br true,
 PI.br false,
 PI.br true,
 PI.br true,
 PI.br false,
 PI.br true,
 PI.br true,
 PI.br false,
 PI.br true,
 PI.br true,
 PI.br true,
 PI.br
   false], .br false, .r [] [], .r [] [PI.n
   (0 -
     p)], .code [GI.any
    [8, 9, 12, 13, 14, 15, 16, 17, 18, 19, 20, 21, 22, 23, 24, 25, 26, 27, 28, 29, 30, 31, 32, 33, 34, 35, 36, 37, 38,
      39, 40, 41, 42, 43, 44, 45, 46, 47, 48],
  GI.weak 10 (AV.lit (Value.int IntKind.i64 (↑0 : Int))),
  GI.weak 11 (AV.lit (Value.int IntKind.i64 ((↑0 : Int) * s - p))),
  GI.sort] (Exit.exit
  0) (VS.mk
  [AV.lit (Value.int IntKind.i64 n), AV.lit (Value.int IntKind.i64 k), AV.lit (Value.int IntKind.i64 s),
    AV.lit (Value.int IntKind.i64 p), AV.any, AV.any, AV.any, AV.any, AV.any, AV.any,
    AV.lit (Value.int IntKind.i64 (↑(stepsM n k s p) : Int)),
    AV.lit (Value.int IntKind.i64 ((↑(stepsM n k s p) : Int) * s - p)), AV.any, AV.any, AV.any, AV.any, AV.any, AV.any,
    AV.any, AV.any, AV.any, AV.any, AV.any, AV.any, AV.any, AV.any, AV.any, AV.any, AV.any, AV.any, AV.any, AV.any,
    AV.any, AV.any, AV.any, AV.any, AV.any, AV.any, AV.any, AV.any, AV.any, AV.any, AV.any, AV.any, AV.any, AV.any,
    AV.any, AV.any, AV.any, AV.any, AV.any, AV.any, AV.any, AV.any, AV.any, AV.any, AV.any, AV.any, AV.any, AV.any,
    AV.any, AV.any, AV.any, AV.any]
  []), .r [] [], .br true, .r [] []])
                          (ob := [decide (n < 1) = false,
                            decide (n < 1) = false,
                            decide (n < 1) = false,
                            decide (n > 1024) = false,
                            decide (n > 1024) = false,
                            decide (n > 1024) = false,
                            decide (k < 1) = false,
                            decide (k < 1) = false,
                            decide (k < 1) = false,
                            decide (k > 5) = false,
                            decide (k > 5) = false,
                            decide (k > 5) = false,
                            decide (s < 1) = false,
                            decide (s < 1) = false,
                            decide (s < 1) = false,
                            decide (s > 4) = false,
                            decide (s > 4) = false,
                            decide (s > 4) = false,
                            decide (p < 0) = false,
                            decide (p < 0) = false,
                            decide (p < 0) = false,
                            decide (p > 4) = false,
                            decide (p > 4) = false,
                            decide (p > 4) = false,
                            decide (p > 4) = false,
                            decide (p ≥ k) = false,
                            IntKind.i64.wrap (0 - p) = 0 - p,
                            Weak (AV.lit (Value.int IntKind.i64 0)) (AV.lit (Value.int IntKind.i64 (↑0 : Int))),
                            Weak (AV.lit (Value.int IntKind.i64 (0 - p))) (AV.lit (Value.int IntKind.i64 ((↑0 : Int) * s - p))),
                            VT Try.prog (fnC Try.f101 [1, 1, 1, 0, 1, 0])
  (VS.mk
                            [AV.lit (Value.int IntKind.i64 n), AV.lit (Value.int IntKind.i64 k), AV.lit (Value.int IntKind.i64 s),
                              AV.lit (Value.int IntKind.i64 p), AV.any, AV.any, AV.any, AV.any, AV.any, AV.any,
                              AV.lit (Value.int IntKind.i64 (↑0 : Int)), AV.lit (Value.int IntKind.i64 ((↑0 : Int) * s - p)), AV.any, AV.any,
                              AV.any, AV.any, AV.any, AV.any, AV.any, AV.any, AV.any, AV.any, AV.any, AV.any, AV.any, AV.any, AV.any, AV.any,
                              AV.any, AV.any, AV.any, AV.any, AV.any, AV.any, AV.any, AV.any, AV.any, AV.any, AV.any, AV.any, AV.any, AV.any,
                              AV.any, AV.any, AV.any, AV.any, AV.any, AV.any, AV.any, AV.any, AV.any, AV.any, AV.any, AV.any, AV.any, AV.any,
                              AV.any, AV.any, AV.any, AV.any, AV.any, AV.any, AV.any, AV.any]
                            [])
  (Exit.exit 0)
  (VS.mk
                            [AV.lit (Value.int IntKind.i64 n), AV.lit (Value.int IntKind.i64 k), AV.lit (Value.int IntKind.i64 s),
                              AV.lit (Value.int IntKind.i64 p), AV.any, AV.any, AV.any, AV.any, AV.any, AV.any,
                              AV.lit (Value.int IntKind.i64 (↑(stepsM n k s p) : Int)),
                              AV.lit (Value.int IntKind.i64 ((↑(stepsM n k s p) : Int) * s - p)), AV.any, AV.any, AV.any, AV.any, AV.any,
                              AV.any, AV.any, AV.any, AV.any, AV.any, AV.any, AV.any, AV.any, AV.any, AV.any, AV.any, AV.any, AV.any, AV.any,
                              AV.any, AV.any, AV.any, AV.any, AV.any, AV.any, AV.any, AV.any, AV.any, AV.any, AV.any, AV.any, AV.any, AV.any,
                              AV.any, AV.any, AV.any, AV.any, AV.any, AV.any, AV.any, AV.any, AV.any, AV.any, AV.any, AV.any, AV.any, AV.any,
                              AV.any, AV.any, AV.any, AV.any, AV.any]
                            []),
                            ((↑(stepsM n k s p) : Int) == 0) = true]) (by kernel_rfl) ?_
                        exact ⟨(by with_reducible assumption),
                                                    (by with_reducible assumption),
                                                    (by with_reducible assumption),
                                                    (by with_reducible assumption),
                                                    (by with_reducible assumption),
                                                    (by with_reducible assumption),
                                                    (by with_reducible assumption),
                                                    (by with_reducible assumption),
                                                    (by with_reducible assumption),
                                                    (by with_reducible assumption),
                                                    (by with_reducible assumption),
                                                    (by with_reducible assumption),
                                                    (by with_reducible assumption),
                                                    (by with_reducible assumption),
                                                    (by with_reducible assumption),
                                                    (by with_reducible assumption),
                                                    (by with_reducible assumption),
                                                    (by with_reducible assumption),
                                                    (by with_reducible assumption),
                                                    (by with_reducible assumption),
                                                    (by with_reducible assumption),
                                                    (by with_reducible assumption),
                                                    (by with_reducible assumption),
                                                    (by with_reducible assumption),
                                                    (by with_reducible assumption),
                                                    (by with_reducible assumption),
                                                    (by exact IntWalk.i64_in _ (by omega)),
                                                    (Weak.int (show ((0) : Int) = ((↑0 : Int)) from (by omega))),
                                                    (Weak.int (show ((0 - p) : Int) = ((↑0 : Int) * s - p) from (by omega))),
                                                    (@refSteps_l (n) (k) (s) (p) (by (constructor <;> omega))),
                                                    (by with_reducible assumption),
                                                    trivial⟩
                      exact hz.weak (WeakL.refl _) (Weak.tup (.cons (Weak.int (show ((0) : Int) = ((stepsE n k s
    p).fst) from (by (rw [← stepsE_ok (by constructor <;> omega) (by omega), if_pos (by omega)])))) (.cons (Weak.int (show ((5) : Int) = ((stepsE n k s p).snd) from (by (rw [← stepsE_ok (by constructor <;> omega) (by omega), if_pos (by omega)])))) .nil)))
                    · have gc9 : ¬(↑(stepsM n k s p) : Int) = 0 := by first | exact hc9 | exact of_decide_eq_true hc9 | exact of_decide_eq_false hc9 | simpa [eqNums] using hc9 | (simp [eqNums] at hc9 ⊢; first | done | assumption | omega)
                      have hz : VC Try.prog 101 ([i64 n, i64 k, i64 s, i64 p]) (AV.tup [AV.lit (Value.int IntKind.i64 (↑(stepsM n k s p) : Int)), AV.lit (Value.int IntKind.i64 0)]) := by
                        refine VC.run (fn := Try.f101) Try.func101 (W := [.r [] [], .r [] [PI.br true,
 PI.br true,
 PI.br false,
 PI.br true,
 PI.br true,
 PI.br false,
 PI.br true,
 PI.br true,
 PI.br false,
 PI.br true,
 PI.br true,
 PI.br false,
 PI.br true,
 PI.br true,
 PI.br false,
 PI.br true,
 PI.br true,
 PI.br false,
 PI.br true,
 PI.br true,
 PI.br false,
 PI.br true,
 PI.br true,
 PI.br true,
 PI.br
   false], .br false, .r [] [], .r [] [PI.n
   (0 -
     p)], .code [GI.any
    [8, 9, 12, 13, 14, 15, 16, 17, 18, 19, 20, 21, 22, 23, 24, 25, 26, 27, 28, 29, 30, 31, 32, 33, 34, 35, 36, 37, 38,
      39, 40, 41, 42, 43, 44, 45, 46, 47, 48],
  GI.weak 10 (AV.lit (Value.int IntKind.i64 (↑0 : Int))),
  GI.weak 11 (AV.lit (Value.int IntKind.i64 ((↑0 : Int) * s - p))),
  GI.sort] (Exit.exit
  0) (VS.mk
  [AV.lit (Value.int IntKind.i64 n), AV.lit (Value.int IntKind.i64 k), AV.lit (Value.int IntKind.i64 s),
    AV.lit (Value.int IntKind.i64 p), AV.any, AV.any, AV.any, AV.any, AV.any, AV.any,
    AV.lit (Value.int IntKind.i64 (↑(stepsM n k s p) : Int)),
    AV.lit (Value.int IntKind.i64 ((↑(stepsM n k s p) : Int) * s - p)), AV.any, AV.any, AV.any, AV.any, AV.any, AV.any,
    AV.any, AV.any, AV.any, AV.any, AV.any, AV.any, AV.any, AV.any, AV.any, AV.any, AV.any, AV.any, AV.any, AV.any,
    AV.any, AV.any, AV.any, AV.any, AV.any, AV.any, AV.any, AV.any, AV.any, AV.any, AV.any, AV.any, AV.any, AV.any,
    AV.any, AV.any, AV.any, AV.any, AV.any, AV.any, AV.any, AV.any, AV.any, AV.any, AV.any, AV.any, AV.any, AV.any,
    AV.any, AV.any, AV.any, AV.any]
  []), .r [] [], .br false, .r [] []])
                          (ob := [decide (n < 1) = false,
                            decide (n < 1) = false,
                            decide (n < 1) = false,
                            decide (n > 1024) = false,
                            decide (n > 1024) = false,
                            decide (n > 1024) = false,
                            decide (k < 1) = false,
                            decide (k < 1) = false,
                            decide (k < 1) = false,
                            decide (k > 5) = false,
                            decide (k > 5) = false,
                            decide (k > 5) = false,
                            decide (s < 1) = false,
                            decide (s < 1) = false,
                            decide (s < 1) = false,
                            decide (s > 4) = false,
                            decide (s > 4) = false,
                            decide (s > 4) = false,
                            decide (p < 0) = false,
                            decide (p < 0) = false,
                            decide (p < 0) = false,
                            decide (p > 4) = false,
                            decide (p > 4) = false,
                            decide (p > 4) = false,
                            decide (p > 4) = false,
                            decide (p ≥ k) = false,
                            IntKind.i64.wrap (0 - p) = 0 - p,
                            Weak (AV.lit (Value.int IntKind.i64 0)) (AV.lit (Value.int IntKind.i64 (↑0 : Int))),
                            Weak (AV.lit (Value.int IntKind.i64 (0 - p))) (AV.lit (Value.int IntKind.i64 ((↑0 : Int) * s - p))),
                            VT Try.prog (fnC Try.f101 [1, 1, 1, 0, 1, 0])
  (VS.mk
                            [AV.lit (Value.int IntKind.i64 n), AV.lit (Value.int IntKind.i64 k), AV.lit (Value.int IntKind.i64 s),
                              AV.lit (Value.int IntKind.i64 p), AV.any, AV.any, AV.any, AV.any, AV.any, AV.any,
                              AV.lit (Value.int IntKind.i64 (↑0 : Int)), AV.lit (Value.int IntKind.i64 ((↑0 : Int) * s - p)), AV.any, AV.any,
                              AV.any, AV.any, AV.any, AV.any, AV.any, AV.any, AV.any, AV.any, AV.any, AV.any, AV.any, AV.any, AV.any, AV.any,
                              AV.any, AV.any, AV.any, AV.any, AV.any, AV.any, AV.any, AV.any, AV.any, AV.any, AV.any, AV.any, AV.any, AV.any,
                              AV.any, AV.any, AV.any, AV.any, AV.any, AV.any, AV.any, AV.any, AV.any, AV.any, AV.any, AV.any, AV.any, AV.any,
                              AV.any, AV.any, AV.any, AV.any, AV.any, AV.any, AV.any, AV.any]
                            [])
  (Exit.exit 0)
  (VS.mk
                            [AV.lit (Value.int IntKind.i64 n), AV.lit (Value.int IntKind.i64 k), AV.lit (Value.int IntKind.i64 s),
                              AV.lit (Value.int IntKind.i64 p), AV.any, AV.any, AV.any, AV.any, AV.any, AV.any,
                              AV.lit (Value.int IntKind.i64 (↑(stepsM n k s p) : Int)),
                              AV.lit (Value.int IntKind.i64 ((↑(stepsM n k s p) : Int) * s - p)), AV.any, AV.any, AV.any, AV.any, AV.any,
                              AV.any, AV.any, AV.any, AV.any, AV.any, AV.any, AV.any, AV.any, AV.any, AV.any, AV.any, AV.any, AV.any, AV.any,
                              AV.any, AV.any, AV.any, AV.any, AV.any, AV.any, AV.any, AV.any, AV.any, AV.any, AV.any, AV.any, AV.any, AV.any,
                              AV.any, AV.any, AV.any, AV.any, AV.any, AV.any, AV.any, AV.any, AV.any, AV.any, AV.any, AV.any, AV.any, AV.any,
                              AV.any, AV.any, AV.any, AV.any, AV.any]
                            []),
                            ((↑(stepsM n k s p) : Int) == 0) = false]) (by kernel_rfl) ?_
                        exact ⟨(by with_reducible assumption),
                                                    (by with_reducible assumption),
                                                    (by with_reducible assumption),
                                                    (by with_reducible assumption),
                                                    (by with_reducible assumption),
                                                    (by with_reducible assumption),
                                                    (by with_reducible assumption),
                                                    (by with_reducible assumption),
                                                    (by with_reducible assumption),
                                                    (by with_reducible assumption),
                                                    (by with_reducible assumption),
                                                    (by with_reducible assumption),
                                                    (by with_reducible assumption),
                                                    (by with_reducible assumption),
                                                    (by with_reducible assumption),
                                                    (by with_reducible assumption),
                                                    (by with_reducible assumption),
                                                    (by with_reducible assumption),
                                                    (by with_reducible assumption),
                                                    (by with_reducible assumption),
                                                    (by with_reducible assumption),
                                                    (by with_reducible assumption),
                                                    (by with_reducible assumption),
                                                    (by with_reducible assumption),
                                                    (by with_reducible assumption),
                                                    (by with_reducible assumption),
                                                    (by exact IntWalk.i64_in _ (by omega)),
                                                    (Weak.int (show ((0) : Int) = ((↑0 : Int)) from (by omega))),
                                                    (Weak.int (show ((0 - p) : Int) = ((↑0 : Int) * s - p) from (by omega))),
                                                    (@refSteps_l (n) (k) (s) (p) (by (constructor <;> omega))),
                                                    (by with_reducible assumption),
                                                    trivial⟩
                      exact hz.weak (WeakL.refl _) (Weak.tup (.cons (Weak.int (show (((↑(stepsM n k s p) :
  Int)) : Int) = ((stepsE n k s
    p).fst) from (by (rw [← stepsE_ok (by constructor <;> omega) (by omega), if_neg (by omega)])))) (.cons (Weak.int (show ((0) : Int) = ((stepsE n k s p).snd) from (by (rw [← stepsE_ok (by constructor <;> omega) (by omega), if_neg (by omega)])))) .nil)))
theorem stepsE_bd (n k s p : Int) : 0 ≤ (stepsE n k s p).1 ∧ (stepsE n k s p).1 ≤ 2001 ∧ 0 ≤ (stepsE n k s p).2 ∧ (stepsE n k s p).2 ≤ 5 := by
  unfold stepsE; split
  · simp
  · split
    · simp
    · have := div4 (n + 2 * p - k) s (by omega) (by omega) (by omega)
      simp only; omega
structure Shp where
  h : Int
  x : Int
  c : Int
structure Shp.Ok (s : Shp) : Prop where
  h : In64 s.h
  x : In64 s.x
  c : In64 s.c
theorem Shp.mk_ok {a b c : Int} (x : In64 a) (y : In64 b) (z : In64 c) : Shp.Ok ⟨a, b, c⟩ := ⟨x, y, z⟩
abbrev shp (s : Shp) : AV := .agg [i64 s.h, i64 s.x, i64 s.c]
def Shp.n (s : Shp) : Int := elems s.h s.x s.c
/-- The shape of what a window makes, or why there is none. -/
def slideE (t : Shp) (k s p o : Int) : Shp × Int :=
  if ¬ 0 < elems t.h t.x t.c then (⟨0, 0, 0⟩, 5) else if (stepsE t.h k s p).2 ≠ 0 then (⟨0, 0, 0⟩, (stepsE t.h k s p).2) else if (stepsE t.x k s p).2 ≠ 0 then (⟨0, 0, 0⟩, (stepsE t.x k s p).2)
  else if ¬ 0 < elems (stepsE t.h k s p).1 (stepsE t.x k s p).1 o then (⟨0, 0, 0⟩, 5) else (⟨(stepsE t.h k s p).1, (stepsE t.x k s p).1, o⟩, 0)
set_option maxRecDepth 100000 in
set_option maxHeartbeats 2000000 in
theorem sRight_v (t : Shp) (ok : t.Ok) : VC Try.prog 99 ([shp t]) (bv (decide (0 < elems t.h t.x t.c))) := by
  have q1 := ok.h
  have q2 := ok.x
  have q3 := ok.c
  have hz : VC Try.prog 99 ([shp t]) (AV.lit (Value.bool (decide (elems t.h t.x t.c > 0)))) := by
    refine VC.run (fn := Try.f99) Try.func99 (W := [.r [] [], .r [] [PI.callr (i64 (elems t.h t.x t.c))]])
      (ob := [VC Try.prog 65
  [AV.agg [AV.lit (Value.int IntKind.i64 t.h), AV.lit (Value.int IntKind.i64 t.x), AV.lit (Value.int IntKind.i64 t.c)]]
  (AV.lit (Value.int IntKind.i64 (elems t.h t.x t.c)))]) (by kernel_rfl) ?_
    exact ⟨(@elems_v (t.h) (t.x) (t.c) (by with_reducible assumption) (by with_reducible assumption) (by with_reducible assumption)),
            trivial⟩
  exact hz

set_option maxRecDepth 100000 in
set_option maxHeartbeats 2000000 in
theorem slide_v (t : Shp) (k s p o : Int) (ok : t.Ok) (ho : In64 o) : VC Try.prog 67 ([shp t, i64 k, i64 s, i64 p, i64 o]) (.tup [shp (slideE t k s p o).1, i64 (slideE t k s p o).2]) := by
  have q1 := ok.h
  have q2 := ok.x
  have q3 := ok.c
  have q4 := stepsE_bd t.h k s p
  have q5 := stepsE_bd t.x k s p
  rcases Bool.eq_false_or_eq_true (!decide (0 < elems t.h t.x t.c)) with hc0 | hc0
  · have gc0 : ¬0 < elems t.h t.x t.c := by first | exact hc0 | exact of_decide_eq_true hc0 | exact of_decide_eq_false hc0 | simpa [eqNums] using hc0 | (simp [eqNums] at hc0 ⊢; first | done | assumption | omega)
    have hz : VC Try.prog 67 ([shp t, i64 k, i64 s, i64 p, i64 o]) (AV.tup
  [AV.agg [AV.lit (Value.int IntKind.i64 0), AV.lit (Value.int IntKind.i64 0), AV.lit (Value.int IntKind.i64 0)],
    AV.lit (Value.int IntKind.i64 5)]) := by
      refine VC.run (fn := Try.f67) Try.func67 (W := [.r [] [], .r [] [PI.callr (bv (decide (0 < elems t.h t.x t.c)))], .br true, .r [] []])
        (ob := [VC Try.prog 99
  [AV.agg [AV.lit (Value.int IntKind.i64 t.h), AV.lit (Value.int IntKind.i64 t.x), AV.lit (Value.int IntKind.i64 t.c)]]
  (AV.lit (Value.bool (decide (0 < elems t.h t.x t.c)))),
          (!decide (0 < elems t.h t.x t.c)) = true]) (by kernel_rfl) ?_
      exact ⟨(@sRight_v (t) (by with_reducible assumption)),
                (by with_reducible assumption),
                trivial⟩
    exact hz.weak (WeakL.refl _) (Weak.tup (.cons (Weak.agg (.cons (Weak.int (show ((0) : Int) = ((slideE t k s p
      o).fst.h) from (by (simp only [slideE]; rw [if_pos (by omega)])))) (.cons (Weak.int (show ((0) : Int) = ((slideE t k s p
      o).fst.x) from (by (simp only [slideE]; rw [if_pos (by omega)])))) (.cons (Weak.int (show ((0) : Int) = ((slideE t k s p
      o).fst.c) from (by (simp only [slideE]; rw [if_pos (by omega)])))) .nil)))) (.cons (Weak.int (show ((5) : Int) = ((slideE t k s p o).snd) from (by (simp only [slideE]; rw [if_pos (by omega)])))) .nil)))
  · have gc0 : 0 < elems t.h t.x t.c := by first | exact hc0 | exact of_decide_eq_true hc0 | exact of_decide_eq_false hc0 | simpa [eqNums] using hc0 | (simp [eqNums] at hc0 ⊢; first | done | assumption | omega)
    rcases Bool.eq_false_or_eq_true ((stepsE t.h k s p).snd != 0) with hc1 | hc1
    · have gc1 : ¬(stepsE t.h k s p).snd = 0 := by first | exact hc1 | exact of_decide_eq_true hc1 | exact of_decide_eq_false hc1 | simpa [eqNums] using hc1 | (simp [eqNums] at hc1 ⊢; first | done | assumption | omega)
      have hz : VC Try.prog 67 ([shp t, i64 k, i64 s, i64 p, i64 o]) (AV.tup
  [AV.agg [AV.lit (Value.int IntKind.i64 0), AV.lit (Value.int IntKind.i64 0), AV.lit (Value.int IntKind.i64 0)],
    AV.lit (Value.int IntKind.i64 (stepsE t.h k s p).snd)]) := by
        refine VC.run (fn := Try.f67) Try.func67 (W := [.r [] [], .r [] [PI.callr
   (bv
     (decide
       (0 <
         elems t.h t.x
           t.c)))], .br false, .r [] [PI.callr
   (AV.tup [i64 (stepsE t.h k s p).fst, i64 (stepsE t.h k s p).snd])], .r [] [], .br true, .r [] []])
          (ob := [VC Try.prog 99
  [AV.agg [AV.lit (Value.int IntKind.i64 t.h), AV.lit (Value.int IntKind.i64 t.x), AV.lit (Value.int IntKind.i64 t.c)]]
  (AV.lit (Value.bool (decide (0 < elems t.h t.x t.c)))),
            (!decide (0 < elems t.h t.x t.c)) = false,
            VC Try.prog 100
  [AV.lit (Value.int IntKind.i64 t.h), AV.lit (Value.int IntKind.i64 k), AV.lit (Value.int IntKind.i64 s),
            AV.lit (Value.int IntKind.i64 p)]
  (AV.tup
            [AV.lit (Value.int IntKind.i64 (stepsE t.h k s p).fst), AV.lit (Value.int IntKind.i64 (stepsE t.h k s p).snd)]),
            ((stepsE t.h k s p).snd != 0) = true]) (by kernel_rfl) ?_
        exact ⟨(@sRight_v (t) (by with_reducible assumption)),
                    (by with_reducible assumption),
                    (@steps_v (t.h) (k) (s) (p)),
                    (by with_reducible assumption),
                    trivial⟩
      exact hz.weak (WeakL.refl _) (Weak.tup (.cons (Weak.agg (.cons (Weak.int (show ((0) : Int) = ((slideE t k s p
      o).fst.h) from (by (simp only [slideE]; rw [if_neg (by omega), if_pos (by omega)])))) (.cons (Weak.int (show ((0) : Int) = ((slideE t k s p
      o).fst.x) from (by (simp only [slideE]; rw [if_neg (by omega), if_pos (by omega)])))) (.cons (Weak.int (show ((0) : Int) = ((slideE t k s p
      o).fst.c) from (by (simp only [slideE]; rw [if_neg (by omega), if_pos (by omega)])))) .nil)))) (.cons (Weak.int (show (((stepsE t.h k s
    p).snd) : Int) = ((slideE t k s p o).snd) from (by (simp only [slideE]; rw [if_neg (by omega), if_pos (by omega)])))) .nil)))
    · have gc1 : (stepsE t.h k s p).snd = 0 := by first | exact hc1 | exact of_decide_eq_true hc1 | exact of_decide_eq_false hc1 | simpa [eqNums] using hc1 | (simp [eqNums] at hc1 ⊢; first | done | assumption | omega)
      rcases Bool.eq_false_or_eq_true ((stepsE t.x k s p).snd != 0) with hc2 | hc2
      · have gc2 : ¬(stepsE t.x k s p).snd = 0 := by first | exact hc2 | exact of_decide_eq_true hc2 | exact of_decide_eq_false hc2 | simpa [eqNums] using hc2 | (simp [eqNums] at hc2 ⊢; first | done | assumption | omega)
        have hz : VC Try.prog 67 ([shp t, i64 k, i64 s, i64 p, i64 o]) (AV.tup
  [AV.agg [AV.lit (Value.int IntKind.i64 0), AV.lit (Value.int IntKind.i64 0), AV.lit (Value.int IntKind.i64 0)],
    AV.lit (Value.int IntKind.i64 (stepsE t.x k s p).snd)]) := by
          refine VC.run (fn := Try.f67) Try.func67 (W := [.r [] [], .r [] [PI.callr
   (bv
     (decide
       (0 <
         elems t.h t.x
           t.c)))], .br false, .r [] [PI.callr
   (AV.tup
     [i64 (stepsE t.h k s p).fst,
       i64
         (stepsE t.h k s
             p).snd])], .r [] [], .br false, .r [] [PI.callr
   (AV.tup [i64 (stepsE t.x k s p).fst, i64 (stepsE t.x k s p).snd])], .r [] [], .br true, .r [] []])
            (ob := [VC Try.prog 99
  [AV.agg [AV.lit (Value.int IntKind.i64 t.h), AV.lit (Value.int IntKind.i64 t.x), AV.lit (Value.int IntKind.i64 t.c)]]
  (AV.lit (Value.bool (decide (0 < elems t.h t.x t.c)))),
              (!decide (0 < elems t.h t.x t.c)) = false,
              VC Try.prog 100
  [AV.lit (Value.int IntKind.i64 t.h), AV.lit (Value.int IntKind.i64 k), AV.lit (Value.int IntKind.i64 s),
              AV.lit (Value.int IntKind.i64 p)]
  (AV.tup
              [AV.lit (Value.int IntKind.i64 (stepsE t.h k s p).fst), AV.lit (Value.int IntKind.i64 (stepsE t.h k s p).snd)]),
              ((stepsE t.h k s p).snd != 0) = false,
              VC Try.prog 100
  [AV.lit (Value.int IntKind.i64 t.x), AV.lit (Value.int IntKind.i64 k), AV.lit (Value.int IntKind.i64 s),
              AV.lit (Value.int IntKind.i64 p)]
  (AV.tup
              [AV.lit (Value.int IntKind.i64 (stepsE t.x k s p).fst), AV.lit (Value.int IntKind.i64 (stepsE t.x k s p).snd)]),
              ((stepsE t.x k s p).snd != 0) = true]) (by kernel_rfl) ?_
          exact ⟨(@sRight_v (t) (by with_reducible assumption)),
                        (by with_reducible assumption),
                        (@steps_v (t.h) (k) (s) (p)),
                        (by with_reducible assumption),
                        (@steps_v (t.x) (k) (s) (p)),
                        (by with_reducible assumption),
                        trivial⟩
        exact hz.weak (WeakL.refl _) (Weak.tup (.cons (Weak.agg (.cons (Weak.int (show ((0) : Int) = ((slideE t k s p
      o).fst.h) from (by (simp only [slideE]; rw [if_neg (by omega), if_neg (by omega), if_pos (by omega)])))) (.cons (Weak.int (show ((0) : Int) = ((slideE t k s p
      o).fst.x) from (by (simp only [slideE]; rw [if_neg (by omega), if_neg (by omega), if_pos (by omega)])))) (.cons (Weak.int (show ((0) : Int) = ((slideE t k s p
      o).fst.c) from (by (simp only [slideE]; rw [if_neg (by omega), if_neg (by omega), if_pos (by omega)])))) .nil)))) (.cons (Weak.int (show (((stepsE t.x k s
    p).snd) : Int) = ((slideE t k s p o).snd) from (by (simp only [slideE]; rw [if_neg (by omega), if_neg (by omega), if_pos (by omega)])))) .nil)))
      · have gc2 : (stepsE t.x k s p).snd = 0 := by first | exact hc2 | exact of_decide_eq_true hc2 | exact of_decide_eq_false hc2 | simpa [eqNums] using hc2 | (simp [eqNums] at hc2 ⊢; first | done | assumption | omega)
        rcases Bool.eq_false_or_eq_true (!decide (0 < elems (stepsE t.h k s p).fst (stepsE t.x k s p).fst o)) with hc3 | hc3
        · have gc3 : ¬0 < elems (stepsE t.h k s p).fst (stepsE t.x k s p).fst o := by first | exact hc3 | exact of_decide_eq_true hc3 | exact of_decide_eq_false hc3 | simpa [eqNums] using hc3 | (simp [eqNums] at hc3 ⊢; first | done | assumption | omega)
          have hz : VC Try.prog 67 ([shp t, i64 k, i64 s, i64 p, i64 o]) (AV.tup
  [AV.agg [AV.lit (Value.int IntKind.i64 0), AV.lit (Value.int IntKind.i64 0), AV.lit (Value.int IntKind.i64 0)],
    AV.lit (Value.int IntKind.i64 5)]) := by
            refine VC.run (fn := Try.f67) Try.func67 (W := [.r [] [], .r [] [PI.callr
   (bv
     (decide
       (0 <
         elems t.h t.x
           t.c)))], .br false, .r [] [PI.callr
   (AV.tup
     [i64 (stepsE t.h k s p).fst,
       i64
         (stepsE t.h k s
             p).snd])], .r [] [], .br false, .r [] [PI.callr
   (AV.tup
     [i64 (stepsE t.x k s p).fst,
       i64
         (stepsE t.x k s
             p).snd])], .r [] [], .br false, .r [] [], .r [] [PI.callr
   (bv (decide (0 < elems (stepsE t.h k s p).fst (stepsE t.x k s p).fst o)))], .br true, .r [] []])
              (ob := [VC Try.prog 99
  [AV.agg [AV.lit (Value.int IntKind.i64 t.h), AV.lit (Value.int IntKind.i64 t.x), AV.lit (Value.int IntKind.i64 t.c)]]
  (AV.lit (Value.bool (decide (0 < elems t.h t.x t.c)))),
                (!decide (0 < elems t.h t.x t.c)) = false,
                VC Try.prog 100
  [AV.lit (Value.int IntKind.i64 t.h), AV.lit (Value.int IntKind.i64 k), AV.lit (Value.int IntKind.i64 s),
                AV.lit (Value.int IntKind.i64 p)]
  (AV.tup
                [AV.lit (Value.int IntKind.i64 (stepsE t.h k s p).fst), AV.lit (Value.int IntKind.i64 (stepsE t.h k s p).snd)]),
                ((stepsE t.h k s p).snd != 0) = false,
                VC Try.prog 100
  [AV.lit (Value.int IntKind.i64 t.x), AV.lit (Value.int IntKind.i64 k), AV.lit (Value.int IntKind.i64 s),
                AV.lit (Value.int IntKind.i64 p)]
  (AV.tup
                [AV.lit (Value.int IntKind.i64 (stepsE t.x k s p).fst), AV.lit (Value.int IntKind.i64 (stepsE t.x k s p).snd)]),
                ((stepsE t.x k s p).snd != 0) = false,
                VC Try.prog 99
  [AV.agg
                  [AV.lit (Value.int IntKind.i64 (stepsE t.h k s p).fst), AV.lit (Value.int IntKind.i64 (stepsE t.x k s p).fst),
                    AV.lit (Value.int IntKind.i64 o)]]
  (AV.lit (Value.bool (decide (0 < elems (stepsE t.h k s p).fst (stepsE t.x k s p).fst o)))),
                (!decide (0 < elems (stepsE t.h k s p).fst (stepsE t.x k s p).fst o)) = true]) (by kernel_rfl) ?_
            exact ⟨(@sRight_v (t) (by with_reducible assumption)),
                            (by with_reducible assumption),
                            (@steps_v (t.h) (k) (s) (p)),
                            (by with_reducible assumption),
                            (@steps_v (t.x) (k) (s) (p)),
                            (by with_reducible assumption),
                            (@sRight_v (Shp.mk (stepsE t.h k s p).fst (stepsE t.x k s p).fst o) (by (exact Shp.mk_ok ⟨by omega, by omega⟩ ⟨by omega, by omega⟩ ho))),
                            (by with_reducible assumption),
                            trivial⟩
          exact hz.weak (WeakL.refl _) (Weak.tup (.cons (Weak.agg (.cons (Weak.int (show ((0) : Int) = ((slideE t k s p
      o).fst.h) from (by (simp only [slideE]; rw [if_neg (by omega), if_neg (by omega), if_neg (by omega), if_pos (by omega)])))) (.cons (Weak.int (show ((0) : Int) = ((slideE t k s p
      o).fst.x) from (by (simp only [slideE]; rw [if_neg (by omega), if_neg (by omega), if_neg (by omega), if_pos (by omega)])))) (.cons (Weak.int (show ((0) : Int) = ((slideE t k s p
      o).fst.c) from (by (simp only [slideE]; rw [if_neg (by omega), if_neg (by omega), if_neg (by omega), if_pos (by omega)])))) .nil)))) (.cons (Weak.int (show ((5) : Int) = ((slideE t k s p o).snd) from (by (simp only [slideE]; rw [if_neg (by omega), if_neg (by omega), if_neg (by omega), if_pos (by omega)])))) .nil)))
        · have gc3 : 0 < elems (stepsE t.h k s p).fst (stepsE t.x k s p).fst o := by first | exact hc3 | exact of_decide_eq_true hc3 | exact of_decide_eq_false hc3 | simpa [eqNums] using hc3 | (simp [eqNums] at hc3 ⊢; first | done | assumption | omega)
          have hz : VC Try.prog 67 ([shp t, i64 k, i64 s, i64 p, i64 o]) (AV.tup
  [AV.agg
      [AV.lit (Value.int IntKind.i64 (stepsE t.h k s p).fst), AV.lit (Value.int IntKind.i64 (stepsE t.x k s p).fst),
        AV.lit (Value.int IntKind.i64 o)],
    AV.lit (Value.int IntKind.i64 0)]) := by
            refine VC.run (fn := Try.f67) Try.func67 (W := [.r [] [], .r [] [PI.callr
   (bv
     (decide
       (0 <
         elems t.h t.x
           t.c)))], .br false, .r [] [PI.callr
   (AV.tup
     [i64 (stepsE t.h k s p).fst,
       i64
         (stepsE t.h k s
             p).snd])], .r [] [], .br false, .r [] [PI.callr
   (AV.tup
     [i64 (stepsE t.x k s p).fst,
       i64
         (stepsE t.x k s
             p).snd])], .r [] [], .br false, .r [] [], .r [] [PI.callr
   (bv (decide (0 < elems (stepsE t.h k s p).fst (stepsE t.x k s p).fst o)))], .br false, .r [] []])
              (ob := [VC Try.prog 99
  [AV.agg [AV.lit (Value.int IntKind.i64 t.h), AV.lit (Value.int IntKind.i64 t.x), AV.lit (Value.int IntKind.i64 t.c)]]
  (AV.lit (Value.bool (decide (0 < elems t.h t.x t.c)))),
                (!decide (0 < elems t.h t.x t.c)) = false,
                VC Try.prog 100
  [AV.lit (Value.int IntKind.i64 t.h), AV.lit (Value.int IntKind.i64 k), AV.lit (Value.int IntKind.i64 s),
                AV.lit (Value.int IntKind.i64 p)]
  (AV.tup
                [AV.lit (Value.int IntKind.i64 (stepsE t.h k s p).fst), AV.lit (Value.int IntKind.i64 (stepsE t.h k s p).snd)]),
                ((stepsE t.h k s p).snd != 0) = false,
                VC Try.prog 100
  [AV.lit (Value.int IntKind.i64 t.x), AV.lit (Value.int IntKind.i64 k), AV.lit (Value.int IntKind.i64 s),
                AV.lit (Value.int IntKind.i64 p)]
  (AV.tup
                [AV.lit (Value.int IntKind.i64 (stepsE t.x k s p).fst), AV.lit (Value.int IntKind.i64 (stepsE t.x k s p).snd)]),
                ((stepsE t.x k s p).snd != 0) = false,
                VC Try.prog 99
  [AV.agg
                  [AV.lit (Value.int IntKind.i64 (stepsE t.h k s p).fst), AV.lit (Value.int IntKind.i64 (stepsE t.x k s p).fst),
                    AV.lit (Value.int IntKind.i64 o)]]
  (AV.lit (Value.bool (decide (0 < elems (stepsE t.h k s p).fst (stepsE t.x k s p).fst o)))),
                (!decide (0 < elems (stepsE t.h k s p).fst (stepsE t.x k s p).fst o)) = false]) (by kernel_rfl) ?_
            exact ⟨(@sRight_v (t) (by with_reducible assumption)),
                            (by with_reducible assumption),
                            (@steps_v (t.h) (k) (s) (p)),
                            (by with_reducible assumption),
                            (@steps_v (t.x) (k) (s) (p)),
                            (by with_reducible assumption),
                            (@sRight_v (Shp.mk (stepsE t.h k s p).fst (stepsE t.x k s p).fst o) (by (exact Shp.mk_ok ⟨by omega, by omega⟩ ⟨by omega, by omega⟩ ho))),
                            (by with_reducible assumption),
                            trivial⟩
          exact hz.weak (WeakL.refl _) (Weak.tup (.cons (Weak.agg (.cons (Weak.int (show (((stepsE t.h k s
    p).fst) : Int) = ((slideE t k s p
      o).fst.h) from (by (simp only [slideE]; rw [if_neg (by omega), if_neg (by omega), if_neg (by omega), if_neg (by omega)])))) (.cons (Weak.int (show (((stepsE t.x k s
    p).fst) : Int) = ((slideE t k s p
      o).fst.x) from (by (simp only [slideE]; rw [if_neg (by omega), if_neg (by omega), if_neg (by omega), if_neg (by omega)])))) (.cons (Weak.int (show ((o) : Int) = ((slideE t k s p
      o).fst.c) from (by (simp only [slideE]; rw [if_neg (by omega), if_neg (by omega), if_neg (by omega), if_neg (by omega)])))) .nil)))) (.cons (Weak.int (show ((0) : Int) = ((slideE t k s p o).snd) from (by (simp only [slideE]; rw [if_neg (by omega), if_neg (by omega), if_neg (by omega), if_neg (by omega)])))) .nil)))

set_option maxRecDepth 100000 in
set_option maxHeartbeats 2000000 in
theorem refSlide_v (t : Shp) (k s p o : Int) (ok : t.Ok) (ho : In64 o) : VC Try.prog 68 ([shp t, i64 k, i64 s, i64 p, i64 o]) (.tup [shp (slideE t k s p o).1, i64 (slideE t k s p o).2]) := by
  have q1 := ok.h
  have q2 := ok.x
  have q3 := ok.c
  have q4 := stepsE_bd t.h k s p
  have q5 := stepsE_bd t.x k s p
  have q6 := elems_bd t.h t.x t.c
  have q7 := elems_bd (stepsE t.h k s p).1 (stepsE t.x k s p).1 o
  rcases Bool.eq_false_or_eq_true (elems t.h t.x t.c == 0) with hc0 | hc0
  · have gc0 : elems t.h t.x t.c = 0 := by first | exact hc0 | exact of_decide_eq_true hc0 | exact of_decide_eq_false hc0 | simpa [eqNums] using hc0 | (simp [eqNums] at hc0 ⊢; first | done | assumption | omega)
    have hz : VC Try.prog 68 ([shp t, i64 k, i64 s, i64 p, i64 o]) (AV.tup
  [AV.agg [AV.lit (Value.int IntKind.i64 0), AV.lit (Value.int IntKind.i64 0), AV.lit (Value.int IntKind.i64 0)],
    AV.lit (Value.int IntKind.i64 5)]) := by
      refine VC.run (fn := Try.f68) Try.func68 (W := [.r [] [], .r [] [PI.callr (i64 (elems t.h t.x t.c))], .br true, .r [] []])
        (ob := [VC Try.prog 73
  [AV.agg [AV.lit (Value.int IntKind.i64 t.h), AV.lit (Value.int IntKind.i64 t.x), AV.lit (Value.int IntKind.i64 t.c)]]
  (AV.lit (Value.int IntKind.i64 (elems t.h t.x t.c))),
          (elems t.h t.x t.c == 0) = true]) (by kernel_rfl) ?_
      exact ⟨(@refElems_v (t.h) (t.x) (t.c) (by with_reducible assumption) (by with_reducible assumption) (by with_reducible assumption)),
                (by with_reducible assumption),
                trivial⟩
    exact hz.weak (WeakL.refl _) (Weak.tup (.cons (Weak.agg (.cons (Weak.int (show ((0) : Int) = ((slideE t k s p
      o).fst.h) from (by (simp only [slideE]; rw [if_pos (by omega)])))) (.cons (Weak.int (show ((0) : Int) = ((slideE t k s p
      o).fst.x) from (by (simp only [slideE]; rw [if_pos (by omega)])))) (.cons (Weak.int (show ((0) : Int) = ((slideE t k s p
      o).fst.c) from (by (simp only [slideE]; rw [if_pos (by omega)])))) .nil)))) (.cons (Weak.int (show ((5) : Int) = ((slideE t k s p o).snd) from (by (simp only [slideE]; rw [if_pos (by omega)])))) .nil)))
  · have gc0 : ¬elems t.h t.x t.c = 0 := by first | exact hc0 | exact of_decide_eq_true hc0 | exact of_decide_eq_false hc0 | simpa [eqNums] using hc0 | (simp [eqNums] at hc0 ⊢; first | done | assumption | omega)
    rcases Bool.eq_false_or_eq_true ((stepsE t.h k s p).snd != 0) with hc1 | hc1
    · have gc1 : ¬(stepsE t.h k s p).snd = 0 := by first | exact hc1 | exact of_decide_eq_true hc1 | exact of_decide_eq_false hc1 | simpa [eqNums] using hc1 | (simp [eqNums] at hc1 ⊢; first | done | assumption | omega)
      have hz : VC Try.prog 68 ([shp t, i64 k, i64 s, i64 p, i64 o]) (AV.tup
  [AV.agg [AV.lit (Value.int IntKind.i64 0), AV.lit (Value.int IntKind.i64 0), AV.lit (Value.int IntKind.i64 0)],
    AV.lit (Value.int IntKind.i64 (stepsE t.h k s p).snd)]) := by
        refine VC.run (fn := Try.f68) Try.func68 (W := [.r [] [], .r [] [PI.callr
   (i64
     (elems t.h t.x
       t.c))], .br false, .r [] [PI.callr
   (AV.tup [i64 (stepsE t.h k s p).fst, i64 (stepsE t.h k s p).snd])], .r [] [], .br true, .r [] []])
          (ob := [VC Try.prog 73
  [AV.agg [AV.lit (Value.int IntKind.i64 t.h), AV.lit (Value.int IntKind.i64 t.x), AV.lit (Value.int IntKind.i64 t.c)]]
  (AV.lit (Value.int IntKind.i64 (elems t.h t.x t.c))),
            (elems t.h t.x t.c == 0) = false,
            VC Try.prog 101
  [AV.lit (Value.int IntKind.i64 t.h), AV.lit (Value.int IntKind.i64 k), AV.lit (Value.int IntKind.i64 s),
            AV.lit (Value.int IntKind.i64 p)]
  (AV.tup
            [AV.lit (Value.int IntKind.i64 (stepsE t.h k s p).fst), AV.lit (Value.int IntKind.i64 (stepsE t.h k s p).snd)]),
            ((stepsE t.h k s p).snd != 0) = true]) (by kernel_rfl) ?_
        exact ⟨(@refElems_v (t.h) (t.x) (t.c) (by with_reducible assumption) (by with_reducible assumption) (by with_reducible assumption)),
                    (by with_reducible assumption),
                    (@refSteps_v (t.h) (k) (s) (p)),
                    (by with_reducible assumption),
                    trivial⟩
      exact hz.weak (WeakL.refl _) (Weak.tup (.cons (Weak.agg (.cons (Weak.int (show ((0) : Int) = ((slideE t k s p
      o).fst.h) from (by (simp only [slideE]; rw [if_neg (by omega), if_pos (by omega)])))) (.cons (Weak.int (show ((0) : Int) = ((slideE t k s p
      o).fst.x) from (by (simp only [slideE]; rw [if_neg (by omega), if_pos (by omega)])))) (.cons (Weak.int (show ((0) : Int) = ((slideE t k s p
      o).fst.c) from (by (simp only [slideE]; rw [if_neg (by omega), if_pos (by omega)])))) .nil)))) (.cons (Weak.int (show (((stepsE t.h k s
    p).snd) : Int) = ((slideE t k s p o).snd) from (by (simp only [slideE]; rw [if_neg (by omega), if_pos (by omega)])))) .nil)))
    · have gc1 : (stepsE t.h k s p).snd = 0 := by first | exact hc1 | exact of_decide_eq_true hc1 | exact of_decide_eq_false hc1 | simpa [eqNums] using hc1 | (simp [eqNums] at hc1 ⊢; first | done | assumption | omega)
      rcases Bool.eq_false_or_eq_true ((stepsE t.x k s p).snd != 0) with hc2 | hc2
      · have gc2 : ¬(stepsE t.x k s p).snd = 0 := by first | exact hc2 | exact of_decide_eq_true hc2 | exact of_decide_eq_false hc2 | simpa [eqNums] using hc2 | (simp [eqNums] at hc2 ⊢; first | done | assumption | omega)
        have hz : VC Try.prog 68 ([shp t, i64 k, i64 s, i64 p, i64 o]) (AV.tup
  [AV.agg [AV.lit (Value.int IntKind.i64 0), AV.lit (Value.int IntKind.i64 0), AV.lit (Value.int IntKind.i64 0)],
    AV.lit (Value.int IntKind.i64 (stepsE t.x k s p).snd)]) := by
          refine VC.run (fn := Try.f68) Try.func68 (W := [.r [] [], .r [] [PI.callr
   (i64
     (elems t.h t.x
       t.c))], .br false, .r [] [PI.callr
   (AV.tup
     [i64 (stepsE t.h k s p).fst,
       i64
         (stepsE t.h k s
             p).snd])], .r [] [], .br false, .r [] [PI.callr
   (AV.tup [i64 (stepsE t.x k s p).fst, i64 (stepsE t.x k s p).snd])], .r [] [], .br true, .r [] []])
            (ob := [VC Try.prog 73
  [AV.agg [AV.lit (Value.int IntKind.i64 t.h), AV.lit (Value.int IntKind.i64 t.x), AV.lit (Value.int IntKind.i64 t.c)]]
  (AV.lit (Value.int IntKind.i64 (elems t.h t.x t.c))),
              (elems t.h t.x t.c == 0) = false,
              VC Try.prog 101
  [AV.lit (Value.int IntKind.i64 t.h), AV.lit (Value.int IntKind.i64 k), AV.lit (Value.int IntKind.i64 s),
              AV.lit (Value.int IntKind.i64 p)]
  (AV.tup
              [AV.lit (Value.int IntKind.i64 (stepsE t.h k s p).fst), AV.lit (Value.int IntKind.i64 (stepsE t.h k s p).snd)]),
              ((stepsE t.h k s p).snd != 0) = false,
              VC Try.prog 101
  [AV.lit (Value.int IntKind.i64 t.x), AV.lit (Value.int IntKind.i64 k), AV.lit (Value.int IntKind.i64 s),
              AV.lit (Value.int IntKind.i64 p)]
  (AV.tup
              [AV.lit (Value.int IntKind.i64 (stepsE t.x k s p).fst), AV.lit (Value.int IntKind.i64 (stepsE t.x k s p).snd)]),
              ((stepsE t.x k s p).snd != 0) = true]) (by kernel_rfl) ?_
          exact ⟨(@refElems_v (t.h) (t.x) (t.c) (by with_reducible assumption) (by with_reducible assumption) (by with_reducible assumption)),
                        (by with_reducible assumption),
                        (@refSteps_v (t.h) (k) (s) (p)),
                        (by with_reducible assumption),
                        (@refSteps_v (t.x) (k) (s) (p)),
                        (by with_reducible assumption),
                        trivial⟩
        exact hz.weak (WeakL.refl _) (Weak.tup (.cons (Weak.agg (.cons (Weak.int (show ((0) : Int) = ((slideE t k s p
      o).fst.h) from (by (simp only [slideE]; rw [if_neg (by omega), if_neg (by omega), if_pos (by omega)])))) (.cons (Weak.int (show ((0) : Int) = ((slideE t k s p
      o).fst.x) from (by (simp only [slideE]; rw [if_neg (by omega), if_neg (by omega), if_pos (by omega)])))) (.cons (Weak.int (show ((0) : Int) = ((slideE t k s p
      o).fst.c) from (by (simp only [slideE]; rw [if_neg (by omega), if_neg (by omega), if_pos (by omega)])))) .nil)))) (.cons (Weak.int (show (((stepsE t.x k s
    p).snd) : Int) = ((slideE t k s p o).snd) from (by (simp only [slideE]; rw [if_neg (by omega), if_neg (by omega), if_pos (by omega)])))) .nil)))
      · have gc2 : (stepsE t.x k s p).snd = 0 := by first | exact hc2 | exact of_decide_eq_true hc2 | exact of_decide_eq_false hc2 | simpa [eqNums] using hc2 | (simp [eqNums] at hc2 ⊢; first | done | assumption | omega)
        rcases Bool.eq_false_or_eq_true (elems (stepsE t.h k s p).fst (stepsE t.x k s p).fst o == 0) with hc3 | hc3
        · have gc3 : elems (stepsE t.h k s p).fst (stepsE t.x k s p).fst o = 0 := by first | exact hc3 | exact of_decide_eq_true hc3 | exact of_decide_eq_false hc3 | simpa [eqNums] using hc3 | (simp [eqNums] at hc3 ⊢; first | done | assumption | omega)
          have hz : VC Try.prog 68 ([shp t, i64 k, i64 s, i64 p, i64 o]) (AV.tup
  [AV.agg [AV.lit (Value.int IntKind.i64 0), AV.lit (Value.int IntKind.i64 0), AV.lit (Value.int IntKind.i64 0)],
    AV.lit (Value.int IntKind.i64 5)]) := by
            refine VC.run (fn := Try.f68) Try.func68 (W := [.r [] [], .r [] [PI.callr
   (i64
     (elems t.h t.x
       t.c))], .br false, .r [] [PI.callr
   (AV.tup
     [i64 (stepsE t.h k s p).fst,
       i64
         (stepsE t.h k s
             p).snd])], .r [] [], .br false, .r [] [PI.callr
   (AV.tup
     [i64 (stepsE t.x k s p).fst,
       i64
         (stepsE t.x k s
             p).snd])], .r [] [], .br false, .r [] [], .r [] [PI.callr
   (i64 (elems (stepsE t.h k s p).fst (stepsE t.x k s p).fst o))], .br true, .r [] []])
              (ob := [VC Try.prog 73
  [AV.agg [AV.lit (Value.int IntKind.i64 t.h), AV.lit (Value.int IntKind.i64 t.x), AV.lit (Value.int IntKind.i64 t.c)]]
  (AV.lit (Value.int IntKind.i64 (elems t.h t.x t.c))),
                (elems t.h t.x t.c == 0) = false,
                VC Try.prog 101
  [AV.lit (Value.int IntKind.i64 t.h), AV.lit (Value.int IntKind.i64 k), AV.lit (Value.int IntKind.i64 s),
                AV.lit (Value.int IntKind.i64 p)]
  (AV.tup
                [AV.lit (Value.int IntKind.i64 (stepsE t.h k s p).fst), AV.lit (Value.int IntKind.i64 (stepsE t.h k s p).snd)]),
                ((stepsE t.h k s p).snd != 0) = false,
                VC Try.prog 101
  [AV.lit (Value.int IntKind.i64 t.x), AV.lit (Value.int IntKind.i64 k), AV.lit (Value.int IntKind.i64 s),
                AV.lit (Value.int IntKind.i64 p)]
  (AV.tup
                [AV.lit (Value.int IntKind.i64 (stepsE t.x k s p).fst), AV.lit (Value.int IntKind.i64 (stepsE t.x k s p).snd)]),
                ((stepsE t.x k s p).snd != 0) = false,
                VC Try.prog 73
  [AV.agg
                  [AV.lit (Value.int IntKind.i64 (stepsE t.h k s p).fst), AV.lit (Value.int IntKind.i64 (stepsE t.x k s p).fst),
                    AV.lit (Value.int IntKind.i64 o)]]
  (AV.lit (Value.int IntKind.i64 (elems (stepsE t.h k s p).fst (stepsE t.x k s p).fst o))),
                (elems (stepsE t.h k s p).fst (stepsE t.x k s p).fst o == 0) = true]) (by kernel_rfl) ?_
            exact ⟨(@refElems_v (t.h) (t.x) (t.c) (by with_reducible assumption) (by with_reducible assumption) (by with_reducible assumption)),
                            (by with_reducible assumption),
                            (@refSteps_v (t.h) (k) (s) (p)),
                            (by with_reducible assumption),
                            (@refSteps_v (t.x) (k) (s) (p)),
                            (by with_reducible assumption),
                            (@refElems_v ((stepsE t.h k s p).fst) ((stepsE t.x k s p).fst) (o) (by (refine ⟨?_, ?_⟩ <;> omega)) (by (refine ⟨?_, ?_⟩ <;> omega)) (by with_reducible assumption)),
                            (by with_reducible assumption),
                            trivial⟩
          exact hz.weak (WeakL.refl _) (Weak.tup (.cons (Weak.agg (.cons (Weak.int (show ((0) : Int) = ((slideE t k s p
      o).fst.h) from (by (simp only [slideE]; rw [if_neg (by omega), if_neg (by omega), if_neg (by omega), if_pos (by omega)])))) (.cons (Weak.int (show ((0) : Int) = ((slideE t k s p
      o).fst.x) from (by (simp only [slideE]; rw [if_neg (by omega), if_neg (by omega), if_neg (by omega), if_pos (by omega)])))) (.cons (Weak.int (show ((0) : Int) = ((slideE t k s p
      o).fst.c) from (by (simp only [slideE]; rw [if_neg (by omega), if_neg (by omega), if_neg (by omega), if_pos (by omega)])))) .nil)))) (.cons (Weak.int (show ((5) : Int) = ((slideE t k s p o).snd) from (by (simp only [slideE]; rw [if_neg (by omega), if_neg (by omega), if_neg (by omega), if_pos (by omega)])))) .nil)))
        · have gc3 : ¬elems (stepsE t.h k s p).fst (stepsE t.x k s p).fst o = 0 := by first | exact hc3 | exact of_decide_eq_true hc3 | exact of_decide_eq_false hc3 | simpa [eqNums] using hc3 | (simp [eqNums] at hc3 ⊢; first | done | assumption | omega)
          have hz : VC Try.prog 68 ([shp t, i64 k, i64 s, i64 p, i64 o]) (AV.tup
  [AV.agg
      [AV.lit (Value.int IntKind.i64 (stepsE t.h k s p).fst), AV.lit (Value.int IntKind.i64 (stepsE t.x k s p).fst),
        AV.lit (Value.int IntKind.i64 o)],
    AV.lit (Value.int IntKind.i64 0)]) := by
            refine VC.run (fn := Try.f68) Try.func68 (W := [.r [] [], .r [] [PI.callr
   (i64
     (elems t.h t.x
       t.c))], .br false, .r [] [PI.callr
   (AV.tup
     [i64 (stepsE t.h k s p).fst,
       i64
         (stepsE t.h k s
             p).snd])], .r [] [], .br false, .r [] [PI.callr
   (AV.tup
     [i64 (stepsE t.x k s p).fst,
       i64
         (stepsE t.x k s
             p).snd])], .r [] [], .br false, .r [] [], .r [] [PI.callr
   (i64 (elems (stepsE t.h k s p).fst (stepsE t.x k s p).fst o))], .br false, .r [] []])
              (ob := [VC Try.prog 73
  [AV.agg [AV.lit (Value.int IntKind.i64 t.h), AV.lit (Value.int IntKind.i64 t.x), AV.lit (Value.int IntKind.i64 t.c)]]
  (AV.lit (Value.int IntKind.i64 (elems t.h t.x t.c))),
                (elems t.h t.x t.c == 0) = false,
                VC Try.prog 101
  [AV.lit (Value.int IntKind.i64 t.h), AV.lit (Value.int IntKind.i64 k), AV.lit (Value.int IntKind.i64 s),
                AV.lit (Value.int IntKind.i64 p)]
  (AV.tup
                [AV.lit (Value.int IntKind.i64 (stepsE t.h k s p).fst), AV.lit (Value.int IntKind.i64 (stepsE t.h k s p).snd)]),
                ((stepsE t.h k s p).snd != 0) = false,
                VC Try.prog 101
  [AV.lit (Value.int IntKind.i64 t.x), AV.lit (Value.int IntKind.i64 k), AV.lit (Value.int IntKind.i64 s),
                AV.lit (Value.int IntKind.i64 p)]
  (AV.tup
                [AV.lit (Value.int IntKind.i64 (stepsE t.x k s p).fst), AV.lit (Value.int IntKind.i64 (stepsE t.x k s p).snd)]),
                ((stepsE t.x k s p).snd != 0) = false,
                VC Try.prog 73
  [AV.agg
                  [AV.lit (Value.int IntKind.i64 (stepsE t.h k s p).fst), AV.lit (Value.int IntKind.i64 (stepsE t.x k s p).fst),
                    AV.lit (Value.int IntKind.i64 o)]]
  (AV.lit (Value.int IntKind.i64 (elems (stepsE t.h k s p).fst (stepsE t.x k s p).fst o))),
                (elems (stepsE t.h k s p).fst (stepsE t.x k s p).fst o == 0) = false]) (by kernel_rfl) ?_
            exact ⟨(@refElems_v (t.h) (t.x) (t.c) (by with_reducible assumption) (by with_reducible assumption) (by with_reducible assumption)),
                            (by with_reducible assumption),
                            (@refSteps_v (t.h) (k) (s) (p)),
                            (by with_reducible assumption),
                            (@refSteps_v (t.x) (k) (s) (p)),
                            (by with_reducible assumption),
                            (@refElems_v ((stepsE t.h k s p).fst) ((stepsE t.x k s p).fst) (o) (by (refine ⟨?_, ?_⟩ <;> omega)) (by (refine ⟨?_, ?_⟩ <;> omega)) (by with_reducible assumption)),
                            (by with_reducible assumption),
                            trivial⟩
          exact hz.weak (WeakL.refl _) (Weak.tup (.cons (Weak.agg (.cons (Weak.int (show (((stepsE t.h k s
    p).fst) : Int) = ((slideE t k s p
      o).fst.h) from (by (simp only [slideE]; rw [if_neg (by omega), if_neg (by omega), if_neg (by omega), if_neg (by omega)])))) (.cons (Weak.int (show (((stepsE t.x k s
    p).fst) : Int) = ((slideE t k s p
      o).fst.x) from (by (simp only [slideE]; rw [if_neg (by omega), if_neg (by omega), if_neg (by omega), if_neg (by omega)])))) (.cons (Weak.int (show ((o) : Int) = ((slideE t k s p
      o).fst.c) from (by (simp only [slideE]; rw [if_neg (by omega), if_neg (by omega), if_neg (by omega), if_neg (by omega)])))) .nil)))) (.cons (Weak.int (show ((0) : Int) = ((slideE t k s p o).snd) from (by (simp only [slideE]; rw [if_neg (by omega), if_neg (by omega), if_neg (by omega), if_neg (by omega)])))) .nil)))
end Go.Proofs.Ytcegfkmelcjdhaa

