/- Windows of one channel each: shapes, places and sums, by the program. No condition. -/
import Derived.Test.YtcegfkmelcjdhaaCvS
namespace Go.Proofs.Ytcegfkmelcjdhaa
open Go.RowKit
set_option linter.unusedSimpArgs false
set_option linter.unusedVariables false
set_option linter.unnecessarySimpa false

/-- A place, or none. -/
def indexE (t : Shp) (h w c : Int) : Int × Bool := if 0 < elems t.h t.x t.c ∧ 0 ≤ h ∧ h < t.h ∧ 0 ≤ w ∧ w < t.x ∧ 0 ≤ c ∧ c < t.c then ((h * t.x + w) * t.c + c, true) else (0, false)
theorem place_bd {t : Shp} (q : 0 < elems t.h t.x t.c) {h w c : Int} (h0 : 0 ≤ h) (h1 : h < t.h) (w0 : 0 ≤ w) (w1 : w < t.x) (c0 : 0 ≤ c) (c1 : c < t.c) :
    (0 ≤ h * t.x ∧ h * t.x ≤ 1024) ∧ (0 ≤ (h * t.x + w) * t.c ∧ (h * t.x + w) * t.c ≤ 1024) ∧ (0 ≤ (h * t.x + w) * t.c + c ∧ (h * t.x + w) * t.c + c < elems t.h t.x t.c) := by
  obtain ⟨q1, q2, q3, q4, q5, q6, q7, q8⟩ := elems_ok q
  have a := idx_bd (a := h) (m := t.h) (b := w) (n := t.x) h0 h1 w0 w1
  have a0 : 0 ≤ h * t.x := Int.mul_nonneg h0 (by omega)
  have b := idx_bd (a := h * t.x + w) (m := t.h * t.x) (b := c) (n := t.c) (by omega) (by omega) c0 c1
  have b0 : 0 ≤ (h * t.x + w) * t.c := Int.mul_nonneg (by omega) (by omega)
  have d := mul_bd (a := t.h) (A := 16) (b := t.x) (B := 16) (by omega) (by omega) (by omega) (by omega)
  omega
set_option maxRecDepth 100000 in
set_option maxHeartbeats 2000000 in
theorem index_v (t : Shp) (h w c : Int) (ok : t.Ok) : VC Try.prog 102 ([shp t, i64 h, i64 w, i64 c]) (.tup [i64 (indexE t h w c).1, bv (indexE t h w c).2]) := by
  rcases Bool.eq_false_or_eq_true (!decide (0 < elems t.h t.x t.c)) with hc0 | hc0
  · have gc0 : ¬0 < elems t.h t.x t.c := by first | exact hc0 | exact of_decide_eq_true hc0 | exact of_decide_eq_false hc0 | simpa [eqNums] using hc0 | (simp [eqNums] at hc0 ⊢; first | done | assumption | omega)
    have hz : VC Try.prog 102 ([shp t, i64 h, i64 w, i64 c]) (AV.tup [AV.lit (Value.int IntKind.i64 0), AV.lit (Value.bool false)]) := by
      refine VC.run (fn := Try.f102) Try.func102 (W := [.r [] [], .r [] [PI.callr (bv (decide (0 < elems t.h t.x t.c))),
 PI.br false,
 PI.br false,
 PI.br true,
 PI.br false,
 PI.br false,
 PI.br false,
 PI.br false,
 PI.br true,
 PI.br false,
 PI.br false,
 PI.br true,
 PI.br false,
 PI.br false,
 PI.br false,
 PI.br false,
 PI.br true,
 PI.br false,
 PI.br false,
 PI.br true,
 PI.br false,
 PI.br false,
 PI.br false,
 PI.br false,
 PI.br true], .br true, .r [] []])
        (ob := [VC Try.prog 99
  [AV.agg [AV.lit (Value.int IntKind.i64 t.h), AV.lit (Value.int IntKind.i64 t.x), AV.lit (Value.int IntKind.i64 t.c)]]
  (AV.lit (Value.bool (decide (0 < elems t.h t.x t.c)))),
          (!decide (0 < elems t.h t.x t.c)) = !false,
          (!decide (0 < elems t.h t.x t.c)) = !false,
          (!decide (0 < elems t.h t.x t.c)) = true,
          true = !false,
          true = !false,
          true = !false,
          true = !false,
          true = true,
          true = !false,
          true = !false,
          true = true,
          true = !false,
          true = !false,
          true = !false,
          true = !false,
          true = true,
          true = !false,
          true = !false,
          true = true,
          true = !false,
          true = !false,
          true = !false,
          true = !false,
          true = true,
          true = true]) (by kernel_rfl) ?_
      exact ⟨(@sRight_v (t) (by with_reducible assumption)),
                (by (simp; omega)),
                (by (simp; omega)),
                (by with_reducible assumption),
                (by (simp; done)),
                (by (simp; done)),
                (by (simp; done)),
                (by (simp; done)),
                (by with_reducible rfl),
                (by (simp; done)),
                (by (simp; done)),
                (by with_reducible rfl),
                (by (simp; done)),
                (by (simp; done)),
                (by (simp; done)),
                (by (simp; done)),
                (by with_reducible rfl),
                (by (simp; done)),
                (by (simp; done)),
                (by with_reducible rfl),
                (by (simp; done)),
                (by (simp; done)),
                (by (simp; done)),
                (by (simp; done)),
                (by with_reducible rfl),
                (by with_reducible rfl),
                trivial⟩
    exact hz.weak (WeakL.refl _) (Weak.tup (.cons (Weak.int (show ((0) : Int) = ((indexE t h w
    c).fst) from (by (simp only [indexE]; rw [if_neg (by omega)])))) (.cons (Weak.bool (show ((false) : Bool) = ((indexE t h w c).snd) from (by (simp only [indexE]; rw [if_neg (by omega)])))) .nil)))
  · have gc0 : 0 < elems t.h t.x t.c := by first | exact hc0 | exact of_decide_eq_true hc0 | exact of_decide_eq_false hc0 | simpa [eqNums] using hc0 | (simp [eqNums] at hc0 ⊢; first | done | assumption | omega)
    rcases Bool.eq_false_or_eq_true (decide (h < 0)) with hc1 | hc1
    · have gc1 : h < 0 := of_decide_eq_true hc1
      have hz : VC Try.prog 102 ([shp t, i64 h, i64 w, i64 c]) (AV.tup [AV.lit (Value.int IntKind.i64 0), AV.lit (Value.bool false)]) := by
        refine VC.run (fn := Try.f102) Try.func102 (W := [.r [] [], .r [] [PI.callr (bv (decide (0 < elems t.h t.x t.c))),
 PI.br true,
 PI.br true,
 PI.br false,
 PI.br false,
 PI.br false,
 PI.br false,
 PI.br false,
 PI.br true,
 PI.br false,
 PI.br false,
 PI.br true,
 PI.br false,
 PI.br false,
 PI.br false,
 PI.br false,
 PI.br true,
 PI.br false,
 PI.br false,
 PI.br true,
 PI.br false,
 PI.br false,
 PI.br false,
 PI.br false,
 PI.br true], .br true, .r [] []])
          (ob := [VC Try.prog 99
  [AV.agg [AV.lit (Value.int IntKind.i64 t.h), AV.lit (Value.int IntKind.i64 t.x), AV.lit (Value.int IntKind.i64 t.c)]]
  (AV.lit (Value.bool (decide (0 < elems t.h t.x t.c)))),
            (!decide (0 < elems t.h t.x t.c)) = false,
            (!decide (0 < elems t.h t.x t.c)) = false,
            (!decide (0 < elems t.h t.x t.c)) = false,
            decide (h < 0) = !false,
            decide (h < 0) = !false,
            decide (h < 0) = !false,
            decide (h < 0) = !false,
            decide (h < 0) = true,
            true = !false,
            true = !false,
            true = true,
            true = !false,
            true = !false,
            true = !false,
            true = !false,
            true = true,
            true = !false,
            true = !false,
            true = true,
            true = !false,
            true = !false,
            true = !false,
            true = !false,
            true = true,
            true = true]) (by kernel_rfl) ?_
        exact ⟨(@sRight_v (t) (by with_reducible assumption)),
                    (by with_reducible assumption),
                    (by with_reducible assumption),
                    (by with_reducible assumption),
                    (by (refine decide_eq_true ?_; omega)),
                    (by (refine decide_eq_true ?_; omega)),
                    (by (refine decide_eq_true ?_; omega)),
                    (by (refine decide_eq_true ?_; omega)),
                    (by with_reducible assumption),
                    (by (simp; done)),
                    (by (simp; done)),
                    (by with_reducible rfl),
                    (by (simp; done)),
                    (by (simp; done)),
                    (by (simp; done)),
                    (by (simp; done)),
                    (by with_reducible rfl),
                    (by (simp; done)),
                    (by (simp; done)),
                    (by with_reducible rfl),
                    (by (simp; done)),
                    (by (simp; done)),
                    (by (simp; done)),
                    (by (simp; done)),
                    (by with_reducible rfl),
                    (by with_reducible rfl),
                    trivial⟩
      exact hz.weak (WeakL.refl _) (Weak.tup (.cons (Weak.int (show ((0) : Int) = ((indexE t h w
    c).fst) from (by (simp only [indexE]; rw [if_neg (by omega)])))) (.cons (Weak.bool (show ((false) : Bool) = ((indexE t h w c).snd) from (by (simp only [indexE]; rw [if_neg (by omega)])))) .nil)))
    · have gc1 : ¬h < 0 := of_decide_eq_false hc1
      rcases Bool.eq_false_or_eq_true (decide (h ≥ t.h)) with hc2 | hc2
      · have gc2 : h ≥ t.h := of_decide_eq_true hc2
        have hz : VC Try.prog 102 ([shp t, i64 h, i64 w, i64 c]) (AV.tup [AV.lit (Value.int IntKind.i64 0), AV.lit (Value.bool false)]) := by
          refine VC.run (fn := Try.f102) Try.func102 (W := [.r [] [], .r [] [PI.callr (bv (decide (0 < elems t.h t.x t.c))),
 PI.br true,
 PI.br true,
 PI.br false,
 PI.br true,
 PI.br true,
 PI.br true,
 PI.br true,
 PI.br false,
 PI.br false,
 PI.br false,
 PI.br true,
 PI.br false,
 PI.br false,
 PI.br false,
 PI.br false,
 PI.br true,
 PI.br false,
 PI.br false,
 PI.br true,
 PI.br false,
 PI.br false,
 PI.br false,
 PI.br false,
 PI.br true], .br true, .r [] []])
            (ob := [VC Try.prog 99
  [AV.agg [AV.lit (Value.int IntKind.i64 t.h), AV.lit (Value.int IntKind.i64 t.x), AV.lit (Value.int IntKind.i64 t.c)]]
  (AV.lit (Value.bool (decide (0 < elems t.h t.x t.c)))),
              (!decide (0 < elems t.h t.x t.c)) = false,
              (!decide (0 < elems t.h t.x t.c)) = false,
              (!decide (0 < elems t.h t.x t.c)) = false,
              decide (h < 0) = false,
              decide (h < 0) = false,
              decide (h < 0) = false,
              decide (h < 0) = false,
              decide (h < 0) = false,
              decide (h ≥ t.h) = !false,
              decide (h ≥ t.h) = !false,
              decide (h ≥ t.h) = true,
              true = !false,
              true = !false,
              true = !false,
              true = !false,
              true = true,
              true = !false,
              true = !false,
              true = true,
              true = !false,
              true = !false,
              true = !false,
              true = !false,
              true = true,
              true = true]) (by kernel_rfl) ?_
          exact ⟨(@sRight_v (t) (by with_reducible assumption)),
                        (by with_reducible assumption),
                        (by with_reducible assumption),
                        (by with_reducible assumption),
                        (by with_reducible assumption),
                        (by with_reducible assumption),
                        (by with_reducible assumption),
                        (by with_reducible assumption),
                        (by with_reducible assumption),
                        (by (refine decide_eq_true ?_; omega)),
                        (by (refine decide_eq_true ?_; omega)),
                        (by with_reducible assumption),
                        (by (simp; done)),
                        (by (simp; done)),
                        (by (simp; done)),
                        (by (simp; done)),
                        (by with_reducible rfl),
                        (by (simp; done)),
                        (by (simp; done)),
                        (by with_reducible rfl),
                        (by (simp; done)),
                        (by (simp; done)),
                        (by (simp; done)),
                        (by (simp; done)),
                        (by with_reducible rfl),
                        (by with_reducible rfl),
                        trivial⟩
        exact hz.weak (WeakL.refl _) (Weak.tup (.cons (Weak.int (show ((0) : Int) = ((indexE t h w
    c).fst) from (by (simp only [indexE]; rw [if_neg (by omega)])))) (.cons (Weak.bool (show ((false) : Bool) = ((indexE t h w c).snd) from (by (simp only [indexE]; rw [if_neg (by omega)])))) .nil)))
      · have gc2 : ¬h ≥ t.h := of_decide_eq_false hc2
        rcases Bool.eq_false_or_eq_true (decide (w < 0)) with hc3 | hc3
        · have gc3 : w < 0 := of_decide_eq_true hc3
          have hz : VC Try.prog 102 ([shp t, i64 h, i64 w, i64 c]) (AV.tup [AV.lit (Value.int IntKind.i64 0), AV.lit (Value.bool false)]) := by
            refine VC.run (fn := Try.f102) Try.func102 (W := [.r [] [], .r [] [PI.callr (bv (decide (0 < elems t.h t.x t.c))),
 PI.br true,
 PI.br true,
 PI.br false,
 PI.br true,
 PI.br true,
 PI.br true,
 PI.br true,
 PI.br false,
 PI.br true,
 PI.br true,
 PI.br false,
 PI.br false,
 PI.br false,
 PI.br false,
 PI.br false,
 PI.br true,
 PI.br false,
 PI.br false,
 PI.br true,
 PI.br false,
 PI.br false,
 PI.br false,
 PI.br false,
 PI.br true], .br true, .r [] []])
              (ob := [VC Try.prog 99
  [AV.agg [AV.lit (Value.int IntKind.i64 t.h), AV.lit (Value.int IntKind.i64 t.x), AV.lit (Value.int IntKind.i64 t.c)]]
  (AV.lit (Value.bool (decide (0 < elems t.h t.x t.c)))),
                (!decide (0 < elems t.h t.x t.c)) = false,
                (!decide (0 < elems t.h t.x t.c)) = false,
                (!decide (0 < elems t.h t.x t.c)) = false,
                decide (h < 0) = false,
                decide (h < 0) = false,
                decide (h < 0) = false,
                decide (h < 0) = false,
                decide (h < 0) = false,
                decide (h ≥ t.h) = false,
                decide (h ≥ t.h) = false,
                decide (h ≥ t.h) = false,
                decide (w < 0) = !false,
                decide (w < 0) = !false,
                decide (w < 0) = !false,
                decide (w < 0) = !false,
                decide (w < 0) = true,
                true = !false,
                true = !false,
                true = true,
                true = !false,
                true = !false,
                true = !false,
                true = !false,
                true = true,
                true = true]) (by kernel_rfl) ?_
            exact ⟨(@sRight_v (t) (by with_reducible assumption)),
                            (by with_reducible assumption),
                            (by with_reducible assumption),
                            (by with_reducible assumption),
                            (by with_reducible assumption),
                            (by with_reducible assumption),
                            (by with_reducible assumption),
                            (by with_reducible assumption),
                            (by with_reducible assumption),
                            (by with_reducible assumption),
                            (by with_reducible assumption),
                            (by with_reducible assumption),
                            (by (refine decide_eq_true ?_; omega)),
                            (by (refine decide_eq_true ?_; omega)),
                            (by (refine decide_eq_true ?_; omega)),
                            (by (refine decide_eq_true ?_; omega)),
                            (by with_reducible assumption),
                            (by (simp; done)),
                            (by (simp; done)),
                            (by with_reducible rfl),
                            (by (simp; done)),
                            (by (simp; done)),
                            (by (simp; done)),
                            (by (simp; done)),
                            (by with_reducible rfl),
                            (by with_reducible rfl),
                            trivial⟩
          exact hz.weak (WeakL.refl _) (Weak.tup (.cons (Weak.int (show ((0) : Int) = ((indexE t h w
    c).fst) from (by (simp only [indexE]; rw [if_neg (by omega)])))) (.cons (Weak.bool (show ((false) : Bool) = ((indexE t h w c).snd) from (by (simp only [indexE]; rw [if_neg (by omega)])))) .nil)))
        · have gc3 : ¬w < 0 := of_decide_eq_false hc3
          rcases Bool.eq_false_or_eq_true (decide (w ≥ t.x)) with hc4 | hc4
          · have gc4 : w ≥ t.x := of_decide_eq_true hc4
            have hz : VC Try.prog 102 ([shp t, i64 h, i64 w, i64 c]) (AV.tup [AV.lit (Value.int IntKind.i64 0), AV.lit (Value.bool false)]) := by
              refine VC.run (fn := Try.f102) Try.func102 (W := [.r [] [], .r [] [PI.callr (bv (decide (0 < elems t.h t.x t.c))),
 PI.br true,
 PI.br true,
 PI.br false,
 PI.br true,
 PI.br true,
 PI.br true,
 PI.br true,
 PI.br false,
 PI.br true,
 PI.br true,
 PI.br false,
 PI.br true,
 PI.br true,
 PI.br true,
 PI.br true,
 PI.br false,
 PI.br false,
 PI.br false,
 PI.br true,
 PI.br false,
 PI.br false,
 PI.br false,
 PI.br false,
 PI.br true], .br true, .r [] []])
                (ob := [VC Try.prog 99
  [AV.agg [AV.lit (Value.int IntKind.i64 t.h), AV.lit (Value.int IntKind.i64 t.x), AV.lit (Value.int IntKind.i64 t.c)]]
  (AV.lit (Value.bool (decide (0 < elems t.h t.x t.c)))),
                  (!decide (0 < elems t.h t.x t.c)) = false,
                  (!decide (0 < elems t.h t.x t.c)) = false,
                  (!decide (0 < elems t.h t.x t.c)) = false,
                  decide (h < 0) = false,
                  decide (h < 0) = false,
                  decide (h < 0) = false,
                  decide (h < 0) = false,
                  decide (h < 0) = false,
                  decide (h ≥ t.h) = false,
                  decide (h ≥ t.h) = false,
                  decide (h ≥ t.h) = false,
                  decide (w < 0) = false,
                  decide (w < 0) = false,
                  decide (w < 0) = false,
                  decide (w < 0) = false,
                  decide (w < 0) = false,
                  decide (w ≥ t.x) = !false,
                  decide (w ≥ t.x) = !false,
                  decide (w ≥ t.x) = true,
                  true = !false,
                  true = !false,
                  true = !false,
                  true = !false,
                  true = true,
                  true = true]) (by kernel_rfl) ?_
              exact ⟨(@sRight_v (t) (by with_reducible assumption)),
                                (by with_reducible assumption),
                                (by with_reducible assumption),
                                (by with_reducible assumption),
                                (by with_reducible assumption),
                                (by with_reducible assumption),
                                (by with_reducible assumption),
                                (by with_reducible assumption),
                                (by with_reducible assumption),
                                (by with_reducible assumption),
                                (by with_reducible assumption),
                                (by with_reducible assumption),
                                (by with_reducible assumption),
                                (by with_reducible assumption),
                                (by with_reducible assumption),
                                (by with_reducible assumption),
                                (by with_reducible assumption),
                                (by (refine decide_eq_true ?_; omega)),
                                (by (refine decide_eq_true ?_; omega)),
                                (by with_reducible assumption),
                                (by (simp; done)),
                                (by (simp; done)),
                                (by (simp; done)),
                                (by (simp; done)),
                                (by with_reducible rfl),
                                (by with_reducible rfl),
                                trivial⟩
            exact hz.weak (WeakL.refl _) (Weak.tup (.cons (Weak.int (show ((0) : Int) = ((indexE t h w
    c).fst) from (by (simp only [indexE]; rw [if_neg (by omega)])))) (.cons (Weak.bool (show ((false) : Bool) = ((indexE t h w c).snd) from (by (simp only [indexE]; rw [if_neg (by omega)])))) .nil)))
          · have gc4 : ¬w ≥ t.x := of_decide_eq_false hc4
            rcases Bool.eq_false_or_eq_true (decide (c < 0)) with hc5 | hc5
            · have gc5 : c < 0 := of_decide_eq_true hc5
              have hz : VC Try.prog 102 ([shp t, i64 h, i64 w, i64 c]) (AV.tup [AV.lit (Value.int IntKind.i64 0), AV.lit (Value.bool false)]) := by
                refine VC.run (fn := Try.f102) Try.func102 (W := [.r [] [], .r [] [PI.callr (bv (decide (0 < elems t.h t.x t.c))),
 PI.br true,
 PI.br true,
 PI.br false,
 PI.br true,
 PI.br true,
 PI.br true,
 PI.br true,
 PI.br false,
 PI.br true,
 PI.br true,
 PI.br false,
 PI.br true,
 PI.br true,
 PI.br true,
 PI.br true,
 PI.br false,
 PI.br true,
 PI.br true,
 PI.br false,
 PI.br false,
 PI.br false,
 PI.br false,
 PI.br false,
 PI.br true], .br true, .r [] []])
                  (ob := [VC Try.prog 99
  [AV.agg [AV.lit (Value.int IntKind.i64 t.h), AV.lit (Value.int IntKind.i64 t.x), AV.lit (Value.int IntKind.i64 t.c)]]
  (AV.lit (Value.bool (decide (0 < elems t.h t.x t.c)))),
                    (!decide (0 < elems t.h t.x t.c)) = false,
                    (!decide (0 < elems t.h t.x t.c)) = false,
                    (!decide (0 < elems t.h t.x t.c)) = false,
                    decide (h < 0) = false,
                    decide (h < 0) = false,
                    decide (h < 0) = false,
                    decide (h < 0) = false,
                    decide (h < 0) = false,
                    decide (h ≥ t.h) = false,
                    decide (h ≥ t.h) = false,
                    decide (h ≥ t.h) = false,
                    decide (w < 0) = false,
                    decide (w < 0) = false,
                    decide (w < 0) = false,
                    decide (w < 0) = false,
                    decide (w < 0) = false,
                    decide (w ≥ t.x) = false,
                    decide (w ≥ t.x) = false,
                    decide (w ≥ t.x) = false,
                    decide (c < 0) = !false,
                    decide (c < 0) = !false,
                    decide (c < 0) = !false,
                    decide (c < 0) = !false,
                    decide (c < 0) = true,
                    true = true]) (by kernel_rfl) ?_
                exact ⟨(@sRight_v (t) (by with_reducible assumption)),
                                    (by with_reducible assumption),
                                    (by with_reducible assumption),
                                    (by with_reducible assumption),
                                    (by with_reducible assumption),
                                    (by with_reducible assumption),
                                    (by with_reducible assumption),
                                    (by with_reducible assumption),
                                    (by with_reducible assumption),
                                    (by with_reducible assumption),
                                    (by with_reducible assumption),
                                    (by with_reducible assumption),
                                    (by with_reducible assumption),
                                    (by with_reducible assumption),
                                    (by with_reducible assumption),
                                    (by with_reducible assumption),
                                    (by with_reducible assumption),
                                    (by with_reducible assumption),
                                    (by with_reducible assumption),
                                    (by with_reducible assumption),
                                    (by (refine decide_eq_true ?_; omega)),
                                    (by (refine decide_eq_true ?_; omega)),
                                    (by (refine decide_eq_true ?_; omega)),
                                    (by (refine decide_eq_true ?_; omega)),
                                    (by with_reducible assumption),
                                    (by with_reducible rfl),
                                    trivial⟩
              exact hz.weak (WeakL.refl _) (Weak.tup (.cons (Weak.int (show ((0) : Int) = ((indexE t h w
    c).fst) from (by (simp only [indexE]; rw [if_neg (by omega)])))) (.cons (Weak.bool (show ((false) : Bool) = ((indexE t h w c).snd) from (by (simp only [indexE]; rw [if_neg (by omega)])))) .nil)))
            · have gc5 : ¬c < 0 := of_decide_eq_false hc5
              rcases Bool.eq_false_or_eq_true (decide (c ≥ t.c)) with hc6 | hc6
              · have gc6 : c ≥ t.c := of_decide_eq_true hc6
                have hz : VC Try.prog 102 ([shp t, i64 h, i64 w, i64 c]) (AV.tup [AV.lit (Value.int IntKind.i64 0), AV.lit (Value.bool false)]) := by
                  refine VC.run (fn := Try.f102) Try.func102 (W := [.r [] [], .r [] [PI.callr (bv (decide (0 < elems t.h t.x t.c))),
 PI.br true,
 PI.br true,
 PI.br false,
 PI.br true,
 PI.br true,
 PI.br true,
 PI.br true,
 PI.br false,
 PI.br true,
 PI.br true,
 PI.br false,
 PI.br true,
 PI.br true,
 PI.br true,
 PI.br true,
 PI.br false,
 PI.br true,
 PI.br true,
 PI.br false,
 PI.br true,
 PI.br true,
 PI.br true,
 PI.br true,
 PI.br false], .br true, .r [] []])
                    (ob := [VC Try.prog 99
  [AV.agg [AV.lit (Value.int IntKind.i64 t.h), AV.lit (Value.int IntKind.i64 t.x), AV.lit (Value.int IntKind.i64 t.c)]]
  (AV.lit (Value.bool (decide (0 < elems t.h t.x t.c)))),
                      (!decide (0 < elems t.h t.x t.c)) = false,
                      (!decide (0 < elems t.h t.x t.c)) = false,
                      (!decide (0 < elems t.h t.x t.c)) = false,
                      decide (h < 0) = false,
                      decide (h < 0) = false,
                      decide (h < 0) = false,
                      decide (h < 0) = false,
                      decide (h < 0) = false,
                      decide (h ≥ t.h) = false,
                      decide (h ≥ t.h) = false,
                      decide (h ≥ t.h) = false,
                      decide (w < 0) = false,
                      decide (w < 0) = false,
                      decide (w < 0) = false,
                      decide (w < 0) = false,
                      decide (w < 0) = false,
                      decide (w ≥ t.x) = false,
                      decide (w ≥ t.x) = false,
                      decide (w ≥ t.x) = false,
                      decide (c < 0) = false,
                      decide (c < 0) = false,
                      decide (c < 0) = false,
                      decide (c < 0) = false,
                      decide (c < 0) = false,
                      decide (c ≥ t.c) = true]) (by kernel_rfl) ?_
                  exact ⟨(@sRight_v (t) (by with_reducible assumption)),
                                        (by with_reducible assumption),
                                        (by with_reducible assumption),
                                        (by with_reducible assumption),
                                        (by with_reducible assumption),
                                        (by with_reducible assumption),
                                        (by with_reducible assumption),
                                        (by with_reducible assumption),
                                        (by with_reducible assumption),
                                        (by with_reducible assumption),
                                        (by with_reducible assumption),
                                        (by with_reducible assumption),
                                        (by with_reducible assumption),
                                        (by with_reducible assumption),
                                        (by with_reducible assumption),
                                        (by with_reducible assumption),
                                        (by with_reducible assumption),
                                        (by with_reducible assumption),
                                        (by with_reducible assumption),
                                        (by with_reducible assumption),
                                        (by with_reducible assumption),
                                        (by with_reducible assumption),
                                        (by with_reducible assumption),
                                        (by with_reducible assumption),
                                        (by with_reducible assumption),
                                        (by with_reducible assumption),
                                        trivial⟩
                exact hz.weak (WeakL.refl _) (Weak.tup (.cons (Weak.int (show ((0) : Int) = ((indexE t h w
    c).fst) from (by (simp only [indexE]; rw [if_neg (by omega)])))) (.cons (Weak.bool (show ((false) : Bool) = ((indexE t h w c).snd) from (by (simp only [indexE]; rw [if_neg (by omega)])))) .nil)))
              · have gc6 : ¬c ≥ t.c := of_decide_eq_false hc6
                have hz : VC Try.prog 102 ([shp t, i64 h, i64 w, i64 c]) (AV.tup [AV.lit (Value.int IntKind.i64 ((h * t.x + w) * t.c + c)), AV.lit (Value.bool true)]) := by
                  refine VC.run (fn := Try.f102) Try.func102 (W := [.r [] [], .r [] [PI.callr (bv (decide (0 < elems t.h t.x t.c))),
 PI.br true,
 PI.br true,
 PI.br false,
 PI.br true,
 PI.br true,
 PI.br true,
 PI.br true,
 PI.br false,
 PI.br true,
 PI.br true,
 PI.br false,
 PI.br true,
 PI.br true,
 PI.br true,
 PI.br true,
 PI.br false,
 PI.br true,
 PI.br true,
 PI.br false,
 PI.br true,
 PI.br true,
 PI.br true,
 PI.br true,
 PI.br
   false], .br false, .r [] [PI.n (h * t.x),
 PI.n (h * t.x + w),
 PI.n ((h * t.x + w) * t.c),
 PI.n ((h * t.x + w) * t.c + c)]])
                    (ob := [VC Try.prog 99
  [AV.agg [AV.lit (Value.int IntKind.i64 t.h), AV.lit (Value.int IntKind.i64 t.x), AV.lit (Value.int IntKind.i64 t.c)]]
  (AV.lit (Value.bool (decide (0 < elems t.h t.x t.c)))),
                      (!decide (0 < elems t.h t.x t.c)) = false,
                      (!decide (0 < elems t.h t.x t.c)) = false,
                      (!decide (0 < elems t.h t.x t.c)) = false,
                      decide (h < 0) = false,
                      decide (h < 0) = false,
                      decide (h < 0) = false,
                      decide (h < 0) = false,
                      decide (h < 0) = false,
                      decide (h ≥ t.h) = false,
                      decide (h ≥ t.h) = false,
                      decide (h ≥ t.h) = false,
                      decide (w < 0) = false,
                      decide (w < 0) = false,
                      decide (w < 0) = false,
                      decide (w < 0) = false,
                      decide (w < 0) = false,
                      decide (w ≥ t.x) = false,
                      decide (w ≥ t.x) = false,
                      decide (w ≥ t.x) = false,
                      decide (c < 0) = false,
                      decide (c < 0) = false,
                      decide (c < 0) = false,
                      decide (c < 0) = false,
                      decide (c < 0) = false,
                      decide (c ≥ t.c) = false,
                      IntKind.i64.wrap (h * t.x) = h * t.x,
                      IntKind.i64.wrap (h * t.x + w) = h * t.x + w,
                      IntKind.i64.wrap ((h * t.x + w) * t.c) = (h * t.x + w) * t.c,
                      IntKind.i64.wrap ((h * t.x + w) * t.c + c) = (h * t.x + w) * t.c + c]) (by kernel_rfl) ?_
                  exact ⟨(@sRight_v (t) (by with_reducible assumption)),
                                        (by with_reducible assumption),
                                        (by with_reducible assumption),
                                        (by with_reducible assumption),
                                        (by with_reducible assumption),
                                        (by with_reducible assumption),
                                        (by with_reducible assumption),
                                        (by with_reducible assumption),
                                        (by with_reducible assumption),
                                        (by with_reducible assumption),
                                        (by with_reducible assumption),
                                        (by with_reducible assumption),
                                        (by with_reducible assumption),
                                        (by with_reducible assumption),
                                        (by with_reducible assumption),
                                        (by with_reducible assumption),
                                        (by with_reducible assumption),
                                        (by with_reducible assumption),
                                        (by with_reducible assumption),
                                        (by with_reducible assumption),
                                        (by with_reducible assumption),
                                        (by with_reducible assumption),
                                        (by with_reducible assumption),
                                        (by with_reducible assumption),
                                        (by with_reducible assumption),
                                        (by with_reducible assumption),
                                        (by with_reducible exact IntWalk.i64_in _ (by have q2 := elems_ok (h := t.h) (x := t.x) (c := t.c) (by omega); have := place_bd (t := t) (h := h) (w := w) (c := c) (by omega) (by omega) (by omega) (by omega) (by omega) (by omega) (by omega); omega)),
                                        (by with_reducible exact IntWalk.i64_in _ (by have q2 := elems_ok (h := t.h) (x := t.x) (c := t.c) (by omega); have := place_bd (t := t) (h := h) (w := w) (c := c) (by omega) (by omega) (by omega) (by omega) (by omega) (by omega) (by omega); omega)),
                                        (by with_reducible exact IntWalk.i64_in _ (by have q2 := elems_ok (h := t.h) (x := t.x) (c := t.c) (by omega); have := place_bd (t := t) (h := h) (w := w) (c := c) (by omega) (by omega) (by omega) (by omega) (by omega) (by omega) (by omega); omega)),
                                        (by with_reducible exact IntWalk.i64_in _ (by have q2 := elems_ok (h := t.h) (x := t.x) (c := t.c) (by omega); have := place_bd (t := t) (h := h) (w := w) (c := c) (by omega) (by omega) (by omega) (by omega) (by omega) (by omega) (by omega); omega)),
                                        trivial⟩
                exact hz.weak (WeakL.refl _) (Weak.tup (.cons (Weak.int (show (((h * t.x + w) * t.c +
  c) : Int) = ((indexE t h w
    c).fst) from (by (simp only [indexE]; rw [if_pos (by omega)])))) (.cons (Weak.bool (show ((true) : Bool) = ((indexE t h w c).snd) from (by (simp only [indexE]; rw [if_pos (by omega)])))) .nil)))
theorem indexE_t {t : Shp} {h w c : Int} (q : (indexE t h w c).2 = true) : (0 < elems t.h t.x t.c ∧ 0 ≤ h ∧ h < t.h ∧ 0 ≤ w ∧ w < t.x ∧ 0 ≤ c ∧ c < t.c) ∧ (indexE t h w c).1 = (h * t.x + w) * t.c + c := by
  unfold indexE at q ⊢
  split at q
  · rename_i g; rw [if_pos g]; exact ⟨g, rfl⟩
  · cases q
theorem indexE_f {t : Shp} {h w c : Int} (q : (indexE t h w c).2 = false) (e : 0 < elems t.h t.x t.c) (c0 : 0 ≤ c) (c1 : c < t.c) : ¬ (0 ≤ h ∧ h < t.h ∧ 0 ≤ w ∧ w < t.x) := by
  unfold indexE at q
  split at q
  · cases q
  · rename_i g; intro k; exact g ⟨e, k.1, k.2.1, k.2.2.1, k.2.2.2, c0, c1⟩
theorem in8w {a : Int} (h : -128 ≤ a ∧ a ≤ 127) : -2147483648 ≤ a ∧ a ≤ 2147483647 := by omega
theorem in8x {a : Int} (h : -128 ≤ a ∧ a ≤ 127) : -9223372036854775808 ≤ a ∧ a ≤ 9223372036854775807 := by omega
theorem sub8 {a z : Int} (h : -128 ≤ a ∧ a ≤ 127) (h' : -128 ≤ z ∧ z ≤ 127) : -255 ≤ a - z ∧ a - z ≤ 255 := by omega
theorem sub8w {a z : Int} (h : -128 ≤ a ∧ a ≤ 127) (h' : -128 ≤ z ∧ z ≤ 127) : -2147483648 ≤ a - z ∧ a - z ≤ 2147483647 := by omega
theorem prod8w {a b z : Int} (h : -128 ≤ a ∧ a ≤ 127) (h' : -128 ≤ b ∧ b ≤ 127) (hz : -128 ≤ z ∧ z ≤ 127) : -2147483648 ≤ a * (b - z) ∧ a * (b - z) ≤ 2147483647 := by
  have := prod_bd h (sub8 h' hz); omega
/-- The shape of what a node makes, or why there is none. -/
def depthE (t : Shp) (n : Nod) : Shp × Int :=
  if (slideE t n.nk n.ns n.np t.c).2 ≠ 0 then (⟨0, 0, 0⟩, (slideE t n.nk n.ns n.np t.c).2)
  else if (n.w.length : Int) ≠ t.c * n.nk * n.nk ∨ 16384 < (n.w.length : Int) ∨ (n.b.length : Int) ≠ t.c then (⟨0, 0, 0⟩, 9) else ((slideE t n.nk n.ns n.np t.c).1, 0)
set_option maxRecDepth 100000 in
set_option maxHeartbeats 2000000 in
theorem depthShape_v (t : Shp) (n : Nod) (ok : t.Ok) (okn : n.Ok) : VC Try.prog 29 ([shp t, nod n]) (.tup [shp (depthE t n).1, i64 (depthE t n).2]) := by
  have q2 := ok.c
  rcases Bool.eq_false_or_eq_true ((slideE t n.nk n.ns n.np t.c).snd != 0) with hc0 | hc0
  · have gc0 : ¬(slideE t n.nk n.ns n.np t.c).snd = 0 := by first | exact hc0 | exact of_decide_eq_true hc0 | exact of_decide_eq_false hc0 | simpa [eqNums] using hc0 | (simp [eqNums] at hc0 ⊢; first | done | assumption | omega)
    have hz : VC Try.prog 29 ([shp t, nod n]) (AV.tup
  [AV.agg [AV.lit (Value.int IntKind.i64 0), AV.lit (Value.int IntKind.i64 0), AV.lit (Value.int IntKind.i64 0)],
    AV.lit (Value.int IntKind.i64 (slideE t n.nk n.ns n.np t.c).snd)]) := by
      refine VC.run (fn := Try.f29) Try.func29 (W := [.r [] [], .r [] [PI.callr
   (AV.tup
     [shp (slideE t n.nk n.ns n.np t.c).fst, i64 (slideE t n.nk n.ns n.np t.c).snd])], .r [] [], .br true, .r [] []])
        (ob := [VC Try.prog 67
  [AV.agg [AV.lit (Value.int IntKind.i64 t.h), AV.lit (Value.int IntKind.i64 t.x), AV.lit (Value.int IntKind.i64 t.c)],
          AV.lit (Value.int IntKind.i64 n.nk), AV.lit (Value.int IntKind.i64 n.ns), AV.lit (Value.int IntKind.i64 n.np),
          AV.lit (Value.int IntKind.i64 t.c)]
  (AV.tup
          [AV.agg
              [AV.lit (Value.int IntKind.i64 (slideE t n.nk n.ns n.np t.c).fst.h),
                AV.lit (Value.int IntKind.i64 (slideE t n.nk n.ns n.np t.c).fst.x),
                AV.lit (Value.int IntKind.i64 (slideE t n.nk n.ns n.np t.c).fst.c)],
            AV.lit (Value.int IntKind.i64 (slideE t n.nk n.ns n.np t.c).snd)]),
          ((slideE t n.nk n.ns n.np t.c).snd != 0) = true]) (by kernel_rfl) ?_
      exact ⟨(@slide_v (t) (n.nk) (n.ns) (n.np) (t.c) (by with_reducible assumption) (by with_reducible assumption)),
                (by with_reducible assumption),
                trivial⟩
    exact hz.weak (WeakL.refl _) (Weak.tup (.cons (Weak.agg (.cons (Weak.int (show ((0) : Int) = ((depthE t
      n).fst.h) from (by (simp only [depthE]; rw [if_pos (by omega)])))) (.cons (Weak.int (show ((0) : Int) = ((depthE t
      n).fst.x) from (by (simp only [depthE]; rw [if_pos (by omega)])))) (.cons (Weak.int (show ((0) : Int) = ((depthE t
      n).fst.c) from (by (simp only [depthE]; rw [if_pos (by omega)])))) .nil)))) (.cons (Weak.int (show (((slideE t n.nk n.ns n.np
    t.c).snd) : Int) = ((depthE t n).snd) from (by (simp only [depthE]; rw [if_pos (by omega)])))) .nil)))
  · have gc0 : (slideE t n.nk n.ns n.np t.c).snd = 0 := by first | exact hc0 | exact of_decide_eq_true hc0 | exact of_decide_eq_false hc0 | simpa [eqNums] using hc0 | (simp [eqNums] at hc0 ⊢; first | done | assumption | omega)
    rcases Bool.eq_false_or_eq_true ((↑(List.map (row1 IntKind.i8) n.w).length : Int) != t.c * n.nk * n.nk) with hc1 | hc1
    · have gc1 : ¬(↑(List.map (row1 IntKind.i8) n.w).length : Int) = t.c * n.nk * n.nk := by first | exact hc1 | exact of_decide_eq_true hc1 | exact of_decide_eq_false hc1 | simpa [eqNums] using hc1 | (simp [eqNums] at hc1 ⊢; first | done | assumption | omega)
      have hz : VC Try.prog 29 ([shp t, nod n]) (AV.tup
  [AV.agg [AV.lit (Value.int IntKind.i64 0), AV.lit (Value.int IntKind.i64 0), AV.lit (Value.int IntKind.i64 0)],
    AV.lit (Value.int IntKind.i64 9)]) := by
        refine VC.run (fn := Try.f29) Try.func29 (W := [.r [] [], .r [] [PI.callr
   (AV.tup
     [shp (slideE t n.nk n.ns n.np t.c).fst,
       i64
         (slideE t n.nk n.ns n.np
             t.c).snd])], .r [] [], .br false, .r [] [PI.n (t.c * n.nk),
 PI.n (t.c * n.nk * n.nk),
 PI.br false,
 PI.br false,
 PI.br false,
 PI.br false,
 PI.br true,
 PI.br false,
 PI.br false,
 PI.br false,
 PI.br false,
 PI.br false,
 PI.br false,
 PI.br true], .br true, .r [] []])
          (ob := [VC Try.prog 67
  [AV.agg [AV.lit (Value.int IntKind.i64 t.h), AV.lit (Value.int IntKind.i64 t.x), AV.lit (Value.int IntKind.i64 t.c)],
            AV.lit (Value.int IntKind.i64 n.nk), AV.lit (Value.int IntKind.i64 n.ns), AV.lit (Value.int IntKind.i64 n.np),
            AV.lit (Value.int IntKind.i64 t.c)]
  (AV.tup
            [AV.agg
                [AV.lit (Value.int IntKind.i64 (slideE t n.nk n.ns n.np t.c).fst.h),
                  AV.lit (Value.int IntKind.i64 (slideE t n.nk n.ns n.np t.c).fst.x),
                  AV.lit (Value.int IntKind.i64 (slideE t n.nk n.ns n.np t.c).fst.c)],
              AV.lit (Value.int IntKind.i64 (slideE t n.nk n.ns n.np t.c).snd)]),
            ((slideE t n.nk n.ns n.np t.c).snd != 0) = false,
            IntKind.i64.wrap (t.c * n.nk) = t.c * n.nk,
            IntKind.i64.wrap (t.c * n.nk * n.nk) = t.c * n.nk * n.nk,
            ((↑(List.map (row1 IntKind.i8) n.w).length : Int) != t.c * n.nk * n.nk) = !false,
            ((↑(List.map (row1 IntKind.i8) n.w).length : Int) != t.c * n.nk * n.nk) = !false,
            ((↑(List.map (row1 IntKind.i8) n.w).length : Int) != t.c * n.nk * n.nk) = !false,
            ((↑(List.map (row1 IntKind.i8) n.w).length : Int) != t.c * n.nk * n.nk) = !false,
            ((↑(List.map (row1 IntKind.i8) n.w).length : Int) != t.c * n.nk * n.nk) = true,
            true = !false,
            true = !false,
            true = !false,
            true = !false,
            true = !false,
            true = !false,
            true = true,
            true = true]) (by kernel_rfl) ?_
        exact ⟨(@slide_v (t) (n.nk) (n.ns) (n.np) (t.c) (by with_reducible assumption) (by with_reducible assumption)),
                    (by with_reducible assumption),
                    (by with_reducible exact IntWalk.i64_in _ (by have := wts_bd (t := t) (k := n.nk) (s := n.ns) (p := n.np) (o := t.c) (by omega); omega)),
                    (by with_reducible exact IntWalk.i64_in _ (by have := wts_bd (t := t) (k := n.nk) (s := n.ns) (p := n.np) (o := t.c) (by omega); omega)),
                    (by (simp at *; omega)),
                    (by (simp at *; omega)),
                    (by (simp at *; omega)),
                    (by (simp at *; omega)),
                    (by with_reducible assumption),
                    (by (simp; done)),
                    (by (simp; done)),
                    (by (simp; done)),
                    (by (simp; done)),
                    (by (simp; done)),
                    (by (simp; done)),
                    (by with_reducible rfl),
                    (by with_reducible rfl),
                    trivial⟩
      exact hz.weak (WeakL.refl _) (Weak.tup (.cons (Weak.agg (.cons (Weak.int (show ((0) : Int) = ((depthE t
      n).fst.h) from (by (simp only [depthE, List.length_map] at *; rw [if_neg (by omega), if_pos (by omega)])))) (.cons (Weak.int (show ((0) : Int) = ((depthE t
      n).fst.x) from (by (simp only [depthE, List.length_map] at *; rw [if_neg (by omega), if_pos (by omega)])))) (.cons (Weak.int (show ((0) : Int) = ((depthE t
      n).fst.c) from (by (simp only [depthE, List.length_map] at *; rw [if_neg (by omega), if_pos (by omega)])))) .nil)))) (.cons (Weak.int (show ((9) : Int) = ((depthE t n).snd) from (by (simp only [depthE, List.length_map] at *; rw [if_neg (by omega), if_pos (by omega)])))) .nil)))
    · have gc1 : (↑(List.map (row1 IntKind.i8) n.w).length : Int) = t.c * n.nk * n.nk := by first | exact hc1 | exact of_decide_eq_true hc1 | exact of_decide_eq_false hc1 | simpa [eqNums] using hc1 | (simp [eqNums] at hc1 ⊢; first | done | assumption | omega)
      rcases Bool.eq_false_or_eq_true (decide ((↑(List.map (row1 IntKind.i8) n.w).length : Int) > 16384)) with hc2 | hc2
      · have gc2 : (↑(List.map (row1 IntKind.i8) n.w).length : Int) > 16384 := of_decide_eq_true hc2
        have hz : VC Try.prog 29 ([shp t, nod n]) (AV.tup
  [AV.agg [AV.lit (Value.int IntKind.i64 0), AV.lit (Value.int IntKind.i64 0), AV.lit (Value.int IntKind.i64 0)],
    AV.lit (Value.int IntKind.i64 9)]) := by
          refine VC.run (fn := Try.f29) Try.func29 (W := [.r [] [], .r [] [PI.callr
   (AV.tup
     [shp (slideE t n.nk n.ns n.np t.c).fst,
       i64
         (slideE t n.nk n.ns n.np
             t.c).snd])], .r [] [], .br false, .r [] [PI.n (t.c * n.nk),
 PI.n (t.c * n.nk * n.nk),
 PI.br true,
 PI.br true,
 PI.br true,
 PI.br true,
 PI.br false,
 PI.br false,
 PI.br false,
 PI.br false,
 PI.br false,
 PI.br false,
 PI.br false,
 PI.br true], .br true, .r [] []])
            (ob := [VC Try.prog 67
  [AV.agg [AV.lit (Value.int IntKind.i64 t.h), AV.lit (Value.int IntKind.i64 t.x), AV.lit (Value.int IntKind.i64 t.c)],
              AV.lit (Value.int IntKind.i64 n.nk), AV.lit (Value.int IntKind.i64 n.ns), AV.lit (Value.int IntKind.i64 n.np),
              AV.lit (Value.int IntKind.i64 t.c)]
  (AV.tup
              [AV.agg
                  [AV.lit (Value.int IntKind.i64 (slideE t n.nk n.ns n.np t.c).fst.h),
                    AV.lit (Value.int IntKind.i64 (slideE t n.nk n.ns n.np t.c).fst.x),
                    AV.lit (Value.int IntKind.i64 (slideE t n.nk n.ns n.np t.c).fst.c)],
                AV.lit (Value.int IntKind.i64 (slideE t n.nk n.ns n.np t.c).snd)]),
              ((slideE t n.nk n.ns n.np t.c).snd != 0) = false,
              IntKind.i64.wrap (t.c * n.nk) = t.c * n.nk,
              IntKind.i64.wrap (t.c * n.nk * n.nk) = t.c * n.nk * n.nk,
              ((↑(List.map (row1 IntKind.i8) n.w).length : Int) != t.c * n.nk * n.nk) = false,
              ((↑(List.map (row1 IntKind.i8) n.w).length : Int) != t.c * n.nk * n.nk) = false,
              ((↑(List.map (row1 IntKind.i8) n.w).length : Int) != t.c * n.nk * n.nk) = false,
              ((↑(List.map (row1 IntKind.i8) n.w).length : Int) != t.c * n.nk * n.nk) = false,
              ((↑(List.map (row1 IntKind.i8) n.w).length : Int) != t.c * n.nk * n.nk) = false,
              decide ((↑(List.map (row1 IntKind.i8) n.w).length : Int) > 16384) = !false,
              decide ((↑(List.map (row1 IntKind.i8) n.w).length : Int) > 16384) = !false,
              decide ((↑(List.map (row1 IntKind.i8) n.w).length : Int) > 16384) = !false,
              decide ((↑(List.map (row1 IntKind.i8) n.w).length : Int) > 16384) = !false,
              decide ((↑(List.map (row1 IntKind.i8) n.w).length : Int) > 16384) = !false,
              decide ((↑(List.map (row1 IntKind.i8) n.w).length : Int) > 16384) = !false,
              decide ((↑(List.map (row1 IntKind.i8) n.w).length : Int) > 16384) = true,
              true = true]) (by kernel_rfl) ?_
          exact ⟨(@slide_v (t) (n.nk) (n.ns) (n.np) (t.c) (by with_reducible assumption) (by with_reducible assumption)),
                        (by with_reducible assumption),
                        (by with_reducible exact IntWalk.i64_in _ (by have := wts_bd (t := t) (k := n.nk) (s := n.ns) (p := n.np) (o := t.c) (by omega); omega)),
                        (by with_reducible exact IntWalk.i64_in _ (by have := wts_bd (t := t) (k := n.nk) (s := n.ns) (p := n.np) (o := t.c) (by omega); omega)),
                        (by with_reducible assumption),
                        (by with_reducible assumption),
                        (by with_reducible assumption),
                        (by with_reducible assumption),
                        (by with_reducible assumption),
                        (by (refine decide_eq_true ?_; omega)),
                        (by (refine decide_eq_true ?_; omega)),
                        (by (refine decide_eq_true ?_; omega)),
                        (by (refine decide_eq_true ?_; omega)),
                        (by (refine decide_eq_true ?_; omega)),
                        (by (refine decide_eq_true ?_; omega)),
                        (by with_reducible assumption),
                        (by with_reducible rfl),
                        trivial⟩
        exact hz.weak (WeakL.refl _) (Weak.tup (.cons (Weak.agg (.cons (Weak.int (show ((0) : Int) = ((depthE t
      n).fst.h) from (by (simp only [depthE, List.length_map] at *; rw [if_neg (by omega), if_pos (by omega)])))) (.cons (Weak.int (show ((0) : Int) = ((depthE t
      n).fst.x) from (by (simp only [depthE, List.length_map] at *; rw [if_neg (by omega), if_pos (by omega)])))) (.cons (Weak.int (show ((0) : Int) = ((depthE t
      n).fst.c) from (by (simp only [depthE, List.length_map] at *; rw [if_neg (by omega), if_pos (by omega)])))) .nil)))) (.cons (Weak.int (show ((9) : Int) = ((depthE t n).snd) from (by (simp only [depthE, List.length_map] at *; rw [if_neg (by omega), if_pos (by omega)])))) .nil)))
      · have gc2 : ¬(↑(List.map (row1 IntKind.i8) n.w).length : Int) > 16384 := of_decide_eq_false hc2
        rcases Bool.eq_false_or_eq_true ((↑(List.map (row1 IntKind.i32) n.b).length : Int) != t.c) with hc3 | hc3
        · have gc3 : ¬(↑(List.map (row1 IntKind.i32) n.b).length : Int) = t.c := by first | exact hc3 | exact of_decide_eq_true hc3 | exact of_decide_eq_false hc3 | simpa [eqNums] using hc3 | (simp [eqNums] at hc3 ⊢; first | done | assumption | omega)
          have hz : VC Try.prog 29 ([shp t, nod n]) (AV.tup
  [AV.agg [AV.lit (Value.int IntKind.i64 0), AV.lit (Value.int IntKind.i64 0), AV.lit (Value.int IntKind.i64 0)],
    AV.lit (Value.int IntKind.i64 9)]) := by
            refine VC.run (fn := Try.f29) Try.func29 (W := [.r [] [], .r [] [PI.callr
   (AV.tup
     [shp (slideE t n.nk n.ns n.np t.c).fst,
       i64
         (slideE t n.nk n.ns n.np
             t.c).snd])], .r [] [], .br false, .r [] [PI.n (t.c * n.nk),
 PI.n (t.c * n.nk * n.nk),
 PI.br true,
 PI.br true,
 PI.br true,
 PI.br true,
 PI.br false,
 PI.br true,
 PI.br true,
 PI.br true,
 PI.br true,
 PI.br true,
 PI.br true,
 PI.br false], .br true, .r [] []])
              (ob := [VC Try.prog 67
  [AV.agg [AV.lit (Value.int IntKind.i64 t.h), AV.lit (Value.int IntKind.i64 t.x), AV.lit (Value.int IntKind.i64 t.c)],
                AV.lit (Value.int IntKind.i64 n.nk), AV.lit (Value.int IntKind.i64 n.ns), AV.lit (Value.int IntKind.i64 n.np),
                AV.lit (Value.int IntKind.i64 t.c)]
  (AV.tup
                [AV.agg
                    [AV.lit (Value.int IntKind.i64 (slideE t n.nk n.ns n.np t.c).fst.h),
                      AV.lit (Value.int IntKind.i64 (slideE t n.nk n.ns n.np t.c).fst.x),
                      AV.lit (Value.int IntKind.i64 (slideE t n.nk n.ns n.np t.c).fst.c)],
                  AV.lit (Value.int IntKind.i64 (slideE t n.nk n.ns n.np t.c).snd)]),
                ((slideE t n.nk n.ns n.np t.c).snd != 0) = false,
                IntKind.i64.wrap (t.c * n.nk) = t.c * n.nk,
                IntKind.i64.wrap (t.c * n.nk * n.nk) = t.c * n.nk * n.nk,
                ((↑(List.map (row1 IntKind.i8) n.w).length : Int) != t.c * n.nk * n.nk) = false,
                ((↑(List.map (row1 IntKind.i8) n.w).length : Int) != t.c * n.nk * n.nk) = false,
                ((↑(List.map (row1 IntKind.i8) n.w).length : Int) != t.c * n.nk * n.nk) = false,
                ((↑(List.map (row1 IntKind.i8) n.w).length : Int) != t.c * n.nk * n.nk) = false,
                ((↑(List.map (row1 IntKind.i8) n.w).length : Int) != t.c * n.nk * n.nk) = false,
                decide ((↑(List.map (row1 IntKind.i8) n.w).length : Int) > 16384) = false,
                decide ((↑(List.map (row1 IntKind.i8) n.w).length : Int) > 16384) = false,
                decide ((↑(List.map (row1 IntKind.i8) n.w).length : Int) > 16384) = false,
                decide ((↑(List.map (row1 IntKind.i8) n.w).length : Int) > 16384) = false,
                decide ((↑(List.map (row1 IntKind.i8) n.w).length : Int) > 16384) = false,
                decide ((↑(List.map (row1 IntKind.i8) n.w).length : Int) > 16384) = false,
                decide ((↑(List.map (row1 IntKind.i8) n.w).length : Int) > 16384) = false,
                ((↑(List.map (row1 IntKind.i32) n.b).length : Int) != t.c) = true]) (by kernel_rfl) ?_
            exact ⟨(@slide_v (t) (n.nk) (n.ns) (n.np) (t.c) (by with_reducible assumption) (by with_reducible assumption)),
                            (by with_reducible assumption),
                            (by with_reducible exact IntWalk.i64_in _ (by have := wts_bd (t := t) (k := n.nk) (s := n.ns) (p := n.np) (o := t.c) (by omega); omega)),
                            (by exact IntWalk.i64_in _ (by omega)),
                            (by with_reducible assumption),
                            (by with_reducible assumption),
                            (by with_reducible assumption),
                            (by with_reducible assumption),
                            (by with_reducible assumption),
                            (by with_reducible assumption),
                            (by with_reducible assumption),
                            (by with_reducible assumption),
                            (by with_reducible assumption),
                            (by with_reducible assumption),
                            (by with_reducible assumption),
                            (by with_reducible assumption),
                            (by with_reducible assumption),
                            trivial⟩
          exact hz.weak (WeakL.refl _) (Weak.tup (.cons (Weak.agg (.cons (Weak.int (show ((0) : Int) = ((depthE t
      n).fst.h) from (by (simp only [depthE, List.length_map] at *; rw [if_neg (by omega), if_pos (by omega)])))) (.cons (Weak.int (show ((0) : Int) = ((depthE t
      n).fst.x) from (by (simp only [depthE, List.length_map] at *; rw [if_neg (by omega), if_pos (by omega)])))) (.cons (Weak.int (show ((0) : Int) = ((depthE t
      n).fst.c) from (by (simp only [depthE, List.length_map] at *; rw [if_neg (by omega), if_pos (by omega)])))) .nil)))) (.cons (Weak.int (show ((9) : Int) = ((depthE t n).snd) from (by (simp only [depthE, List.length_map] at *; rw [if_neg (by omega), if_pos (by omega)])))) .nil)))
        · have gc3 : (↑(List.map (row1 IntKind.i32) n.b).length : Int) = t.c := by first | exact hc3 | exact of_decide_eq_true hc3 | exact of_decide_eq_false hc3 | simpa [eqNums] using hc3 | (simp [eqNums] at hc3 ⊢; first | done | assumption | omega)
          have hz : VC Try.prog 29 ([shp t, nod n]) (AV.tup
  [AV.agg
      [AV.lit (Value.int IntKind.i64 (slideE t n.nk n.ns n.np t.c).fst.h),
        AV.lit (Value.int IntKind.i64 (slideE t n.nk n.ns n.np t.c).fst.x),
        AV.lit (Value.int IntKind.i64 (slideE t n.nk n.ns n.np t.c).fst.c)],
    AV.lit (Value.int IntKind.i64 0)]) := by
            refine VC.run (fn := Try.f29) Try.func29 (W := [.r [] [], .r [] [PI.callr
   (AV.tup
     [shp (slideE t n.nk n.ns n.np t.c).fst,
       i64
         (slideE t n.nk n.ns n.np
             t.c).snd])], .r [] [], .br false, .r [] [PI.n (t.c * n.nk),
 PI.n (t.c * n.nk * n.nk),
 PI.br true,
 PI.br true,
 PI.br true,
 PI.br true,
 PI.br false,
 PI.br true,
 PI.br true,
 PI.br true,
 PI.br true,
 PI.br true,
 PI.br true,
 PI.br false], .br false, .r [] []])
              (ob := [VC Try.prog 67
  [AV.agg [AV.lit (Value.int IntKind.i64 t.h), AV.lit (Value.int IntKind.i64 t.x), AV.lit (Value.int IntKind.i64 t.c)],
                AV.lit (Value.int IntKind.i64 n.nk), AV.lit (Value.int IntKind.i64 n.ns), AV.lit (Value.int IntKind.i64 n.np),
                AV.lit (Value.int IntKind.i64 t.c)]
  (AV.tup
                [AV.agg
                    [AV.lit (Value.int IntKind.i64 (slideE t n.nk n.ns n.np t.c).fst.h),
                      AV.lit (Value.int IntKind.i64 (slideE t n.nk n.ns n.np t.c).fst.x),
                      AV.lit (Value.int IntKind.i64 (slideE t n.nk n.ns n.np t.c).fst.c)],
                  AV.lit (Value.int IntKind.i64 (slideE t n.nk n.ns n.np t.c).snd)]),
                ((slideE t n.nk n.ns n.np t.c).snd != 0) = false,
                IntKind.i64.wrap (t.c * n.nk) = t.c * n.nk,
                IntKind.i64.wrap (t.c * n.nk * n.nk) = t.c * n.nk * n.nk,
                ((↑(List.map (row1 IntKind.i8) n.w).length : Int) != t.c * n.nk * n.nk) = false,
                ((↑(List.map (row1 IntKind.i8) n.w).length : Int) != t.c * n.nk * n.nk) = false,
                ((↑(List.map (row1 IntKind.i8) n.w).length : Int) != t.c * n.nk * n.nk) = false,
                ((↑(List.map (row1 IntKind.i8) n.w).length : Int) != t.c * n.nk * n.nk) = false,
                ((↑(List.map (row1 IntKind.i8) n.w).length : Int) != t.c * n.nk * n.nk) = false,
                decide ((↑(List.map (row1 IntKind.i8) n.w).length : Int) > 16384) = false,
                decide ((↑(List.map (row1 IntKind.i8) n.w).length : Int) > 16384) = false,
                decide ((↑(List.map (row1 IntKind.i8) n.w).length : Int) > 16384) = false,
                decide ((↑(List.map (row1 IntKind.i8) n.w).length : Int) > 16384) = false,
                decide ((↑(List.map (row1 IntKind.i8) n.w).length : Int) > 16384) = false,
                decide ((↑(List.map (row1 IntKind.i8) n.w).length : Int) > 16384) = false,
                decide ((↑(List.map (row1 IntKind.i8) n.w).length : Int) > 16384) = false,
                ((↑(List.map (row1 IntKind.i32) n.b).length : Int) != t.c) = false]) (by kernel_rfl) ?_
            exact ⟨(@slide_v (t) (n.nk) (n.ns) (n.np) (t.c) (by with_reducible assumption) (by with_reducible assumption)),
                            (by with_reducible assumption),
                            (by with_reducible exact IntWalk.i64_in _ (by have := wts_bd (t := t) (k := n.nk) (s := n.ns) (p := n.np) (o := t.c) (by omega); omega)),
                            (by exact IntWalk.i64_in _ (by omega)),
                            (by with_reducible assumption),
                            (by with_reducible assumption),
                            (by with_reducible assumption),
                            (by with_reducible assumption),
                            (by with_reducible assumption),
                            (by with_reducible assumption),
                            (by with_reducible assumption),
                            (by with_reducible assumption),
                            (by with_reducible assumption),
                            (by with_reducible assumption),
                            (by with_reducible assumption),
                            (by with_reducible assumption),
                            (by with_reducible assumption),
                            trivial⟩
          exact hz.weak (WeakL.refl _) (Weak.tup (.cons (Weak.agg (.cons (Weak.int (show (((slideE t n.nk n.ns n.np
      t.c).fst.h) : Int) = ((depthE t
      n).fst.h) from (by (simp only [depthE, List.length_map] at *; rw [if_neg (by omega), if_neg (by omega)])))) (.cons (Weak.int (show (((slideE t n.nk n.ns n.np
      t.c).fst.x) : Int) = ((depthE t
      n).fst.x) from (by (simp only [depthE, List.length_map] at *; rw [if_neg (by omega), if_neg (by omega)])))) (.cons (Weak.int (show (((slideE t n.nk n.ns n.np
      t.c).fst.c) : Int) = ((depthE t
      n).fst.c) from (by (simp only [depthE, List.length_map] at *; rw [if_neg (by omega), if_neg (by omega)])))) .nil)))) (.cons (Weak.int (show ((0) : Int) = ((depthE t n).snd) from (by (simp only [depthE, List.length_map] at *; rw [if_neg (by omega), if_neg (by omega)])))) .nil)))

set_option maxRecDepth 100000 in
set_option maxHeartbeats 2000000 in
theorem refDepthShape_v (t : Shp) (n : Nod) (ok : t.Ok) (okn : n.Ok) : VC Try.prog 30 ([shp t, nod n]) (.tup [shp (depthE t n).1, i64 (depthE t n).2]) := by
  have q2 := ok.c
  rcases Bool.eq_false_or_eq_true ((slideE t n.nk n.ns n.np t.c).snd != 0) with hc0 | hc0
  · have gc0 : ¬(slideE t n.nk n.ns n.np t.c).snd = 0 := by first | exact hc0 | exact of_decide_eq_true hc0 | exact of_decide_eq_false hc0 | simpa [eqNums] using hc0 | (simp [eqNums] at hc0 ⊢; first | done | assumption | omega)
    have hz : VC Try.prog 30 ([shp t, nod n]) (AV.tup
  [AV.agg [AV.lit (Value.int IntKind.i64 0), AV.lit (Value.int IntKind.i64 0), AV.lit (Value.int IntKind.i64 0)],
    AV.lit (Value.int IntKind.i64 (slideE t n.nk n.ns n.np t.c).snd)]) := by
      refine VC.run (fn := Try.f30) Try.func30 (W := [.r [] [], .r [] [PI.callr
   (AV.tup
     [shp (slideE t n.nk n.ns n.np t.c).fst, i64 (slideE t n.nk n.ns n.np t.c).snd])], .r [] [], .br true, .r [] []])
        (ob := [VC Try.prog 68
  [AV.agg [AV.lit (Value.int IntKind.i64 t.h), AV.lit (Value.int IntKind.i64 t.x), AV.lit (Value.int IntKind.i64 t.c)],
          AV.lit (Value.int IntKind.i64 n.nk), AV.lit (Value.int IntKind.i64 n.ns), AV.lit (Value.int IntKind.i64 n.np),
          AV.lit (Value.int IntKind.i64 t.c)]
  (AV.tup
          [AV.agg
              [AV.lit (Value.int IntKind.i64 (slideE t n.nk n.ns n.np t.c).fst.h),
                AV.lit (Value.int IntKind.i64 (slideE t n.nk n.ns n.np t.c).fst.x),
                AV.lit (Value.int IntKind.i64 (slideE t n.nk n.ns n.np t.c).fst.c)],
            AV.lit (Value.int IntKind.i64 (slideE t n.nk n.ns n.np t.c).snd)]),
          ((slideE t n.nk n.ns n.np t.c).snd != 0) = true]) (by kernel_rfl) ?_
      exact ⟨(@refSlide_v (t) (n.nk) (n.ns) (n.np) (t.c) (by with_reducible assumption) (by with_reducible assumption)),
                (by with_reducible assumption),
                trivial⟩
    exact hz.weak (WeakL.refl _) (Weak.tup (.cons (Weak.agg (.cons (Weak.int (show ((0) : Int) = ((depthE t
      n).fst.h) from (by (simp only [depthE]; rw [if_pos (by omega)])))) (.cons (Weak.int (show ((0) : Int) = ((depthE t
      n).fst.x) from (by (simp only [depthE]; rw [if_pos (by omega)])))) (.cons (Weak.int (show ((0) : Int) = ((depthE t
      n).fst.c) from (by (simp only [depthE]; rw [if_pos (by omega)])))) .nil)))) (.cons (Weak.int (show (((slideE t n.nk n.ns n.np
    t.c).snd) : Int) = ((depthE t n).snd) from (by (simp only [depthE]; rw [if_pos (by omega)])))) .nil)))
  · have gc0 : (slideE t n.nk n.ns n.np t.c).snd = 0 := by first | exact hc0 | exact of_decide_eq_true hc0 | exact of_decide_eq_false hc0 | simpa [eqNums] using hc0 | (simp [eqNums] at hc0 ⊢; first | done | assumption | omega)
    rcases Bool.eq_false_or_eq_true ((↑(List.map (row1 IntKind.i8) n.w).length : Int) != t.c * n.nk * n.nk) with hc1 | hc1
    · have gc1 : ¬(↑(List.map (row1 IntKind.i8) n.w).length : Int) = t.c * n.nk * n.nk := by first | exact hc1 | exact of_decide_eq_true hc1 | exact of_decide_eq_false hc1 | simpa [eqNums] using hc1 | (simp [eqNums] at hc1 ⊢; first | done | assumption | omega)
      have hz : VC Try.prog 30 ([shp t, nod n]) (AV.tup
  [AV.agg [AV.lit (Value.int IntKind.i64 0), AV.lit (Value.int IntKind.i64 0), AV.lit (Value.int IntKind.i64 0)],
    AV.lit (Value.int IntKind.i64 9)]) := by
        refine VC.run (fn := Try.f30) Try.func30 (W := [.r [] [], .r [] [PI.callr
   (AV.tup
     [shp (slideE t n.nk n.ns n.np t.c).fst,
       i64
         (slideE t n.nk n.ns n.np
             t.c).snd])], .r [] [], .br false, .r [] [PI.n (t.c * n.nk),
 PI.n (t.c * n.nk * n.nk),
 PI.br false,
 PI.br false,
 PI.br false,
 PI.br false,
 PI.br true,
 PI.br false,
 PI.br false,
 PI.br false,
 PI.br false,
 PI.br false,
 PI.br false,
 PI.br true], .br true, .r [] []])
          (ob := [VC Try.prog 68
  [AV.agg [AV.lit (Value.int IntKind.i64 t.h), AV.lit (Value.int IntKind.i64 t.x), AV.lit (Value.int IntKind.i64 t.c)],
            AV.lit (Value.int IntKind.i64 n.nk), AV.lit (Value.int IntKind.i64 n.ns), AV.lit (Value.int IntKind.i64 n.np),
            AV.lit (Value.int IntKind.i64 t.c)]
  (AV.tup
            [AV.agg
                [AV.lit (Value.int IntKind.i64 (slideE t n.nk n.ns n.np t.c).fst.h),
                  AV.lit (Value.int IntKind.i64 (slideE t n.nk n.ns n.np t.c).fst.x),
                  AV.lit (Value.int IntKind.i64 (slideE t n.nk n.ns n.np t.c).fst.c)],
              AV.lit (Value.int IntKind.i64 (slideE t n.nk n.ns n.np t.c).snd)]),
            ((slideE t n.nk n.ns n.np t.c).snd != 0) = false,
            IntKind.i64.wrap (t.c * n.nk) = t.c * n.nk,
            IntKind.i64.wrap (t.c * n.nk * n.nk) = t.c * n.nk * n.nk,
            ((↑(List.map (row1 IntKind.i8) n.w).length : Int) != t.c * n.nk * n.nk) = !false,
            ((↑(List.map (row1 IntKind.i8) n.w).length : Int) != t.c * n.nk * n.nk) = !false,
            ((↑(List.map (row1 IntKind.i8) n.w).length : Int) != t.c * n.nk * n.nk) = !false,
            ((↑(List.map (row1 IntKind.i8) n.w).length : Int) != t.c * n.nk * n.nk) = !false,
            ((↑(List.map (row1 IntKind.i8) n.w).length : Int) != t.c * n.nk * n.nk) = true,
            true = !false,
            true = !false,
            true = !false,
            true = !false,
            true = !false,
            true = !false,
            true = true,
            true = true]) (by kernel_rfl) ?_
        exact ⟨(@refSlide_v (t) (n.nk) (n.ns) (n.np) (t.c) (by with_reducible assumption) (by with_reducible assumption)),
                    (by with_reducible assumption),
                    (by with_reducible exact IntWalk.i64_in _ (by have := wts_bd (t := t) (k := n.nk) (s := n.ns) (p := n.np) (o := t.c) (by omega); omega)),
                    (by with_reducible exact IntWalk.i64_in _ (by have := wts_bd (t := t) (k := n.nk) (s := n.ns) (p := n.np) (o := t.c) (by omega); omega)),
                    (by (simp at *; omega)),
                    (by (simp at *; omega)),
                    (by (simp at *; omega)),
                    (by (simp at *; omega)),
                    (by with_reducible assumption),
                    (by (simp; done)),
                    (by (simp; done)),
                    (by (simp; done)),
                    (by (simp; done)),
                    (by (simp; done)),
                    (by (simp; done)),
                    (by with_reducible rfl),
                    (by with_reducible rfl),
                    trivial⟩
      exact hz.weak (WeakL.refl _) (Weak.tup (.cons (Weak.agg (.cons (Weak.int (show ((0) : Int) = ((depthE t
      n).fst.h) from (by (simp only [depthE, List.length_map] at *; rw [if_neg (by omega), if_pos (by omega)])))) (.cons (Weak.int (show ((0) : Int) = ((depthE t
      n).fst.x) from (by (simp only [depthE, List.length_map] at *; rw [if_neg (by omega), if_pos (by omega)])))) (.cons (Weak.int (show ((0) : Int) = ((depthE t
      n).fst.c) from (by (simp only [depthE, List.length_map] at *; rw [if_neg (by omega), if_pos (by omega)])))) .nil)))) (.cons (Weak.int (show ((9) : Int) = ((depthE t n).snd) from (by (simp only [depthE, List.length_map] at *; rw [if_neg (by omega), if_pos (by omega)])))) .nil)))
    · have gc1 : (↑(List.map (row1 IntKind.i8) n.w).length : Int) = t.c * n.nk * n.nk := by first | exact hc1 | exact of_decide_eq_true hc1 | exact of_decide_eq_false hc1 | simpa [eqNums] using hc1 | (simp [eqNums] at hc1 ⊢; first | done | assumption | omega)
      rcases Bool.eq_false_or_eq_true (decide ((↑(List.map (row1 IntKind.i8) n.w).length : Int) > 16384)) with hc2 | hc2
      · have gc2 : (↑(List.map (row1 IntKind.i8) n.w).length : Int) > 16384 := of_decide_eq_true hc2
        have hz : VC Try.prog 30 ([shp t, nod n]) (AV.tup
  [AV.agg [AV.lit (Value.int IntKind.i64 0), AV.lit (Value.int IntKind.i64 0), AV.lit (Value.int IntKind.i64 0)],
    AV.lit (Value.int IntKind.i64 9)]) := by
          refine VC.run (fn := Try.f30) Try.func30 (W := [.r [] [], .r [] [PI.callr
   (AV.tup
     [shp (slideE t n.nk n.ns n.np t.c).fst,
       i64
         (slideE t n.nk n.ns n.np
             t.c).snd])], .r [] [], .br false, .r [] [PI.n (t.c * n.nk),
 PI.n (t.c * n.nk * n.nk),
 PI.br true,
 PI.br true,
 PI.br true,
 PI.br true,
 PI.br false,
 PI.br false,
 PI.br false,
 PI.br false,
 PI.br false,
 PI.br false,
 PI.br false,
 PI.br true], .br true, .r [] []])
            (ob := [VC Try.prog 68
  [AV.agg [AV.lit (Value.int IntKind.i64 t.h), AV.lit (Value.int IntKind.i64 t.x), AV.lit (Value.int IntKind.i64 t.c)],
              AV.lit (Value.int IntKind.i64 n.nk), AV.lit (Value.int IntKind.i64 n.ns), AV.lit (Value.int IntKind.i64 n.np),
              AV.lit (Value.int IntKind.i64 t.c)]
  (AV.tup
              [AV.agg
                  [AV.lit (Value.int IntKind.i64 (slideE t n.nk n.ns n.np t.c).fst.h),
                    AV.lit (Value.int IntKind.i64 (slideE t n.nk n.ns n.np t.c).fst.x),
                    AV.lit (Value.int IntKind.i64 (slideE t n.nk n.ns n.np t.c).fst.c)],
                AV.lit (Value.int IntKind.i64 (slideE t n.nk n.ns n.np t.c).snd)]),
              ((slideE t n.nk n.ns n.np t.c).snd != 0) = false,
              IntKind.i64.wrap (t.c * n.nk) = t.c * n.nk,
              IntKind.i64.wrap (t.c * n.nk * n.nk) = t.c * n.nk * n.nk,
              ((↑(List.map (row1 IntKind.i8) n.w).length : Int) != t.c * n.nk * n.nk) = false,
              ((↑(List.map (row1 IntKind.i8) n.w).length : Int) != t.c * n.nk * n.nk) = false,
              ((↑(List.map (row1 IntKind.i8) n.w).length : Int) != t.c * n.nk * n.nk) = false,
              ((↑(List.map (row1 IntKind.i8) n.w).length : Int) != t.c * n.nk * n.nk) = false,
              ((↑(List.map (row1 IntKind.i8) n.w).length : Int) != t.c * n.nk * n.nk) = false,
              decide ((↑(List.map (row1 IntKind.i8) n.w).length : Int) > 16384) = !false,
              decide ((↑(List.map (row1 IntKind.i8) n.w).length : Int) > 16384) = !false,
              decide ((↑(List.map (row1 IntKind.i8) n.w).length : Int) > 16384) = !false,
              decide ((↑(List.map (row1 IntKind.i8) n.w).length : Int) > 16384) = !false,
              decide ((↑(List.map (row1 IntKind.i8) n.w).length : Int) > 16384) = !false,
              decide ((↑(List.map (row1 IntKind.i8) n.w).length : Int) > 16384) = !false,
              decide ((↑(List.map (row1 IntKind.i8) n.w).length : Int) > 16384) = true,
              true = true]) (by kernel_rfl) ?_
          exact ⟨(@refSlide_v (t) (n.nk) (n.ns) (n.np) (t.c) (by with_reducible assumption) (by with_reducible assumption)),
                        (by with_reducible assumption),
                        (by with_reducible exact IntWalk.i64_in _ (by have := wts_bd (t := t) (k := n.nk) (s := n.ns) (p := n.np) (o := t.c) (by omega); omega)),
                        (by with_reducible exact IntWalk.i64_in _ (by have := wts_bd (t := t) (k := n.nk) (s := n.ns) (p := n.np) (o := t.c) (by omega); omega)),
                        (by with_reducible assumption),
                        (by with_reducible assumption),
                        (by with_reducible assumption),
                        (by with_reducible assumption),
                        (by with_reducible assumption),
                        (by (refine decide_eq_true ?_; omega)),
                        (by (refine decide_eq_true ?_; omega)),
                        (by (refine decide_eq_true ?_; omega)),
                        (by (refine decide_eq_true ?_; omega)),
                        (by (refine decide_eq_true ?_; omega)),
                        (by (refine decide_eq_true ?_; omega)),
                        (by with_reducible assumption),
                        (by with_reducible rfl),
                        trivial⟩
        exact hz.weak (WeakL.refl _) (Weak.tup (.cons (Weak.agg (.cons (Weak.int (show ((0) : Int) = ((depthE t
      n).fst.h) from (by (simp only [depthE, List.length_map] at *; rw [if_neg (by omega), if_pos (by omega)])))) (.cons (Weak.int (show ((0) : Int) = ((depthE t
      n).fst.x) from (by (simp only [depthE, List.length_map] at *; rw [if_neg (by omega), if_pos (by omega)])))) (.cons (Weak.int (show ((0) : Int) = ((depthE t
      n).fst.c) from (by (simp only [depthE, List.length_map] at *; rw [if_neg (by omega), if_pos (by omega)])))) .nil)))) (.cons (Weak.int (show ((9) : Int) = ((depthE t n).snd) from (by (simp only [depthE, List.length_map] at *; rw [if_neg (by omega), if_pos (by omega)])))) .nil)))
      · have gc2 : ¬(↑(List.map (row1 IntKind.i8) n.w).length : Int) > 16384 := of_decide_eq_false hc2
        rcases Bool.eq_false_or_eq_true ((↑(List.map (row1 IntKind.i32) n.b).length : Int) != t.c) with hc3 | hc3
        · have gc3 : ¬(↑(List.map (row1 IntKind.i32) n.b).length : Int) = t.c := by first | exact hc3 | exact of_decide_eq_true hc3 | exact of_decide_eq_false hc3 | simpa [eqNums] using hc3 | (simp [eqNums] at hc3 ⊢; first | done | assumption | omega)
          have hz : VC Try.prog 30 ([shp t, nod n]) (AV.tup
  [AV.agg [AV.lit (Value.int IntKind.i64 0), AV.lit (Value.int IntKind.i64 0), AV.lit (Value.int IntKind.i64 0)],
    AV.lit (Value.int IntKind.i64 9)]) := by
            refine VC.run (fn := Try.f30) Try.func30 (W := [.r [] [], .r [] [PI.callr
   (AV.tup
     [shp (slideE t n.nk n.ns n.np t.c).fst,
       i64
         (slideE t n.nk n.ns n.np
             t.c).snd])], .r [] [], .br false, .r [] [PI.n (t.c * n.nk),
 PI.n (t.c * n.nk * n.nk),
 PI.br true,
 PI.br true,
 PI.br true,
 PI.br true,
 PI.br false,
 PI.br true,
 PI.br true,
 PI.br true,
 PI.br true,
 PI.br true,
 PI.br true,
 PI.br false], .br true, .r [] []])
              (ob := [VC Try.prog 68
  [AV.agg [AV.lit (Value.int IntKind.i64 t.h), AV.lit (Value.int IntKind.i64 t.x), AV.lit (Value.int IntKind.i64 t.c)],
                AV.lit (Value.int IntKind.i64 n.nk), AV.lit (Value.int IntKind.i64 n.ns), AV.lit (Value.int IntKind.i64 n.np),
                AV.lit (Value.int IntKind.i64 t.c)]
  (AV.tup
                [AV.agg
                    [AV.lit (Value.int IntKind.i64 (slideE t n.nk n.ns n.np t.c).fst.h),
                      AV.lit (Value.int IntKind.i64 (slideE t n.nk n.ns n.np t.c).fst.x),
                      AV.lit (Value.int IntKind.i64 (slideE t n.nk n.ns n.np t.c).fst.c)],
                  AV.lit (Value.int IntKind.i64 (slideE t n.nk n.ns n.np t.c).snd)]),
                ((slideE t n.nk n.ns n.np t.c).snd != 0) = false,
                IntKind.i64.wrap (t.c * n.nk) = t.c * n.nk,
                IntKind.i64.wrap (t.c * n.nk * n.nk) = t.c * n.nk * n.nk,
                ((↑(List.map (row1 IntKind.i8) n.w).length : Int) != t.c * n.nk * n.nk) = false,
                ((↑(List.map (row1 IntKind.i8) n.w).length : Int) != t.c * n.nk * n.nk) = false,
                ((↑(List.map (row1 IntKind.i8) n.w).length : Int) != t.c * n.nk * n.nk) = false,
                ((↑(List.map (row1 IntKind.i8) n.w).length : Int) != t.c * n.nk * n.nk) = false,
                ((↑(List.map (row1 IntKind.i8) n.w).length : Int) != t.c * n.nk * n.nk) = false,
                decide ((↑(List.map (row1 IntKind.i8) n.w).length : Int) > 16384) = false,
                decide ((↑(List.map (row1 IntKind.i8) n.w).length : Int) > 16384) = false,
                decide ((↑(List.map (row1 IntKind.i8) n.w).length : Int) > 16384) = false,
                decide ((↑(List.map (row1 IntKind.i8) n.w).length : Int) > 16384) = false,
                decide ((↑(List.map (row1 IntKind.i8) n.w).length : Int) > 16384) = false,
                decide ((↑(List.map (row1 IntKind.i8) n.w).length : Int) > 16384) = false,
                decide ((↑(List.map (row1 IntKind.i8) n.w).length : Int) > 16384) = false,
                ((↑(List.map (row1 IntKind.i32) n.b).length : Int) != t.c) = true]) (by kernel_rfl) ?_
            exact ⟨(@refSlide_v (t) (n.nk) (n.ns) (n.np) (t.c) (by with_reducible assumption) (by with_reducible assumption)),
                            (by with_reducible assumption),
                            (by with_reducible exact IntWalk.i64_in _ (by have := wts_bd (t := t) (k := n.nk) (s := n.ns) (p := n.np) (o := t.c) (by omega); omega)),
                            (by exact IntWalk.i64_in _ (by omega)),
                            (by with_reducible assumption),
                            (by with_reducible assumption),
                            (by with_reducible assumption),
                            (by with_reducible assumption),
                            (by with_reducible assumption),
                            (by with_reducible assumption),
                            (by with_reducible assumption),
                            (by with_reducible assumption),
                            (by with_reducible assumption),
                            (by with_reducible assumption),
                            (by with_reducible assumption),
                            (by with_reducible assumption),
                            (by with_reducible assumption),
                            trivial⟩
          exact hz.weak (WeakL.refl _) (Weak.tup (.cons (Weak.agg (.cons (Weak.int (show ((0) : Int) = ((depthE t
      n).fst.h) from (by (simp only [depthE, List.length_map] at *; rw [if_neg (by omega), if_pos (by omega)])))) (.cons (Weak.int (show ((0) : Int) = ((depthE t
      n).fst.x) from (by (simp only [depthE, List.length_map] at *; rw [if_neg (by omega), if_pos (by omega)])))) (.cons (Weak.int (show ((0) : Int) = ((depthE t
      n).fst.c) from (by (simp only [depthE, List.length_map] at *; rw [if_neg (by omega), if_pos (by omega)])))) .nil)))) (.cons (Weak.int (show ((9) : Int) = ((depthE t n).snd) from (by (simp only [depthE, List.length_map] at *; rw [if_neg (by omega), if_pos (by omega)])))) .nil)))
        · have gc3 : (↑(List.map (row1 IntKind.i32) n.b).length : Int) = t.c := by first | exact hc3 | exact of_decide_eq_true hc3 | exact of_decide_eq_false hc3 | simpa [eqNums] using hc3 | (simp [eqNums] at hc3 ⊢; first | done | assumption | omega)
          have hz : VC Try.prog 30 ([shp t, nod n]) (AV.tup
  [AV.agg
      [AV.lit (Value.int IntKind.i64 (slideE t n.nk n.ns n.np t.c).fst.h),
        AV.lit (Value.int IntKind.i64 (slideE t n.nk n.ns n.np t.c).fst.x),
        AV.lit (Value.int IntKind.i64 (slideE t n.nk n.ns n.np t.c).fst.c)],
    AV.lit (Value.int IntKind.i64 0)]) := by
            refine VC.run (fn := Try.f30) Try.func30 (W := [.r [] [], .r [] [PI.callr
   (AV.tup
     [shp (slideE t n.nk n.ns n.np t.c).fst,
       i64
         (slideE t n.nk n.ns n.np
             t.c).snd])], .r [] [], .br false, .r [] [PI.n (t.c * n.nk),
 PI.n (t.c * n.nk * n.nk),
 PI.br true,
 PI.br true,
 PI.br true,
 PI.br true,
 PI.br false,
 PI.br true,
 PI.br true,
 PI.br true,
 PI.br true,
 PI.br true,
 PI.br true,
 PI.br false], .br false, .r [] []])
              (ob := [VC Try.prog 68
  [AV.agg [AV.lit (Value.int IntKind.i64 t.h), AV.lit (Value.int IntKind.i64 t.x), AV.lit (Value.int IntKind.i64 t.c)],
                AV.lit (Value.int IntKind.i64 n.nk), AV.lit (Value.int IntKind.i64 n.ns), AV.lit (Value.int IntKind.i64 n.np),
                AV.lit (Value.int IntKind.i64 t.c)]
  (AV.tup
                [AV.agg
                    [AV.lit (Value.int IntKind.i64 (slideE t n.nk n.ns n.np t.c).fst.h),
                      AV.lit (Value.int IntKind.i64 (slideE t n.nk n.ns n.np t.c).fst.x),
                      AV.lit (Value.int IntKind.i64 (slideE t n.nk n.ns n.np t.c).fst.c)],
                  AV.lit (Value.int IntKind.i64 (slideE t n.nk n.ns n.np t.c).snd)]),
                ((slideE t n.nk n.ns n.np t.c).snd != 0) = false,
                IntKind.i64.wrap (t.c * n.nk) = t.c * n.nk,
                IntKind.i64.wrap (t.c * n.nk * n.nk) = t.c * n.nk * n.nk,
                ((↑(List.map (row1 IntKind.i8) n.w).length : Int) != t.c * n.nk * n.nk) = false,
                ((↑(List.map (row1 IntKind.i8) n.w).length : Int) != t.c * n.nk * n.nk) = false,
                ((↑(List.map (row1 IntKind.i8) n.w).length : Int) != t.c * n.nk * n.nk) = false,
                ((↑(List.map (row1 IntKind.i8) n.w).length : Int) != t.c * n.nk * n.nk) = false,
                ((↑(List.map (row1 IntKind.i8) n.w).length : Int) != t.c * n.nk * n.nk) = false,
                decide ((↑(List.map (row1 IntKind.i8) n.w).length : Int) > 16384) = false,
                decide ((↑(List.map (row1 IntKind.i8) n.w).length : Int) > 16384) = false,
                decide ((↑(List.map (row1 IntKind.i8) n.w).length : Int) > 16384) = false,
                decide ((↑(List.map (row1 IntKind.i8) n.w).length : Int) > 16384) = false,
                decide ((↑(List.map (row1 IntKind.i8) n.w).length : Int) > 16384) = false,
                decide ((↑(List.map (row1 IntKind.i8) n.w).length : Int) > 16384) = false,
                decide ((↑(List.map (row1 IntKind.i8) n.w).length : Int) > 16384) = false,
                ((↑(List.map (row1 IntKind.i32) n.b).length : Int) != t.c) = false]) (by kernel_rfl) ?_
            exact ⟨(@refSlide_v (t) (n.nk) (n.ns) (n.np) (t.c) (by with_reducible assumption) (by with_reducible assumption)),
                            (by with_reducible assumption),
                            (by with_reducible exact IntWalk.i64_in _ (by have := wts_bd (t := t) (k := n.nk) (s := n.ns) (p := n.np) (o := t.c) (by omega); omega)),
                            (by exact IntWalk.i64_in _ (by omega)),
                            (by with_reducible assumption),
                            (by with_reducible assumption),
                            (by with_reducible assumption),
                            (by with_reducible assumption),
                            (by with_reducible assumption),
                            (by with_reducible assumption),
                            (by with_reducible assumption),
                            (by with_reducible assumption),
                            (by with_reducible assumption),
                            (by with_reducible assumption),
                            (by with_reducible assumption),
                            (by with_reducible assumption),
                            (by with_reducible assumption),
                            trivial⟩
          exact hz.weak (WeakL.refl _) (Weak.tup (.cons (Weak.agg (.cons (Weak.int (show (((slideE t n.nk n.ns n.np
      t.c).fst.h) : Int) = ((depthE t
      n).fst.h) from (by (simp only [depthE, List.length_map] at *; rw [if_neg (by omega), if_neg (by omega)])))) (.cons (Weak.int (show (((slideE t n.nk n.ns n.np
      t.c).fst.x) : Int) = ((depthE t
      n).fst.x) from (by (simp only [depthE, List.length_map] at *; rw [if_neg (by omega), if_neg (by omega)])))) (.cons (Weak.int (show (((slideE t n.nk n.ns n.np
      t.c).fst.c) : Int) = ((depthE t
      n).fst.c) from (by (simp only [depthE, List.length_map] at *; rw [if_neg (by omega), if_neg (by omega)])))) .nil)))) (.cons (Weak.int (show ((0) : Int) = ((depthE t n).snd) from (by (simp only [depthE, List.length_map] at *; rw [if_neg (by omega), if_neg (by omega)])))) .nil)))
structure DpOk (T : Ten) (n : Nod) : Prop where
  ok : T.Ok
  okn : n.Ok
  r : tenRight T = true
  e : (depthE ⟨T.h, T.x, T.c⟩ n).2 = 0
theorem depthE_ok {t : Shp} {n : Nod} (h : (depthE t n).2 = 0) : (slideE t n.nk n.ns n.np t.c).2 = 0 ∧ (n.w.length : Int) = t.c * n.nk * n.nk ∧ n.w.length ≤ 16384 ∧ (n.b.length : Int) = t.c ∧ (depthE t n).1 = (slideE t n.nk n.ns n.np t.c).1 := by
  unfold depthE at h ⊢
  split at h
  · rename_i h1; exact absurd h h1
  · split at h
    · simp at h
    · rename_i h1 h2
      rw [if_neg h1, if_neg h2]
      exact ⟨by omega, by omega, by omega, by omega, rfl⟩
structure DpN (T : Ten) (n : Nod) : Prop where
  q : 0 < elems T.h T.x T.c
  h1 : 1 ≤ T.h
  h16 : T.h ≤ 16
  x1 : 1 ≤ T.x
  x16 : T.x ≤ 16
  c1 : 1 ≤ T.c
  c2 : T.c ≤ 1024
  k1 : 1 ≤ n.nk
  k5 : n.nk ≤ 5
  s1 : 1 ≤ n.ns
  s4 : n.ns ≤ 4
  p0 : 0 ≤ n.np
  p4 : n.np ≤ 4
  wl : (n.w.length : Int) = T.c * n.nk * n.nk
  w2 : n.w.length ≤ 16384
  bl : (n.b.length : Int) = T.c
  dl : (T.d.length : Int) = elems T.h T.x T.c
  d2 : T.d.length ≤ 1024
  sc : (depthE ⟨T.h, T.x, T.c⟩ n).1.c = T.c
  he : 1 ≤ (depthE ⟨T.h, T.x, T.c⟩ n).1.h ∧ (depthE ⟨T.h, T.x, T.c⟩ n).1.h ≤ 16
  xe : 1 ≤ (depthE ⟨T.h, T.x, T.c⟩ n).1.x ∧ (depthE ⟨T.h, T.x, T.c⟩ n).1.x ≤ 16
  el : (depthE ⟨T.h, T.x, T.c⟩ n).1.h * (depthE ⟨T.h, T.x, T.c⟩ n).1.x * T.c ≤ 1024
  en : elems (depthE ⟨T.h, T.x, T.c⟩ n).1.h (depthE ⟨T.h, T.x, T.c⟩ n).1.x (depthE ⟨T.h, T.x, T.c⟩ n).1.c = (depthE ⟨T.h, T.x, T.c⟩ n).1.h * (depthE ⟨T.h, T.x, T.c⟩ n).1.x * T.c
theorem DpOk.n {T : Ten} {n : Nod} (h : DpOk T n) : DpN T n := by
  obtain ⟨ok, okn, r, e⟩ := h
  obtain ⟨e1, e2, e3, e4, e5⟩ := depthE_ok e
  obtain ⟨a1, a2, a3, a4, a5, a6, a7, a8, a9, a10, a11, a12⟩ := slideE_ok e1
  have c := elems_ok a12
  unfold tenRight at r
  rw [Bool.and_eq_true, decide_eq_true_eq, decide_eq_true_eq] at r
  have b' := elems_ok r.1
  have e5' : (depthE ⟨T.h, T.x, T.c⟩ n).1 = ⟨(T.h + 2 * n.np - n.nk) / n.ns + 1, (T.x + 2 * n.np - n.nk) / n.ns + 1, T.c⟩ := e5.trans a11
  have e2' : (n.w.length : Int) = T.c * n.nk * n.nk := e2
  have e4' : (n.b.length : Int) = T.c := e4
  clear e5 a11 e2 a9 a10 e4
  have c' : 1 ≤ (T.h + 2 * n.np - n.nk) / n.ns + 1 ∧ (T.h + 2 * n.np - n.nk) / n.ns + 1 ≤ 16 ∧ 1 ≤ (T.x + 2 * n.np - n.nk) / n.ns + 1 ∧ (T.x + 2 * n.np - n.nk) / n.ns + 1 ≤ 16 ∧ 1 ≤ T.c ∧ T.c ≤ 1024 ∧ ((T.h + 2 * n.np - n.nk) / n.ns + 1) * ((T.x + 2 * n.np - n.nk) / n.ns + 1) * T.c ≤ 1024 ∧
    elems ((T.h + 2 * n.np - n.nk) / n.ns + 1) ((T.x + 2 * n.np - n.nk) / n.ns + 1) T.c = ((T.h + 2 * n.np - n.nk) / n.ns + 1) * ((T.x + 2 * n.np - n.nk) / n.ns + 1) * T.c := c
  clear c
  refine ⟨r.1, by omega, by omega, by omega, by omega, by omega, by omega, by omega, by omega, by omega, by omega, by omega, by omega, e2', e3, e4', by omega, by omega, by rw [e5'], ?_, ?_, ?_, ?_⟩ <;> rw [e5'] <;> simp only <;> omega
/-- One product. -/
def dterm (T : Ten) (n : Nod) (c y x : Int) (i : Int) : Int := n.w.getD (c * n.nk * n.nk + i).toNat 0 * (T.d.getD ((y * T.x + x) * T.c + c).toNat 0 - n.za)
theorem dterm_bd {T : Ten} {n : Nod} (ok : DpOk T n) (c y x i : Int) : -32640 ≤ dterm T n c y x i ∧ dterm T n c y x i ≤ 32640 := by
  have h1 := gt8 ok.okn.w (c * n.nk * n.nk + i).toNat
  have h2 := gt8 ok.ok.d ((y * T.x + x) * T.c + c).toNat
  have h3 : -128 ≤ n.za ∧ n.za ≤ 127 := ok.okn.za
  exact prod_bd h1 (b := T.d.getD ((y * T.x + x) * T.c + c).toNat 0 - n.za) (by omega)
/-- What a window makes of a channel. -/
def dAcc (T : Ten) (n : Nod) (h w c : Int) : Nat → Int
  | 0 => n.b.getD c.toNat 0
  | i + 1 => if inT T (h * n.ns + (i : Int) / n.nk - n.np) (w * n.ns + (i : Int) % n.nk - n.np) then IntKind.i32.wrap (dAcc T n h w c i + dterm T n c (h * n.ns + (i : Int) / n.nk - n.np) (w * n.ns + (i : Int) % n.nk - n.np) i) else dAcc T n h w c i
theorem dw_bd {T : Ten} {n : Nod} (nn : DpN T n) {c i : Int} (c0 : 0 ≤ c) (c1 : c < T.c) (i0 : 0 ≤ i) (i1 : i < n.nk * n.nk) : (0 ≤ c * n.nk ∧ c * n.nk ≤ 5120) ∧ (0 ≤ c * n.nk * n.nk ∧ c * n.nk * n.nk + i < n.w.length) := by
  have k1 := nn.k1
  have k5 := nn.k5
  have c2 := nn.c2
  have a := mul_bd (a := c) (A := 1024) (b := n.nk) (B := 5) c0 (by omega) (by omega) k5
  have b := idx_bd (a := c) (m := T.c) (b := i) (n := n.nk * n.nk) c0 c1 i0 i1
  have e := nn.wl
  have d : 0 ≤ c * n.nk * n.nk := Int.mul_nonneg (by omega) (by omega)
  rw [Int.mul_assoc] at e
  rw [Int.mul_assoc c n.nk n.nk] at d ⊢
  omega
theorem kk_bd {T : Ten} {n : Nod} (nn : DpN T n) : 1 ≤ n.nk * n.nk ∧ n.nk * n.nk ≤ 25 := by
  have k1 := nn.k1
  have k5 := nn.k5
  have a := mul_bd (a := n.nk) (A := 5) (b := n.nk) (B := 5) (by omega) (by omega) (by omega) k5
  have b : 1 * 1 ≤ n.nk * n.nk := Int.mul_le_mul k1 k1 (by omega) (by omega)
  omega
theorem divk_bd {T : Ten} {n : Nod} (nn : DpN T n) (k : Nat) : 0 ≤ (k : Int) / n.nk ∧ (k : Int) / n.nk ≤ k ∧ 0 ≤ (k : Int) % n.nk ∧ (k : Int) % n.nk ≤ 5 := by
  have k1 := nn.k1
  have k5 := nn.k5
  have h5 := Int.ediv_nonneg (a := (k : Int)) (b := n.nk) (by omega) (by omega)
  have h6 := Int.ediv_le_self (a := (k : Int)) n.nk (by omega)
  have h7 := Int.emod_nonneg (k : Int) (b := n.nk) (by omega)
  have h8 := Int.emod_lt_of_pos (k : Int) (b := n.nk) (by omega)
  omega
noncomputable def dpSum_l_I (T : Ten) (n : Nod) (h w c : Int) (k : Nat) : VS := stt 90 [(2, i64 h), (3, i64 w), (4, i64 c), (5, .ptr 5 0 0), (6, .ptr 6 0 0), (11, i32 (dAcc T n h w c k)), (24, i64 (n.nk * n.nk)), (25, i64 k)] [(5, .var [i64 T.h, i64 T.x, i64 T.c, ints .i8 T.d]), (6, .var (nodC n))]
noncomputable def dpSum_l_Z (T : Ten) (n : Nod) (h w c : Int) : VS := dpSum_l_I T n h w c ((n.nk * n.nk).toNat)
set_option maxRecDepth 100000 in
set_option maxHeartbeats 2000000 in
theorem dpSum_l_s (T : Ten) (n : Nod) (h w c : Int) (ok : DpOk T n) (h0 : 0 ≤ h) (h1 : h ≤ 1000) (w0 : 0 ≤ w) (w1 : w ≤ 1000) (c0 : 0 ≤ c) (c1 : c < T.c) (k : Nat) (hk : k < (n.nk * n.nk).toNat) : VT Try.prog (fnC Try.f70 [1, 0, 1, 1, 0, 1, 0, 0]) (dpSum_l_I T n h w c k) .normal (dpSum_l_I T n h w c (k + 1)) := by
  have nn := ok.n
  have kk := kk_bd nn
  have g18 := nn.bl
  have g1 := divk_bd nn k
  have g2 := dw_bd nn c0 c1 (i := k) (by omega) (by omega)
  have g6 := nn.k1
  have g7 := nn.k5
  have g8 := nn.s1
  have g9 := nn.s4
  have g10 := nn.p0
  have g11 := nn.p4
  have g12 := nn.w2
  have g13 := mul_bd (A := 1000) (B := 4) h0 h1 (show 0 ≤ n.ns by omega) g9
  have g14 := mul_bd (A := 1000) (B := 4) w0 w1 (show 0 ≤ n.ns by omega) g9
  have g15 := nn.d2
  have g16 := nn.dl
  have g17 := nn.q
  have h3 : -128 ≤ n.za ∧ n.za ≤ 127 := ok.okn.za
  rcases Bool.eq_false_or_eq_true (!(indexE (Shp.mk T.h T.x T.c) (h * n.ns + (↑k : Int) / n.nk - n.np) (w * n.ns + (↑k : Int) % n.nk - n.np)
      c).snd) with hc0 | hc0
  · have gc0 : (indexE (Shp.mk T.h T.x T.c) (h * n.ns + (↑k : Int) / n.nk - n.np) (w * n.ns + (↑k : Int) % n.nk - n.np) c).snd =
  false := by first | exact hc0 | exact of_decide_eq_true hc0 | exact of_decide_eq_false hc0 | simpa [eqNums] using hc0 | (simp [eqNums] at hc0 ⊢; first | done | assumption | omega)
    refine VT.run (W := [.r [] [], .br true, .r [] [], .r [] [PI.n (h * n.ns),
 PI.n ((↑k : Int) / n.nk),
 PI.n (h * n.ns + (↑k : Int) / n.nk),
 PI.n (h * n.ns + (↑k : Int) / n.nk - n.np),
 PI.n (w * n.ns),
 PI.n ((↑k : Int) % n.nk),
 PI.n (w * n.ns + (↑k : Int) % n.nk),
 PI.n (w * n.ns + (↑k : Int) % n.nk - n.np),
 PI.callr
   (AV.tup
     [i64
         (indexE (Shp.mk T.h T.x T.c) (h * n.ns + (↑k : Int) / n.nk - n.np) (w * n.ns + (↑k : Int) % n.nk - n.np)
             c).fst,
       bv
         (indexE (Shp.mk T.h T.x T.c) (h * n.ns + (↑k : Int) / n.nk - n.np) (w * n.ns + (↑k : Int) % n.nk - n.np)
             c).snd])], .r [] [], .br true, .r [] [PI.n ((↑k : Int) + 1)]]) (G := [GI.any
    [12, 13, 14, 26, 27, 28, 29, 30, 31, 32, 33, 34, 35, 36, 37, 38, 39, 40, 41, 42, 43, 44, 45, 46, 47, 48, 49, 50, 51,
      52, 53, 54, 55, 56, 57, 58, 59, 60, 88],
  GI.weak 11 (AV.lit (Value.int IntKind.i32 (dAcc T n h w c (k + 1)))),
  GI.weak 25 (AV.lit (Value.int IntKind.i64 (↑(k + 1) : Int))), GI.sort])
      (ob := [decide ((↑k : Int) < n.nk * n.nk) = true,
          IntKind.i64.wrap (h * n.ns) = h * n.ns,
          n.nk ≠ 0,
          IntKind.i64.wrap ((↑k : Int).tdiv n.nk) = (↑k : Int) / n.nk,
          IntKind.i64.wrap (h * n.ns + (↑k : Int) / n.nk) = h * n.ns + (↑k : Int) / n.nk,
          IntKind.i64.wrap (h * n.ns + (↑k : Int) / n.nk - n.np) = h * n.ns + (↑k : Int) / n.nk - n.np,
          IntKind.i64.wrap (w * n.ns) = w * n.ns,
          n.nk ≠ 0,
          (↑k : Int).tmod n.nk = (↑k : Int) % n.nk,
          IntKind.i64.wrap (w * n.ns + (↑k : Int) % n.nk) = w * n.ns + (↑k : Int) % n.nk,
          IntKind.i64.wrap (w * n.ns + (↑k : Int) % n.nk - n.np) = w * n.ns + (↑k : Int) % n.nk - n.np,
          VC Try.prog 102
  [AV.agg [AV.lit (Value.int IntKind.i64 T.h), AV.lit (Value.int IntKind.i64 T.x), AV.lit (Value.int IntKind.i64 T.c)],
          AV.lit (Value.int IntKind.i64 (h * n.ns + (↑k : Int) / n.nk - n.np)),
          AV.lit (Value.int IntKind.i64 (w * n.ns + (↑k : Int) % n.nk - n.np)), AV.lit (Value.int IntKind.i64 c)]
  (AV.tup
          [AV.lit
              (Value.int IntKind.i64
                (indexE (Shp.mk T.h T.x T.c) (h * n.ns + (↑k : Int) / n.nk - n.np) (w * n.ns + (↑k : Int) % n.nk - n.np)
                    c).fst),
            AV.lit
              (Value.bool
                (indexE (Shp.mk T.h T.x T.c) (h * n.ns + (↑k : Int) / n.nk - n.np) (w * n.ns + (↑k : Int) % n.nk - n.np)
                    c).snd)]),
          (!(indexE (Shp.mk T.h T.x T.c) (h * n.ns + (↑k : Int) / n.nk - n.np) (w * n.ns + (↑k : Int) % n.nk - n.np) c).snd) =
  true,
          IntKind.i64.wrap ((↑k : Int) + 1) = (↑k : Int) + 1,
          Weak (AV.lit (Value.int IntKind.i32 (dAcc T n h w c k))) (AV.lit (Value.int IntKind.i32 (dAcc T n h w c (k + 1)))),
          Weak (AV.lit (Value.int IntKind.i64 ((↑k : Int) + 1))) (AV.lit (Value.int IntKind.i64 (↑(k + 1) : Int)))]) (by kernel_rfl) ?_
    exact ⟨(by (refine decide_eq_true ?_; omega)),
              (by exact IntWalk.i64_in _ (by omega)),
              (by omega),
              (Eq.trans (congrArg _ (Int.tdiv_eq_ediv_of_nonneg (by omega))) (by exact IntWalk.i64_in _ (by omega))),
              (by exact IntWalk.i64_in _ (by omega)),
              (by exact IntWalk.i64_in _ (by omega)),
              (by exact IntWalk.i64_in _ (by omega)),
              (by omega),
              (Int.tmod_eq_emod_of_nonneg (by omega)),
              (by exact IntWalk.i64_in _ (by omega)),
              (by exact IntWalk.i64_in _ (by omega)),
              (@index_v (Shp.mk T.h T.x
      T.c) (h * n.ns + (↑k : Int) / n.nk - n.np) (w * n.ns + (↑k : Int) % n.nk - n.np) (c) (by (exact Shp.mk_ok ok.ok.h ok.ok.x ok.ok.c))),
              (by with_reducible assumption),
              (by exact IntWalk.i64_in _ (by omega)),
              (Weak.int (show ((dAcc T n h w c k) : Int) = (dAcc T n h w c (k + 1)) from (by (have q := indexE_f (by assumption) g17 c0 c1; rw [dAcc, if_neg q])))),
              (Weak.int (show (((↑k : Int) + 1) : Int) = ((↑(k + 1) : Int)) from (by omega))),
              trivial⟩
  · have gc0 : (indexE (Shp.mk T.h T.x T.c) (h * n.ns + (↑k : Int) / n.nk - n.np) (w * n.ns + (↑k : Int) % n.nk - n.np) c).snd =
  true := by first | exact hc0 | exact of_decide_eq_true hc0 | exact of_decide_eq_false hc0 | simpa [eqNums] using hc0 | (simp [eqNums] at hc0 ⊢; first | done | assumption | omega)
    refine VT.run (W := [.r [] [], .br true, .r [] [], .r [] [PI.n (h * n.ns),
 PI.n ((↑k : Int) / n.nk),
 PI.n (h * n.ns + (↑k : Int) / n.nk),
 PI.n (h * n.ns + (↑k : Int) / n.nk - n.np),
 PI.n (w * n.ns),
 PI.n ((↑k : Int) % n.nk),
 PI.n (w * n.ns + (↑k : Int) % n.nk),
 PI.n (w * n.ns + (↑k : Int) % n.nk - n.np),
 PI.callr
   (AV.tup
     [i64
         (indexE (Shp.mk T.h T.x T.c) (h * n.ns + (↑k : Int) / n.nk - n.np) (w * n.ns + (↑k : Int) % n.nk - n.np)
             c).fst,
       bv
         (indexE (Shp.mk T.h T.x T.c) (h * n.ns + (↑k : Int) / n.nk - n.np) (w * n.ns + (↑k : Int) % n.nk - n.np)
             c).snd])], .r [] [], .br false, .r [] [PI.n (c * n.nk),
 PI.n (c * n.nk * n.nk),
 PI.n (c * n.nk * n.nk + (↑k : Int)),
 PI.row [AV.lit (Value.int IntKind.i8 (n.w.getD (c * n.nk * n.nk + (↑k : Int)).toNat 0))],
 PI.n (n.w.getD (c * n.nk * n.nk + (↑k : Int)).toNat 0),
 PI.row
   [AV.lit
       (Value.int IntKind.i8
         (T.d.getD
           (indexE (Shp.mk T.h T.x T.c) (h * n.ns + (↑k : Int) / n.nk - n.np) (w * n.ns + (↑k : Int) % n.nk - n.np)
                 c).fst.toNat
           0))],
 PI.n
   (T.d.getD
     (indexE (Shp.mk T.h T.x T.c) (h * n.ns + (↑k : Int) / n.nk - n.np) (w * n.ns + (↑k : Int) % n.nk - n.np)
           c).fst.toNat
     0),
 PI.n n.za,
 PI.n
   (T.d.getD
       (indexE (Shp.mk T.h T.x T.c) (h * n.ns + (↑k : Int) / n.nk - n.np) (w * n.ns + (↑k : Int) % n.nk - n.np)
             c).fst.toNat
       0 -
     n.za),
 PI.n
   (n.w.getD (c * n.nk * n.nk + (↑k : Int)).toNat 0 *
     (T.d.getD
         (indexE (Shp.mk T.h T.x T.c) (h * n.ns + (↑k : Int) / n.nk - n.np) (w * n.ns + (↑k : Int) % n.nk - n.np)
               c).fst.toNat
         0 -
       n.za)),
 PI.w], .r [] [PI.n ((↑k : Int) + 1)]]) (G := [GI.any
    [12, 13, 14, 26, 27, 28, 29, 30, 31, 32, 33, 34, 35, 36, 37, 38, 39, 40, 41, 42, 43, 44, 45, 46, 47, 48, 49, 50, 51,
      52, 53, 54, 55, 56, 57, 58, 59, 60, 61, 62, 63, 64, 65, 66, 67, 68, 69, 70, 71, 72, 73, 74, 75, 76, 77, 78, 79,
      80, 81, 82, 83, 84, 85, 86, 87, 88],
  GI.weak 11 (AV.lit (Value.int IntKind.i32 (dAcc T n h w c (k + 1)))),
  GI.weak 25 (AV.lit (Value.int IntKind.i64 (↑(k + 1) : Int))), GI.sort])
      (ob := [decide ((↑k : Int) < n.nk * n.nk) = true,
          IntKind.i64.wrap (h * n.ns) = h * n.ns,
          n.nk ≠ 0,
          IntKind.i64.wrap ((↑k : Int).tdiv n.nk) = (↑k : Int) / n.nk,
          IntKind.i64.wrap (h * n.ns + (↑k : Int) / n.nk) = h * n.ns + (↑k : Int) / n.nk,
          IntKind.i64.wrap (h * n.ns + (↑k : Int) / n.nk - n.np) = h * n.ns + (↑k : Int) / n.nk - n.np,
          IntKind.i64.wrap (w * n.ns) = w * n.ns,
          n.nk ≠ 0,
          (↑k : Int).tmod n.nk = (↑k : Int) % n.nk,
          IntKind.i64.wrap (w * n.ns + (↑k : Int) % n.nk) = w * n.ns + (↑k : Int) % n.nk,
          IntKind.i64.wrap (w * n.ns + (↑k : Int) % n.nk - n.np) = w * n.ns + (↑k : Int) % n.nk - n.np,
          VC Try.prog 102
  [AV.agg [AV.lit (Value.int IntKind.i64 T.h), AV.lit (Value.int IntKind.i64 T.x), AV.lit (Value.int IntKind.i64 T.c)],
          AV.lit (Value.int IntKind.i64 (h * n.ns + (↑k : Int) / n.nk - n.np)),
          AV.lit (Value.int IntKind.i64 (w * n.ns + (↑k : Int) % n.nk - n.np)), AV.lit (Value.int IntKind.i64 c)]
  (AV.tup
          [AV.lit
              (Value.int IntKind.i64
                (indexE (Shp.mk T.h T.x T.c) (h * n.ns + (↑k : Int) / n.nk - n.np) (w * n.ns + (↑k : Int) % n.nk - n.np)
                    c).fst),
            AV.lit
              (Value.bool
                (indexE (Shp.mk T.h T.x T.c) (h * n.ns + (↑k : Int) / n.nk - n.np) (w * n.ns + (↑k : Int) % n.nk - n.np)
                    c).snd)]),
          (!(indexE (Shp.mk T.h T.x T.c) (h * n.ns + (↑k : Int) / n.nk - n.np) (w * n.ns + (↑k : Int) % n.nk - n.np) c).snd) =
  false,
          IntKind.i64.wrap (c * n.nk) = c * n.nk,
          IntKind.i64.wrap (c * n.nk * n.nk) = c * n.nk * n.nk,
          IntKind.i64.wrap (c * n.nk * n.nk + (↑k : Int)) = c * n.nk * n.nk + (↑k : Int),
          0 ≤ c * n.nk * n.nk + (↑k : Int),
          (List.map (row1 IntKind.i8) n.w)[(c * n.nk * n.nk + (↑k : Int)).toNat]? =
  some [AV.lit (Value.int IntKind.i8 (n.w.getD (c * n.nk * n.nk + (↑k : Int)).toNat 0))],
          IntKind.i32.wrap (n.w.getD (c * n.nk * n.nk + (↑k : Int)).toNat 0) = n.w.getD (c * n.nk * n.nk + (↑k : Int)).toNat 0,
          0 ≤ (indexE (Shp.mk T.h T.x T.c) (h * n.ns + (↑k : Int) / n.nk - n.np) (w * n.ns + (↑k : Int) % n.nk - n.np) c).fst,
          (List.map (row1 IntKind.i8)
            T.d)[(indexE (Shp.mk T.h T.x T.c) (h * n.ns + (↑k : Int) / n.nk - n.np) (w * n.ns + (↑k : Int) % n.nk - n.np)
                c).fst.toNat]? =
  some
          [AV.lit
              (Value.int IntKind.i8
                (T.d.getD
                  (indexE (Shp.mk T.h T.x T.c) (h * n.ns + (↑k : Int) / n.nk - n.np) (w * n.ns + (↑k : Int) % n.nk - n.np)
                        c).fst.toNat
                  0))],
          IntKind.i32.wrap
          (T.d.getD
            (indexE (Shp.mk T.h T.x T.c) (h * n.ns + (↑k : Int) / n.nk - n.np) (w * n.ns + (↑k : Int) % n.nk - n.np)
                  c).fst.toNat
            0) =
  T.d.getD
          (indexE (Shp.mk T.h T.x T.c) (h * n.ns + (↑k : Int) / n.nk - n.np) (w * n.ns + (↑k : Int) % n.nk - n.np)
                c).fst.toNat
          0,
          IntKind.i32.wrap n.za = n.za,
          IntKind.i32.wrap
          (T.d.getD
              (indexE (Shp.mk T.h T.x T.c) (h * n.ns + (↑k : Int) / n.nk - n.np) (w * n.ns + (↑k : Int) % n.nk - n.np)
                    c).fst.toNat
              0 -
            n.za) =
  T.d.getD
            (indexE (Shp.mk T.h T.x T.c) (h * n.ns + (↑k : Int) / n.nk - n.np) (w * n.ns + (↑k : Int) % n.nk - n.np)
                  c).fst.toNat
            0 -
          n.za,
          IntKind.i32.wrap
          (n.w.getD (c * n.nk * n.nk + (↑k : Int)).toNat 0 *
            (T.d.getD
                (indexE (Shp.mk T.h T.x T.c) (h * n.ns + (↑k : Int) / n.nk - n.np) (w * n.ns + (↑k : Int) % n.nk - n.np)
                      c).fst.toNat
                0 -
              n.za)) =
  n.w.getD (c * n.nk * n.nk + (↑k : Int)).toNat 0 *
          (T.d.getD
              (indexE (Shp.mk T.h T.x T.c) (h * n.ns + (↑k : Int) / n.nk - n.np) (w * n.ns + (↑k : Int) % n.nk - n.np)
                    c).fst.toNat
              0 -
            n.za),
          IntKind.i64.wrap ((↑k : Int) + 1) = (↑k : Int) + 1,
          Weak
  (AV.lit
          (Value.int IntKind.i32
            (IntKind.i32.wrap
              (dAcc T n h w c k +
                n.w.getD (c * n.nk * n.nk + (↑k : Int)).toNat 0 *
                  (T.d.getD
                      (indexE (Shp.mk T.h T.x T.c) (h * n.ns + (↑k : Int) / n.nk - n.np) (w * n.ns + (↑k : Int) % n.nk - n.np)
                            c).fst.toNat
                      0 -
                    n.za)))))
  (AV.lit (Value.int IntKind.i32 (dAcc T n h w c (k + 1)))),
          Weak (AV.lit (Value.int IntKind.i64 ((↑k : Int) + 1))) (AV.lit (Value.int IntKind.i64 (↑(k + 1) : Int)))]) (by kernel_rfl) ?_
    exact ⟨(by (refine decide_eq_true ?_; omega)),
              (by exact IntWalk.i64_in _ (by omega)),
              (by omega),
              (Eq.trans (congrArg _ (Int.tdiv_eq_ediv_of_nonneg (by omega))) (by exact IntWalk.i64_in _ (by omega))),
              (by exact IntWalk.i64_in _ (by omega)),
              (by exact IntWalk.i64_in _ (by omega)),
              (by exact IntWalk.i64_in _ (by omega)),
              (by omega),
              (Int.tmod_eq_emod_of_nonneg (by omega)),
              (by exact IntWalk.i64_in _ (by omega)),
              (by exact IntWalk.i64_in _ (by omega)),
              (@index_v (Shp.mk T.h T.x
      T.c) (h * n.ns + (↑k : Int) / n.nk - n.np) (w * n.ns + (↑k : Int) % n.nk - n.np) (c) (by (exact Shp.mk_ok ok.ok.h ok.ok.x ok.ok.c))),
              (by with_reducible assumption),
              (by exact IntWalk.i64_in _ (by omega)),
              (by exact IntWalk.i64_in _ (by omega)),
              (by exact IntWalk.i64_in _ (by omega)),
              (by omega),
              (map_at (row1 IntKind.i8) (0) (l := n.w) (i := (c * n.nk * n.nk + (↑k : Int)).toNat) (by omega)),
              (by with_reducible exact IntWalk.i32_in _ (in8w (gt8 ok.okn.w _))),
              (by (have q := indexE_t (by assumption); have q2 := place_bd q.1.1 q.1.2.1 q.1.2.2.1 q.1.2.2.2.1 q.1.2.2.2.2.1 q.1.2.2.2.2.2.1 q.1.2.2.2.2.2.2; simp only [List.length_map] at *; omega)),
              (map_at (row1
      IntKind.i8) (0) (l := T.d) (i := (indexE (Shp.mk T.h T.x T.c) (h * n.ns + (↑k : Int) / n.nk - n.np)
                (w * n.ns + (↑k : Int) % n.nk - n.np) c).fst.toNat) (by (have q := indexE_t (by assumption); have q2 := place_bd q.1.1 q.1.2.1 q.1.2.2.1 q.1.2.2.2.1 q.1.2.2.2.2.1 q.1.2.2.2.2.2.1 q.1.2.2.2.2.2.2; simp only [List.length_map] at *; omega))),
              (by with_reducible exact IntWalk.i32_in _ (in8w (gt8 ok.ok.d _))),
              (by exact IntWalk.i32_in _ (by omega)),
              (by with_reducible exact IntWalk.i32_in _ (sub8w (gt8 ok.ok.d _) h3)),
              (by with_reducible exact IntWalk.i32_in _ (prod8w (gt8 ok.okn.w _) (gt8 ok.ok.d _) h3)),
              (by exact IntWalk.i64_in _ (by omega)),
              (Weak.int (show ((IntKind.i32.wrap
      (dAcc T n h w c k +
              n.w.getD (c * n.nk * n.nk + (↑k : Int)).toNat 0 *
                (T.d.getD
                    (indexE (Shp.mk T.h T.x T.c) (h * n.ns + (↑k : Int) / n.nk - n.np) (w * n.ns + (↑k : Int) % n.nk - n.np)
                          c).fst.toNat
                    0 -
                  n.za))) : Int) = (dAcc T n h w c (k + 1)) from (by (have q := indexE_t (by assumption); rw [dAcc, if_pos ⟨q.1.2.1, q.1.2.2.1, q.1.2.2.2.1, q.1.2.2.2.2.1⟩, dterm, q.2])))),
              (Weak.int (show (((↑k : Int) + 1) : Int) = ((↑(k + 1) : Int)) from (by omega))),
              trivial⟩
set_option maxRecDepth 100000 in
set_option maxHeartbeats 2000000 in
theorem dpSum_l_e (T : Ten) (n : Nod) (h w c : Int) (ok : DpOk T n) (h0 : 0 ≤ h) (h1 : h ≤ 1000) (w0 : 0 ≤ w) (w1 : w ≤ 1000) (c0 : 0 ≤ c) (c1 : c < T.c) : VT Try.prog (fnC Try.f70 [1, 0, 1, 1, 0, 1, 0, 0]) (dpSum_l_I T n h w c ((n.nk * n.nk).toNat)) (.exit 0) (dpSum_l_Z T n h w c) := by
  have kk := kk_bd ok.n
  refine VT.run (W := [.r [] [], .br false]) (G := [GI.any [26], GI.sort])
    (ob := [decide ((↑(n.nk * n.nk).toNat : Int) < n.nk * n.nk) = false]) (by kernel_rfl) ?_
  exact ⟨(by (refine decide_eq_false ?_; omega)),
          trivial⟩
theorem dpSum_l (T : Ten) (n : Nod) (h w c : Int) (ok : DpOk T n) (h0 : 0 ≤ h) (h1 : h ≤ 1000) (w0 : 0 ≤ w) (w1 : w ≤ 1000) (c0 : 0 ≤ c) (c1 : c < T.c) : VT Try.prog (fnC Try.f70 [1, 0, 1, 1, 0, 1, 0]) (dpSum_l_I T n h w c 0) (.exit 0) (dpSum_l_Z T n h w c) :=
  VT.loop (fun k => dpSum_l_I T n h w c k) ((n.nk * n.nk).toNat) (fun k hk => dpSum_l_s T n h w c ok h0 h1 w0 w1 c0 c1 k hk) (dpSum_l_e T n h w c ok h0 h1 w0 w1 c0 c1) (by intro h; cases h)

set_option maxRecDepth 100000 in
set_option maxHeartbeats 2000000 in
theorem dpSum_v (T : Ten) (n : Nod) (h w c : Int) (ok : DpOk T n) (h0 : 0 ≤ h) (h1 : h ≤ 1000) (w0 : 0 ≤ w) (w1 : w ≤ 1000) (c0 : 0 ≤ c) (c1 : c < T.c) : VC Try.prog 70 ([ten .i8 T, nod n, i64 h, i64 w, i64 c]) (i32 (dAcc T n h w c (n.nk * n.nk).toNat)) := by
  have g1 := ok.n.bl
  have kk := kk_bd ok.n
  have hz : VC Try.prog 70 ([ten .i8 T, nod n, i64 h, i64 w, i64 c]) (AV.lit (Value.int IntKind.i32 (dAcc T n h w c (n.nk * n.nk).toNat))) := by
    refine VC.run (fn := Try.f70) Try.func70 (W := [.r [] [], .sc, .r [] [PI.row
   [AV.lit
       (Value.int IntKind.i32
         (n.b.getD c.toNat
           0))]], .r [] [PI.n
   (n.nk *
     n.nk)], .code [GI.any [0, 1, 10, 15, 16, 17, 18, 19, 20, 21, 22, 23],
  GI.weak 11 (AV.lit (Value.int IntKind.i32 (dAcc T n h w c 0))),
  GI.weak 25 (AV.lit (Value.int IntKind.i64 (↑0 : Int))),
  GI.sort] (Exit.exit
  0) (VS.mk
  [AV.any, AV.any, AV.lit (Value.int IntKind.i64 h), AV.lit (Value.int IntKind.i64 w), AV.lit (Value.int IntKind.i64 c),
    AV.ptr 5 0 0, AV.ptr 6 0 0, AV.any, AV.any, AV.any, AV.any,
    AV.lit (Value.int IntKind.i32 (dAcc T n h w c (n.nk * n.nk).toNat)), AV.any, AV.any, AV.any, AV.any, AV.any, AV.any,
    AV.any, AV.any, AV.any, AV.any, AV.any, AV.any, AV.lit (Value.int IntKind.i64 (n.nk * n.nk)),
    AV.lit (Value.int IntKind.i64 (↑(n.nk * n.nk).toNat : Int)), AV.any, AV.any, AV.any, AV.any, AV.any, AV.any, AV.any,
    AV.any, AV.any, AV.any, AV.any, AV.any, AV.any, AV.any, AV.any, AV.any, AV.any, AV.any, AV.any, AV.any, AV.any,
    AV.any, AV.any, AV.any, AV.any, AV.any, AV.any, AV.any, AV.any, AV.any, AV.any, AV.any, AV.any, AV.any, AV.any,
    AV.any, AV.any, AV.any, AV.any, AV.any, AV.any, AV.any, AV.any, AV.any, AV.any, AV.any, AV.any, AV.any, AV.any,
    AV.any, AV.any, AV.any, AV.any, AV.any, AV.any, AV.any, AV.any, AV.any, AV.any, AV.any, AV.any, AV.any, AV.any,
    AV.any]
  [(5,
      Blk.var
        [AV.lit (Value.int IntKind.i64 T.h), AV.lit (Value.int IntKind.i64 T.x), AV.lit (Value.int IntKind.i64 T.c),
          AV.sl 1 (List.map (row1 IntKind.i8) T.d)]),
    (6,
      Blk.var
        [AV.lit (Value.int IntKind.i64 n.kd), AV.lit (Value.int IntKind.i64 n.na), AV.lit (Value.int IntKind.i64 n.nb),
          AV.lit (Value.int IntKind.i64 n.nk), AV.lit (Value.int IntKind.i64 n.ns), AV.lit (Value.int IntKind.i64 n.np),
          AV.lit (Value.int IntKind.i64 n.no), AV.lit (Value.int IntKind.i8 n.za), AV.lit (Value.int IntKind.i8 n.zb),
          AV.sl 1 (List.map (row1 IntKind.i8) n.w), AV.sl 1 (List.map (row1 IntKind.i32) n.b),
          AV.lit (Value.int IntKind.i32 n.qm), AV.lit (Value.int IntKind.i64 n.qs), AV.lit (Value.int IntKind.i8 n.qz),
          AV.lit (Value.int IntKind.i32 n.rm), AV.lit (Value.int IntKind.i64 n.rs), AV.lit (Value.int IntKind.i8 n.rz),
          AV.lit (Value.int IntKind.i8 n.lo), AV.lit (Value.int IntKind.i8 n.hi)])]), .r [] []])
      (ob := [0 ≤ c,
        (List.map (row1 IntKind.i32) n.b)[c.toNat]? = some [AV.lit (Value.int IntKind.i32 (n.b.getD c.toNat 0))],
        IntKind.i64.wrap (n.nk * n.nk) = n.nk * n.nk,
        Weak (AV.lit (Value.int IntKind.i32 (n.b.getD c.toNat 0))) (AV.lit (Value.int IntKind.i32 (dAcc T n h w c 0))),
        Weak (AV.lit (Value.int IntKind.i64 0)) (AV.lit (Value.int IntKind.i64 (↑0 : Int))),
        VT Try.prog (fnC Try.f70 [1, 0, 1, 1, 0, 1, 0])
  (VS.mk
        [AV.any, AV.any, AV.lit (Value.int IntKind.i64 h), AV.lit (Value.int IntKind.i64 w),
          AV.lit (Value.int IntKind.i64 c), AV.ptr 5 0 0, AV.ptr 6 0 0, AV.any, AV.any, AV.any, AV.any,
          AV.lit (Value.int IntKind.i32 (dAcc T n h w c 0)), AV.any, AV.any, AV.any, AV.any, AV.any, AV.any, AV.any, AV.any,
          AV.any, AV.any, AV.any, AV.any, AV.lit (Value.int IntKind.i64 (n.nk * n.nk)),
          AV.lit (Value.int IntKind.i64 (↑0 : Int)), AV.any, AV.any, AV.any, AV.any, AV.any, AV.any, AV.any, AV.any, AV.any,
          AV.any, AV.any, AV.any, AV.any, AV.any, AV.any, AV.any, AV.any, AV.any, AV.any, AV.any, AV.any, AV.any, AV.any,
          AV.any, AV.any, AV.any, AV.any, AV.any, AV.any, AV.any, AV.any, AV.any, AV.any, AV.any, AV.any, AV.any, AV.any,
          AV.any, AV.any, AV.any, AV.any, AV.any, AV.any, AV.any, AV.any, AV.any, AV.any, AV.any, AV.any, AV.any, AV.any,
          AV.any, AV.any, AV.any, AV.any, AV.any, AV.any, AV.any, AV.any, AV.any, AV.any, AV.any, AV.any, AV.any]
        [(5,
            Blk.var
              [AV.lit (Value.int IntKind.i64 T.h), AV.lit (Value.int IntKind.i64 T.x), AV.lit (Value.int IntKind.i64 T.c),
                AV.sl 1 (List.map (row1 IntKind.i8) T.d)]),
          (6,
            Blk.var
              [AV.lit (Value.int IntKind.i64 n.kd), AV.lit (Value.int IntKind.i64 n.na),
                AV.lit (Value.int IntKind.i64 n.nb), AV.lit (Value.int IntKind.i64 n.nk),
                AV.lit (Value.int IntKind.i64 n.ns), AV.lit (Value.int IntKind.i64 n.np),
                AV.lit (Value.int IntKind.i64 n.no), AV.lit (Value.int IntKind.i8 n.za), AV.lit (Value.int IntKind.i8 n.zb),
                AV.sl 1 (List.map (row1 IntKind.i8) n.w), AV.sl 1 (List.map (row1 IntKind.i32) n.b),
                AV.lit (Value.int IntKind.i32 n.qm), AV.lit (Value.int IntKind.i64 n.qs),
                AV.lit (Value.int IntKind.i8 n.qz), AV.lit (Value.int IntKind.i32 n.rm),
                AV.lit (Value.int IntKind.i64 n.rs), AV.lit (Value.int IntKind.i8 n.rz), AV.lit (Value.int IntKind.i8 n.lo),
                AV.lit (Value.int IntKind.i8 n.hi)])])
  (Exit.exit 0)
  (VS.mk
        [AV.any, AV.any, AV.lit (Value.int IntKind.i64 h), AV.lit (Value.int IntKind.i64 w),
          AV.lit (Value.int IntKind.i64 c), AV.ptr 5 0 0, AV.ptr 6 0 0, AV.any, AV.any, AV.any, AV.any,
          AV.lit (Value.int IntKind.i32 (dAcc T n h w c (n.nk * n.nk).toNat)), AV.any, AV.any, AV.any, AV.any, AV.any,
          AV.any, AV.any, AV.any, AV.any, AV.any, AV.any, AV.any, AV.lit (Value.int IntKind.i64 (n.nk * n.nk)),
          AV.lit (Value.int IntKind.i64 (↑(n.nk * n.nk).toNat : Int)), AV.any, AV.any, AV.any, AV.any, AV.any, AV.any,
          AV.any, AV.any, AV.any, AV.any, AV.any, AV.any, AV.any, AV.any, AV.any, AV.any, AV.any, AV.any, AV.any, AV.any,
          AV.any, AV.any, AV.any, AV.any, AV.any, AV.any, AV.any, AV.any, AV.any, AV.any, AV.any, AV.any, AV.any, AV.any,
          AV.any, AV.any, AV.any, AV.any, AV.any, AV.any, AV.any, AV.any, AV.any, AV.any, AV.any, AV.any, AV.any, AV.any,
          AV.any, AV.any, AV.any, AV.any, AV.any, AV.any, AV.any, AV.any, AV.any, AV.any, AV.any, AV.any, AV.any, AV.any,
          AV.any, AV.any]
        [(5,
            Blk.var
              [AV.lit (Value.int IntKind.i64 T.h), AV.lit (Value.int IntKind.i64 T.x), AV.lit (Value.int IntKind.i64 T.c),
                AV.sl 1 (List.map (row1 IntKind.i8) T.d)]),
          (6,
            Blk.var
              [AV.lit (Value.int IntKind.i64 n.kd), AV.lit (Value.int IntKind.i64 n.na),
                AV.lit (Value.int IntKind.i64 n.nb), AV.lit (Value.int IntKind.i64 n.nk),
                AV.lit (Value.int IntKind.i64 n.ns), AV.lit (Value.int IntKind.i64 n.np),
                AV.lit (Value.int IntKind.i64 n.no), AV.lit (Value.int IntKind.i8 n.za), AV.lit (Value.int IntKind.i8 n.zb),
                AV.sl 1 (List.map (row1 IntKind.i8) n.w), AV.sl 1 (List.map (row1 IntKind.i32) n.b),
                AV.lit (Value.int IntKind.i32 n.qm), AV.lit (Value.int IntKind.i64 n.qs),
                AV.lit (Value.int IntKind.i8 n.qz), AV.lit (Value.int IntKind.i32 n.rm),
                AV.lit (Value.int IntKind.i64 n.rs), AV.lit (Value.int IntKind.i8 n.rz), AV.lit (Value.int IntKind.i8 n.lo),
                AV.lit (Value.int IntKind.i8 n.hi)])])]) (by kernel_rfl) ?_
    exact ⟨(by with_reducible assumption),
            (map_at (row1 IntKind.i32) (0) (l := n.b) (i := c.toNat) (by omega)),
            (by exact IntWalk.i64_in _ (by omega)),
            (Weak.int (show ((n.b.getD c.toNat 0) : Int) = (dAcc T n h w c 0) from (by rfl))),
            (Weak.int (show ((0) : Int) = ((↑0 : Int)) from (by omega))),
            (@dpSum_l (T) (n) (h) (w) (c) (by with_reducible assumption) (by with_reducible assumption) (by with_reducible assumption) (by with_reducible assumption) (by with_reducible assumption) (by with_reducible assumption) (by with_reducible assumption)),
            trivial⟩
  exact hz
end Go.Proofs.Ytcegfkmelcjdhaa

