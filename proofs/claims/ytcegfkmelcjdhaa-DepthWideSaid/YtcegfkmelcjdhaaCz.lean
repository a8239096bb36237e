/- The sums of a window, by the document. No condition. -/
import Derived.Test.YtcegfkmelcjdhaaCy
namespace Go.Proofs.Ytcegfkmelcjdhaa
open Go.RowKit
set_option linter.unusedSimpArgs false
set_option linter.unusedVariables false
set_option linter.unnecessarySimpa false

theorem ifn_lt {p : Prop} [Decidable p] {a k : Nat} (h : k < if p then a else 0) : p ∧ k < a := by
  by_cases hp : p
  · rw [if_pos hp] at h; exact ⟨hp, h⟩
  · rw [if_neg hp] at h; omega
/-- Sums that begin with v. -/
def accN (v : Int) (f : Nat → Int) : Nat → Int
  | 0 => v
  | k + 1 => accN v f k + f k
theorem accN_eq (v : Int) (f : Nat → Int) : ∀ k, accN v f k = v + sumN f k
  | 0 => by simp [accN, sumN]
  | k + 1 => by rw [accN, sumN, accN_eq v f k]; omega
set_option maxRecDepth 100000 in
set_option maxHeartbeats 2000000 in
theorem get_v (T : Ten) (h w c : Int) (h0 : 0 ≤ h * T.x) (h1 : h * T.x ≤ 1024) (w0 : 0 ≤ w) (w1 : w ≤ 1024) (g0 : 0 ≤ (h * T.x + w) * T.c) (c0 : 0 ≤ c) (g1 : (h * T.x + w) * T.c + c < T.d.length) (dl : T.d.length ≤ 1024) : VC Try.prog 75 ([ten .i8 T, i64 h, i64 w, i64 c]) (i8 (T.d.getD ((h * T.x + w) * T.c + c).toNat 0)) := by
  have hz : VC Try.prog 75 ([ten .i8 T, i64 h, i64 w, i64 c]) (AV.lit (Value.int IntKind.i8 (T.d.getD ((h * T.x + w) * T.c + c).toNat 0))) := by
    refine VC.run (fn := Try.f75) Try.func75 (W := [.r [] [], .r [] [PI.n (h * T.x),
 PI.n (h * T.x + w),
 PI.n ((h * T.x + w) * T.c),
 PI.n ((h * T.x + w) * T.c + c),
 PI.row [AV.lit (Value.int IntKind.i8 (T.d.getD ((h * T.x + w) * T.c + c).toNat 0))]]])
      (ob := [IntKind.i64.wrap (h * T.x) = h * T.x,
        IntKind.i64.wrap (h * T.x + w) = h * T.x + w,
        IntKind.i64.wrap ((h * T.x + w) * T.c) = (h * T.x + w) * T.c,
        IntKind.i64.wrap ((h * T.x + w) * T.c + c) = (h * T.x + w) * T.c + c,
        0 ≤ (h * T.x + w) * T.c + c,
        (List.map (row1 IntKind.i8) T.d)[((h * T.x + w) * T.c + c).toNat]? =
  some [AV.lit (Value.int IntKind.i8 (T.d.getD ((h * T.x + w) * T.c + c).toNat 0))]]) (by kernel_rfl) ?_
    exact ⟨(by exact IntWalk.i64_in _ (by omega)),
            (by exact IntWalk.i64_in _ (by omega)),
            (by exact IntWalk.i64_in _ (by omega)),
            (by exact IntWalk.i64_in _ (by omega)),
            (by omega),
            (map_at (row1 IntKind.i8) (0) (l := T.d) (i := ((h * T.x + w) * T.c + c).toNat) (by omega)),
            trivial⟩
  exact hz
/-- Whether a place lies within. -/
abbrev inT (T : Ten) (y x : Int) : Prop := 0 ≤ y ∧ y < T.h ∧ 0 ≤ x ∧ x < T.x
noncomputable def rcSum_c_I (T : Ten) (n : Nod) (h w o i j y x v : Int) (k : Nat) : VS := stt 118 [(2, i64 h), (3, i64 w), (4, i64 o), (5, .ptr 5 0 0), (6, .ptr 6 0 0), (11, i64 (accN v (cterm T n (((o * n.nk + i) * n.nk + j) * T.c) ((y * T.x + x) * T.c)) k)), (12, i64 i), (13, i64 j), (14, i64 y), (15, i64 x), (16, i64 k)] [(5, .var [i64 T.h, i64 T.x, i64 T.c, ints .i8 T.d]), (6, .var (nodC n))]
noncomputable def rcSum_c_Z (T : Ten) (n : Nod) (h w o i j y x v : Int) : VS := rcSum_c_I T n h w o i j y x v (if inT T y x then T.c.toNat else 0)
set_option maxRecDepth 100000 in
set_option maxHeartbeats 2000000 in
theorem rcSum_c_s (T : Ten) (n : Nod) (h w o i j y x v : Int) (ok : CvOk T n) (o0 : 0 ≤ o) (o1 : o < n.no) (i0 : 0 ≤ i) (i1 : i < n.nk) (j0 : 0 ≤ j) (j1 : j < n.nk) (v0 : -1000000000000 ≤ v) (v1 : v ≤ 1000000000000) (k : Nat) (hk : k < if inT T y x then T.c.toNat else 0) : VT Try.prog (fnC Try.f36 [1, 1, 0, 1, 0, 0, 1, 0, 0, 1, 0, 0, 1, 0, 0, 1, 1, 0, 0]) (rcSum_c_I T n h w o i j y x v k) .normal (rcSum_c_I T n h w o i j y x v (k + 1)) := by
  have nn := ok.n
  obtain ⟨⟨y0, y1, x0, x1⟩, hk'⟩ := ifn_lt hk
  have g1 := wat nn o0 o1 i0 i1
  have g2 := dat nn y0 y1
  have c1 := nn.c1
  have k5 := nn.k5
  have g3 := nn.w2
  have g4 := nn.d2
  have g5 : ((o * n.nk + i) * n.nk + j) * T.c + T.c ≤ (o * n.nk + i) * n.nk * T.c + n.nk * T.c := by
    rw [← Int.add_mul]
    have := Int.mul_le_mul_of_nonneg_right (show (o * n.nk + i) * n.nk + j + 1 ≤ (o * n.nk + i) * n.nk + n.nk by omega) (show 0 ≤ T.c by omega)
    rw [Int.add_mul _ 1, Int.one_mul] at this; exact this
  have g6 : 0 ≤ ((o * n.nk + i) * n.nk + j) * T.c := Int.mul_nonneg (by omega) (by omega)
  have g7 := idx_bd (a := y * T.x + x) (m := y * T.x + T.x) (b := T.c - 1) (n := T.c) (by omega) (by omega) (by omega) (by omega)
  have g8 : 0 ≤ (y * T.x + x) * T.c := Int.mul_nonneg (by omega) (by omega)
  have g11 : (y * T.x + T.x) * 1 ≤ (y * T.x + T.x) * T.c := Int.mul_le_mul_of_nonneg_left (by omega) (by omega)
  have h1 := gt8 ok.okn.w (((o * n.nk + i) * n.nk + j) * T.c + (k : Int)).toNat
  have h2 := gt8 ok.ok.d ((y * T.x + x) * T.c + (k : Int)).toNat
  have h3 : -128 ≤ n.za ∧ n.za ≤ 127 := ok.okn.za
  have h4 := prod_bd h1 (b := T.d.getD ((y * T.x + x) * T.c + (k : Int)).toNat 0 - n.za) (by omega)
  have g9 := sumN_bd (B := 32640) (f := cterm T n (((o * n.nk + i) * n.nk + j) * T.c) ((y * T.x + x) * T.c)) k fun c _ => cterm_bd ok.ok ok.okn _ _ c
  have g10 : (T.c : Int) ≤ 1024 := by omega
  have g12 := accN_eq v (cterm T n (((o * n.nk + i) * n.nk + j) * T.c) ((y * T.x + x) * T.c)) k
  refine VT.run (W := [.r [] [PI.br true,
 PI.br true,
 PI.br true,
 PI.br true,
 PI.br true,
 PI.br true,
 PI.br true,
 PI.br true,
 PI.br true,
 PI.br true,
 PI.br true,
 PI.br true,
 PI.br true,
 PI.br true,
 PI.br true,
 PI.br true,
 PI.br true,
 PI.br
   true], .br true, .r [] [PI.n (o * n.nk),
 PI.n (o * n.nk + i),
 PI.n ((o * n.nk + i) * n.nk),
 PI.n ((o * n.nk + i) * n.nk + j),
 PI.n (((o * n.nk + i) * n.nk + j) * T.c),
 PI.n (((o * n.nk + i) * n.nk + j) * T.c + (↑k : Int)),
 PI.row [AV.lit (Value.int IntKind.i8 (n.w.getD (((o * n.nk + i) * n.nk + j) * T.c + (↑k : Int)).toNat 0))],
 PI.n (n.w.getD (((o * n.nk + i) * n.nk + j) * T.c + (↑k : Int)).toNat 0),
 PI.callr (i8 (T.d.getD ((y * T.x + x) * T.c + (↑k : Int)).toNat 0)),
 PI.n (T.d.getD ((y * T.x + x) * T.c + (↑k : Int)).toNat 0),
 PI.n n.za,
 PI.n (T.d.getD ((y * T.x + x) * T.c + (↑k : Int)).toNat 0 - n.za),
 PI.n
   (n.w.getD (((o * n.nk + i) * n.nk + j) * T.c + (↑k : Int)).toNat 0 *
     (T.d.getD ((y * T.x + x) * T.c + (↑k : Int)).toNat 0 - n.za)),
 PI.n
   (accN v (cterm T n (((o * n.nk + i) * n.nk + j) * T.c) ((y * T.x + x) * T.c)) k +
     n.w.getD (((o * n.nk + i) * n.nk + j) * T.c + (↑k : Int)).toNat 0 *
       (T.d.getD ((y * T.x + x) * T.c + (↑k : Int)).toNat 0 - n.za))], .r [] [PI.n ((↑k : Int) + 1)]]) (G := [GI.any
    [53, 54, 55, 56, 57, 58, 59, 60, 61, 62, 63, 64, 65, 66, 67, 68, 69, 70, 71, 72, 73, 74, 75, 76, 77, 78, 79, 80, 81,
      82, 83, 84, 85, 86, 87, 88, 89, 90, 91, 92, 93, 94, 95, 96, 97, 98, 99, 100, 101, 102, 103, 104, 105, 106, 107,
      108, 109, 110, 111, 112, 113, 114, 115, 116],
  GI.weak 11
    (AV.lit
      (Value.int IntKind.i64 (accN v (cterm T n (((o * n.nk + i) * n.nk + j) * T.c) ((y * T.x + x) * T.c)) (k + 1)))),
  GI.weak 16 (AV.lit (Value.int IntKind.i64 (↑(k + 1) : Int))), GI.sort])
    (ob := [decide ((↑k : Int) < T.c) = true,
        decide ((↑k : Int) < T.c) = true,
        decide ((↑k : Int) < T.c) = true,
        decide (y ≥ 0) = true,
        decide (y ≥ 0) = true,
        decide (y ≥ 0) = true,
        decide (y ≥ 0) = true,
        decide (y ≥ 0) = true,
        decide (y ≥ 0) = true,
        decide (y < T.h) = true,
        decide (y < T.h) = true,
        decide (y < T.h) = true,
        decide (x ≥ 0) = true,
        decide (x ≥ 0) = true,
        decide (x ≥ 0) = true,
        decide (x ≥ 0) = true,
        decide (x ≥ 0) = true,
        decide (x ≥ 0) = true,
        decide (x < T.x) = true,
        IntKind.i64.wrap (o * n.nk) = o * n.nk,
        IntKind.i64.wrap (o * n.nk + i) = o * n.nk + i,
        IntKind.i64.wrap ((o * n.nk + i) * n.nk) = (o * n.nk + i) * n.nk,
        IntKind.i64.wrap ((o * n.nk + i) * n.nk + j) = (o * n.nk + i) * n.nk + j,
        IntKind.i64.wrap (((o * n.nk + i) * n.nk + j) * T.c) = ((o * n.nk + i) * n.nk + j) * T.c,
        IntKind.i64.wrap (((o * n.nk + i) * n.nk + j) * T.c + (↑k : Int)) = ((o * n.nk + i) * n.nk + j) * T.c + (↑k : Int),
        0 ≤ ((o * n.nk + i) * n.nk + j) * T.c + (↑k : Int),
        (List.map (row1 IntKind.i8) n.w)[(((o * n.nk + i) * n.nk + j) * T.c + (↑k : Int)).toNat]? =
  some [AV.lit (Value.int IntKind.i8 (n.w.getD (((o * n.nk + i) * n.nk + j) * T.c + (↑k : Int)).toNat 0))],
        IntKind.i64.wrap (n.w.getD (((o * n.nk + i) * n.nk + j) * T.c + (↑k : Int)).toNat 0) =
  n.w.getD (((o * n.nk + i) * n.nk + j) * T.c + (↑k : Int)).toNat 0,
        VC Try.prog 75
  [AV.agg
          [AV.lit (Value.int IntKind.i64 T.h), AV.lit (Value.int IntKind.i64 T.x), AV.lit (Value.int IntKind.i64 T.c),
            AV.sl 1 (List.map (row1 IntKind.i8) T.d)],
        AV.lit (Value.int IntKind.i64 y), AV.lit (Value.int IntKind.i64 x), AV.lit (Value.int IntKind.i64 (↑k : Int))]
  (AV.lit (Value.int IntKind.i8 (T.d.getD ((y * T.x + x) * T.c + (↑k : Int)).toNat 0))),
        IntKind.i64.wrap (T.d.getD ((y * T.x + x) * T.c + (↑k : Int)).toNat 0) =
  T.d.getD ((y * T.x + x) * T.c + (↑k : Int)).toNat 0,
        IntKind.i64.wrap n.za = n.za,
        IntKind.i64.wrap (T.d.getD ((y * T.x + x) * T.c + (↑k : Int)).toNat 0 - n.za) =
  T.d.getD ((y * T.x + x) * T.c + (↑k : Int)).toNat 0 - n.za,
        IntKind.i64.wrap
        (n.w.getD (((o * n.nk + i) * n.nk + j) * T.c + (↑k : Int)).toNat 0 *
          (T.d.getD ((y * T.x + x) * T.c + (↑k : Int)).toNat 0 - n.za)) =
  n.w.getD (((o * n.nk + i) * n.nk + j) * T.c + (↑k : Int)).toNat 0 *
        (T.d.getD ((y * T.x + x) * T.c + (↑k : Int)).toNat 0 - n.za),
        IntKind.i64.wrap
        (accN v (cterm T n (((o * n.nk + i) * n.nk + j) * T.c) ((y * T.x + x) * T.c)) k +
          n.w.getD (((o * n.nk + i) * n.nk + j) * T.c + (↑k : Int)).toNat 0 *
            (T.d.getD ((y * T.x + x) * T.c + (↑k : Int)).toNat 0 - n.za)) =
  accN v (cterm T n (((o * n.nk + i) * n.nk + j) * T.c) ((y * T.x + x) * T.c)) k +
        n.w.getD (((o * n.nk + i) * n.nk + j) * T.c + (↑k : Int)).toNat 0 *
          (T.d.getD ((y * T.x + x) * T.c + (↑k : Int)).toNat 0 - n.za),
        IntKind.i64.wrap ((↑k : Int) + 1) = (↑k : Int) + 1,
        Weak
  (AV.lit
        (Value.int IntKind.i64
          (accN v (cterm T n (((o * n.nk + i) * n.nk + j) * T.c) ((y * T.x + x) * T.c)) k +
            n.w.getD (((o * n.nk + i) * n.nk + j) * T.c + (↑k : Int)).toNat 0 *
              (T.d.getD ((y * T.x + x) * T.c + (↑k : Int)).toNat 0 - n.za))))
  (AV.lit
        (Value.int IntKind.i64 (accN v (cterm T n (((o * n.nk + i) * n.nk + j) * T.c) ((y * T.x + x) * T.c)) (k + 1)))),
        Weak (AV.lit (Value.int IntKind.i64 ((↑k : Int) + 1))) (AV.lit (Value.int IntKind.i64 (↑(k + 1) : Int)))]) (by kernel_rfl) ?_
  exact ⟨(by (refine decide_eq_true ?_; omega)),
          (by (refine decide_eq_true ?_; omega)),
          (by (refine decide_eq_true ?_; omega)),
          (by (refine decide_eq_true ?_; omega)),
          (by (refine decide_eq_true ?_; omega)),
          (by (refine decide_eq_true ?_; omega)),
          (by (refine decide_eq_true ?_; omega)),
          (by (refine decide_eq_true ?_; omega)),
          (by (refine decide_eq_true ?_; omega)),
          (by (refine decide_eq_true ?_; omega)),
          (by (refine decide_eq_true ?_; omega)),
          (by (refine decide_eq_true ?_; omega)),
          (by (refine decide_eq_true ?_; omega)),
          (by (refine decide_eq_true ?_; omega)),
          (by (refine decide_eq_true ?_; omega)),
          (by (refine decide_eq_true ?_; omega)),
          (by (refine decide_eq_true ?_; omega)),
          (by (refine decide_eq_true ?_; omega)),
          (by (refine decide_eq_true ?_; omega)),
          (by exact IntWalk.i64_in _ (by omega)),
          (by exact IntWalk.i64_in _ (by omega)),
          (by exact IntWalk.i64_in _ (by omega)),
          (by exact IntWalk.i64_in _ (by omega)),
          (by exact IntWalk.i64_in _ (by omega)),
          (by exact IntWalk.i64_in _ (by omega)),
          (by omega),
          (map_at (row1 IntKind.i8) (0) (l := n.w) (i := (((o * n.nk + i) * n.nk + j) * T.c + (↑k : Int)).toNat) (by omega)),
          (by exact IntWalk.i64_in _ (by omega)),
          (@get_v (T) (y) (x) ((↑k :
    Int)) (by omega) (by omega) (by with_reducible assumption) (by omega) (by with_reducible assumption) (by omega) (by omega) (by with_reducible assumption)),
          (by exact IntWalk.i64_in _ (by omega)),
          (by exact IntWalk.i64_in _ (by omega)),
          (by exact IntWalk.i64_in _ (by omega)),
          (by exact IntWalk.i64_in _ (by omega)),
          (by exact IntWalk.i64_in _ (by omega)),
          (by exact IntWalk.i64_in _ (by omega)),
          (Weak.int (show ((accN v (cterm T n (((o * n.nk + i) * n.nk + j) * T.c) ((y * T.x + x) * T.c)) k +
    n.w.getD (((o * n.nk + i) * n.nk + j) * T.c + (↑k : Int)).toNat 0 *
          (T.d.getD ((y * T.x + x) * T.c + (↑k : Int)).toNat 0 -
            n.za)) : Int) = (accN v (cterm T n (((o * n.nk + i) * n.nk + j) * T.c) ((y * T.x + x) * T.c))
    (k + 1)) from (by rfl))),
          (Weak.int (show (((↑k : Int) + 1) : Int) = ((↑(k + 1) : Int)) from (by omega))),
          trivial⟩
set_option maxRecDepth 100000 in
set_option maxHeartbeats 2000000 in
theorem rcSum_c_e (T : Ten) (n : Nod) (h w o i j y x v : Int) (ok : CvOk T n) (o0 : 0 ≤ o) (o1 : o < n.no) (i0 : 0 ≤ i) (i1 : i < n.nk) (j0 : 0 ≤ j) (j1 : j < n.nk) (v0 : -1000000000000 ≤ v) (v1 : v ≤ 1000000000000) : VT Try.prog (fnC Try.f36 [1, 1, 0, 1, 0, 0, 1, 0, 0, 1, 0, 0, 1, 0, 0, 1, 1, 0, 0]) (rcSum_c_I T n h w o i j y x v (if inT T y x then T.c.toNat else 0)) (.exit 4) (rcSum_c_Z T n h w o i j y x v) := by
  have hin : (0 ≤ y ∧ y < T.h ∧ 0 ≤ x ∧ x < T.x) → (if inT T y x then T.c.toNat else 0) = T.c.toNat := fun h => if_pos h
  rcases Bool.eq_false_or_eq_true (decide ((↑(if inT T y x then T.c.toNat else 0) : Int) < T.c)) with hc0 | hc0
  · have gc0 : (↑(if inT T y x then T.c.toNat else 0) : Int) < T.c := of_decide_eq_true hc0
    rcases Bool.eq_false_or_eq_true (decide (y ≥ 0)) with hc1 | hc1
    · have gc1 : y ≥ 0 := of_decide_eq_true hc1
      rcases Bool.eq_false_or_eq_true (decide (y < T.h)) with hc2 | hc2
      · have gc2 : y < T.h := of_decide_eq_true hc2
        rcases Bool.eq_false_or_eq_true (decide (x ≥ 0)) with hc3 | hc3
        · have gc3 : x ≥ 0 := of_decide_eq_true hc3
          refine VT.run (W := [.r [] [PI.br true,
 PI.br true,
 PI.br true,
 PI.br true,
 PI.br true,
 PI.br true,
 PI.br true,
 PI.br true,
 PI.br true,
 PI.br true,
 PI.br true,
 PI.br true,
 PI.br true,
 PI.br true,
 PI.br true,
 PI.br true,
 PI.br true,
 PI.br true], .br false]) (G := [GI.any
    [53, 54, 55, 56, 57, 58, 59, 60, 61, 62, 63, 64, 65, 66, 67, 68, 69, 70, 71, 72, 73, 74, 75, 76, 77, 78, 79],
  GI.sort])
            (ob := [decide ((↑(if inT T y x then T.c.toNat else 0) : Int) < T.c) = true,
                decide ((↑(if inT T y x then T.c.toNat else 0) : Int) < T.c) = true,
                decide ((↑(if inT T y x then T.c.toNat else 0) : Int) < T.c) = true,
                decide (y ≥ 0) = true,
                decide (y ≥ 0) = true,
                decide (y ≥ 0) = true,
                decide (y ≥ 0) = true,
                decide (y ≥ 0) = true,
                decide (y ≥ 0) = true,
                decide (y < T.h) = true,
                decide (y < T.h) = true,
                decide (y < T.h) = true,
                decide (x ≥ 0) = true,
                decide (x ≥ 0) = true,
                decide (x ≥ 0) = true,
                decide (x ≥ 0) = true,
                decide (x ≥ 0) = true,
                decide (x ≥ 0) = true,
                decide (x < T.x) = false]) (by kernel_rfl) ?_
          exact ⟨(by with_reducible assumption),
                          (by with_reducible assumption),
                          (by with_reducible assumption),
                          (by with_reducible assumption),
                          (by with_reducible assumption),
                          (by with_reducible assumption),
                          (by with_reducible assumption),
                          (by with_reducible assumption),
                          (by with_reducible assumption),
                          (by with_reducible assumption),
                          (by with_reducible assumption),
                          (by with_reducible assumption),
                          (by with_reducible assumption),
                          (by with_reducible assumption),
                          (by with_reducible assumption),
                          (by with_reducible assumption),
                          (by with_reducible assumption),
                          (by with_reducible assumption),
                          (by (refine decide_eq_false ?_; omega)),
                          trivial⟩
        · have gc3 : ¬x ≥ 0 := of_decide_eq_false hc3
          refine VT.run (W := [.r [] [PI.br true,
 PI.br true,
 PI.br true,
 PI.br true,
 PI.br true,
 PI.br true,
 PI.br true,
 PI.br true,
 PI.br true,
 PI.br true,
 PI.br true,
 PI.br true,
 PI.br false,
 PI.br false,
 PI.br false,
 PI.br false,
 PI.br false,
 PI.br false], .br false]) (G := [GI.any
    [53, 54, 55, 56, 57, 58, 59, 60, 61, 62, 63, 64, 65, 66, 67, 68, 69, 70, 71, 72, 73, 74, 75, 76, 77, 78, 79],
  GI.sort])
            (ob := [decide ((↑(if inT T y x then T.c.toNat else 0) : Int) < T.c) = true,
                decide ((↑(if inT T y x then T.c.toNat else 0) : Int) < T.c) = true,
                decide ((↑(if inT T y x then T.c.toNat else 0) : Int) < T.c) = true,
                decide (y ≥ 0) = true,
                decide (y ≥ 0) = true,
                decide (y ≥ 0) = true,
                decide (y ≥ 0) = true,
                decide (y ≥ 0) = true,
                decide (y ≥ 0) = true,
                decide (y < T.h) = true,
                decide (y < T.h) = true,
                decide (y < T.h) = true,
                decide (x ≥ 0) = !true,
                decide (x ≥ 0) = !true,
                decide (x ≥ 0) = !true,
                decide (x ≥ 0) = !true,
                decide (x ≥ 0) = !true,
                decide (x ≥ 0) = false,
                false = false]) (by kernel_rfl) ?_
          exact ⟨(by with_reducible assumption),
                          (by with_reducible assumption),
                          (by with_reducible assumption),
                          (by with_reducible assumption),
                          (by with_reducible assumption),
                          (by with_reducible assumption),
                          (by with_reducible assumption),
                          (by with_reducible assumption),
                          (by with_reducible assumption),
                          (by with_reducible assumption),
                          (by with_reducible assumption),
                          (by with_reducible assumption),
                          (by (refine decide_eq_false ?_; omega)),
                          (by (refine decide_eq_false ?_; omega)),
                          (by (refine decide_eq_false ?_; omega)),
                          (by (refine decide_eq_false ?_; omega)),
                          (by (refine decide_eq_false ?_; omega)),
                          (by with_reducible assumption),
                          (by with_reducible rfl),
                          trivial⟩
      · have gc2 : ¬y < T.h := of_decide_eq_false hc2
        refine VT.run (W := [.r [] [PI.br true,
 PI.br true,
 PI.br true,
 PI.br true,
 PI.br true,
 PI.br true,
 PI.br true,
 PI.br true,
 PI.br true,
 PI.br false,
 PI.br false,
 PI.br false,
 PI.br false,
 PI.br false,
 PI.br false,
 PI.br false,
 PI.br false,
 PI.br false], .br false]) (G := [GI.any
    [53, 54, 55, 56, 57, 58, 59, 60, 61, 62, 63, 64, 65, 66, 67, 68, 69, 70, 71, 72, 73, 74, 75, 76, 77, 78, 79],
  GI.sort])
          (ob := [decide ((↑(if inT T y x then T.c.toNat else 0) : Int) < T.c) = true,
              decide ((↑(if inT T y x then T.c.toNat else 0) : Int) < T.c) = true,
              decide ((↑(if inT T y x then T.c.toNat else 0) : Int) < T.c) = true,
              decide (y ≥ 0) = true,
              decide (y ≥ 0) = true,
              decide (y ≥ 0) = true,
              decide (y ≥ 0) = true,
              decide (y ≥ 0) = true,
              decide (y ≥ 0) = true,
              decide (y < T.h) = !true,
              decide (y < T.h) = !true,
              decide (y < T.h) = false,
              false = !true,
              false = !true,
              false = !true,
              false = !true,
              false = !true,
              false = false,
              false = false]) (by kernel_rfl) ?_
        exact ⟨(by with_reducible assumption),
                      (by with_reducible assumption),
                      (by with_reducible assumption),
                      (by with_reducible assumption),
                      (by with_reducible assumption),
                      (by with_reducible assumption),
                      (by with_reducible assumption),
                      (by with_reducible assumption),
                      (by with_reducible assumption),
                      (by (refine decide_eq_false ?_; omega)),
                      (by (refine decide_eq_false ?_; omega)),
                      (by with_reducible assumption),
                      (by (simp; done)),
                      (by (simp; done)),
                      (by (simp; done)),
                      (by (simp; done)),
                      (by (simp; done)),
                      (by with_reducible rfl),
                      (by with_reducible rfl),
                      trivial⟩
    · have gc1 : ¬y ≥ 0 := of_decide_eq_false hc1
      refine VT.run (W := [.r [] [PI.br true,
 PI.br true,
 PI.br true,
 PI.br false,
 PI.br false,
 PI.br false,
 PI.br false,
 PI.br false,
 PI.br false,
 PI.br false,
 PI.br false,
 PI.br false,
 PI.br false,
 PI.br false,
 PI.br false,
 PI.br false,
 PI.br false,
 PI.br false], .br false]) (G := [GI.any
    [53, 54, 55, 56, 57, 58, 59, 60, 61, 62, 63, 64, 65, 66, 67, 68, 69, 70, 71, 72, 73, 74, 75, 76, 77, 78, 79],
  GI.sort])
        (ob := [decide ((↑(if inT T y x then T.c.toNat else 0) : Int) < T.c) = true,
            decide ((↑(if inT T y x then T.c.toNat else 0) : Int) < T.c) = true,
            decide ((↑(if inT T y x then T.c.toNat else 0) : Int) < T.c) = true,
            decide (y ≥ 0) = !true,
            decide (y ≥ 0) = !true,
            decide (y ≥ 0) = !true,
            decide (y ≥ 0) = !true,
            decide (y ≥ 0) = !true,
            decide (y ≥ 0) = false,
            false = !true,
            false = !true,
            false = false,
            false = !true,
            false = !true,
            false = !true,
            false = !true,
            false = !true,
            false = false,
            false = false]) (by kernel_rfl) ?_
      exact ⟨(by with_reducible assumption),
                  (by with_reducible assumption),
                  (by with_reducible assumption),
                  (by (refine decide_eq_false ?_; omega)),
                  (by (refine decide_eq_false ?_; omega)),
                  (by (refine decide_eq_false ?_; omega)),
                  (by (refine decide_eq_false ?_; omega)),
                  (by (refine decide_eq_false ?_; omega)),
                  (by with_reducible assumption),
                  (by (simp; done)),
                  (by (simp; done)),
                  (by with_reducible rfl),
                  (by (simp; done)),
                  (by (simp; done)),
                  (by (simp; done)),
                  (by (simp; done)),
                  (by (simp; done)),
                  (by with_reducible rfl),
                  (by with_reducible rfl),
                  trivial⟩
  · have gc0 : ¬(↑(if inT T y x then T.c.toNat else 0) : Int) < T.c := of_decide_eq_false hc0
    refine VT.run (W := [.r [] [PI.br false,
 PI.br false,
 PI.br false,
 PI.br false,
 PI.br false,
 PI.br false,
 PI.br false,
 PI.br false,
 PI.br false,
 PI.br false,
 PI.br false,
 PI.br false,
 PI.br false,
 PI.br false,
 PI.br false,
 PI.br false,
 PI.br false,
 PI.br false], .br false]) (G := [GI.any
    [53, 54, 55, 56, 57, 58, 59, 60, 61, 62, 63, 64, 65, 66, 67, 68, 69, 70, 71, 72, 73, 74, 75, 76, 77, 78, 79],
  GI.sort])
      (ob := [decide ((↑(if inT T y x then T.c.toNat else 0) : Int) < T.c) = !true,
          decide ((↑(if inT T y x then T.c.toNat else 0) : Int) < T.c) = !true,
          decide ((↑(if inT T y x then T.c.toNat else 0) : Int) < T.c) = false,
          false = !true,
          false = !true,
          false = !true,
          false = !true,
          false = !true,
          false = false,
          false = !true,
          false = !true,
          false = false,
          false = !true,
          false = !true,
          false = !true,
          false = !true,
          false = !true,
          false = false,
          false = false]) (by kernel_rfl) ?_
    exact ⟨(by (refine decide_eq_false ?_; omega)),
              (by (refine decide_eq_false ?_; omega)),
              (by with_reducible assumption),
              (by (simp; done)),
              (by (simp; done)),
              (by (simp; done)),
              (by (simp; done)),
              (by (simp; done)),
              (by with_reducible rfl),
              (by (simp; done)),
              (by (simp; done)),
              (by with_reducible rfl),
              (by (simp; done)),
              (by (simp; done)),
              (by (simp; done)),
              (by (simp; done)),
              (by (simp; done)),
              (by with_reducible rfl),
              (by with_reducible rfl),
              trivial⟩
theorem rcSum_c (T : Ten) (n : Nod) (h w o i j y x v : Int) (ok : CvOk T n) (o0 : 0 ≤ o) (o1 : o < n.no) (i0 : 0 ≤ i) (i1 : i < n.nk) (j0 : 0 ≤ j) (j1 : j < n.nk) (v0 : -1000000000000 ≤ v) (v1 : v ≤ 1000000000000) : VT Try.prog (fnC Try.f36 [1, 1, 0, 1, 0, 0, 1, 0, 0, 1, 0, 0, 1, 0, 0, 1, 1, 0]) (rcSum_c_I T n h w o i j y x v 0) (.exit 4) (rcSum_c_Z T n h w o i j y x v) :=
  VT.loop (fun k => rcSum_c_I T n h w o i j y x v k) (if inT T y x then T.c.toNat else 0) (fun k hk => rcSum_c_s T n h w o i j y x v ok o0 o1 i0 i1 j0 j1 v0 v1 k hk) (rcSum_c_e T n h w o i j y x v ok o0 o1 i0 i1 j0 j1 v0 v1) (by intro h; cases h)
/-- A column of a window, over whole numbers. -/
def colE (T : Ten) (n : Nod) (o i y x : Int) (j : Nat) : Int := sumN (cterm T n (((o * n.nk + i) * n.nk + (j : Int)) * T.c) ((y * T.x + (x + (j : Int))) * T.c)) (if inT T y (x + (j : Int)) then T.c.toNat else 0)
theorem colE_bd {T : Ten} {n : Nod} (ok : CvOk T n) (o i y x : Int) (j : Nat) : -33423360 ≤ colE T n o i y x j ∧ colE T n o i y x j ≤ 33423360 := by
  have nn := ok.n
  have g9 := sumN_bd (B := 32640) (f := cterm T n (((o * n.nk + i) * n.nk + (j : Int)) * T.c) ((y * T.x + (x + (j : Int))) * T.c)) (if inT T y (x + (j : Int)) then T.c.toNat else 0) fun c _ => cterm_bd ok.ok ok.okn _ _ c
  have g10 := nn.c1
  have g11 := nn.dl
  have g12 := nn.d2
  have a := mul_bd (a := 1) (A := T.h * T.x) (b := T.c) (B := T.c) (by omega) (by have := nn.h1; have := nn.x1; exact Int.mul_le_mul (a := 1) (b := 1) (by omega) (by omega) (by omega) (by omega)) (by omega) (by omega)
  unfold colE
  split at g9
  · rename_i h; rw [if_pos h]; omega
  · rename_i h; rw [if_neg h]; omega
noncomputable def rcSum_j_I (T : Ten) (n : Nod) (h w o i v : Int) (k : Nat) : VS := stt 118 [(2, i64 h), (3, i64 w), (4, i64 o), (5, .ptr 5 0 0), (6, .ptr 6 0 0), (11, i64 (accN v (colE T n o i (h * n.ns + i - n.np) (w * n.ns - n.np)) k)), (12, i64 i), (13, i64 k)] [(5, .var [i64 T.h, i64 T.x, i64 T.c, ints .i8 T.d]), (6, .var (nodC n))]
noncomputable def rcSum_j_Z (T : Ten) (n : Nod) (h w o i v : Int) : VS := rcSum_j_I T n h w o i v (n.nk.toNat)
set_option maxRecDepth 100000 in
set_option maxHeartbeats 2000000 in
theorem rcSum_j_s (T : Ten) (n : Nod) (h w o i v : Int) (ok : CvOk T n) (o0 : 0 ≤ o) (o1 : o < n.no) (h0 : 0 ≤ h) (h1 : h ≤ 1000) (w0 : 0 ≤ w) (w1 : w ≤ 1000) (i0 : 0 ≤ i) (i1 : i < n.nk) (v0 : -100000000000 ≤ v) (v1 : v ≤ 100000000000) (k : Nat) (hk : k < n.nk.toNat) : VT Try.prog (fnC Try.f36 [1, 1, 0, 1, 0, 0, 1, 0, 0, 1, 0, 0]) (rcSum_j_I T n h w o i v k) .normal (rcSum_j_I T n h w o i v (k + 1)) := by
  have nn := ok.n
  have g1 := nn.k1
  have g2 := nn.k5
  have g8 := nn.s1
  have g9 := nn.s4
  have g10 := nn.p0
  have g11 := nn.p4
  have g13 := mul_bd (A := 1000) (B := 4) h0 h1 (show 0 ≤ n.ns by omega) g9
  have g14 := mul_bd (A := 1000) (B := 4) w0 w1 (show 0 ≤ n.ns by omega) g9
  have g15 := sumN_bd (B := 33423360) (f := colE T n o i (h * n.ns + i - n.np) (w * n.ns - n.np)) k fun j _ => colE_bd ok _ _ _ _ j
  have g17 := accN_eq v (colE T n o i (h * n.ns + i - n.np) (w * n.ns - n.np)) k
  have g16 : w * n.ns + (k : Int) - n.np = w * n.ns - n.np + (k : Int) := by omega
  refine VT.run (W := [.r [] [], .br true, .r [] [PI.n (h * n.ns),
 PI.n (h * n.ns + i),
 PI.n (h * n.ns + i - n.np),
 PI.n (w * n.ns),
 PI.n (w * n.ns + (↑k : Int)),
 PI.n
   (w * n.ns + (↑k : Int) -
     n.np)], .r [] [], .code [GI.any
    [29, 30, 31, 32, 35, 36, 37, 38, 39, 40, 41, 42, 43, 44, 45, 46, 47, 48, 49, 50, 51, 52],
  GI.weak 16 (AV.lit (Value.int IntKind.i64 (↑0 : Int))),
  GI.sort] (Exit.exit
  4) (VS.mk
  [AV.any, AV.any, AV.lit (Value.int IntKind.i64 h), AV.lit (Value.int IntKind.i64 w), AV.lit (Value.int IntKind.i64 o),
    AV.ptr 5 0 0, AV.ptr 6 0 0, AV.any, AV.any, AV.any, AV.any,
    AV.lit
      (Value.int IntKind.i64
        (accN (accN v (colE T n o i (h * n.ns + i - n.np) (w * n.ns - n.np)) k)
          (cterm T n (((o * n.nk + i) * n.nk + (↑k : Int)) * T.c)
            (((h * n.ns + i - n.np) * T.x + (w * n.ns + (↑k : Int) - n.np)) * T.c))
          (if inT T (h * n.ns + i - n.np) (w * n.ns + (↑k : Int) - n.np) then T.c.toNat else 0))),
    AV.lit (Value.int IntKind.i64 i), AV.lit (Value.int IntKind.i64 (↑k : Int)),
    AV.lit (Value.int IntKind.i64 (h * n.ns + i - n.np)), AV.lit (Value.int IntKind.i64 (w * n.ns + (↑k : Int) - n.np)),
    AV.lit
      (Value.int IntKind.i64
        (↑(if inT T (h * n.ns + i - n.np) (w * n.ns + (↑k : Int) - n.np) then T.c.toNat else 0) : Int)),
    AV.any, AV.any, AV.any, AV.any, AV.any, AV.any, AV.any, AV.any, AV.any, AV.any, AV.any, AV.any, AV.any, AV.any,
    AV.any, AV.any, AV.any, AV.any, AV.any, AV.any, AV.any, AV.any, AV.any, AV.any, AV.any, AV.any, AV.any, AV.any,
    AV.any, AV.any, AV.any, AV.any, AV.any, AV.any, AV.any, AV.any, AV.any, AV.any, AV.any, AV.any, AV.any, AV.any,
    AV.any, AV.any, AV.any, AV.any, AV.any, AV.any, AV.any, AV.any, AV.any, AV.any, AV.any, AV.any, AV.any, AV.any,
    AV.any, AV.any, AV.any, AV.any, AV.any, AV.any, AV.any, AV.any, AV.any, AV.any, AV.any, AV.any, AV.any, AV.any,
    AV.any, AV.any, AV.any, AV.any, AV.any, AV.any, AV.any, AV.any, AV.any, AV.any, AV.any, AV.any, AV.any, AV.any,
    AV.any, AV.any, AV.any, AV.any, AV.any, AV.any, AV.any, AV.any, AV.any, AV.any, AV.any, AV.any, AV.any, AV.any,
    AV.any, AV.any, AV.any]
  [(5,
      Blk.var
        [AV.lit (Value.int IntKind.i64 T.h), AV.lit (Value.int IntKind.i64 T.x), AV.lit (Value.int IntKind.i64 T.c),
          AV.sl 1 (List.map (row1 IntKind.i8) T.d)]),
    (6,
      Blk.var
        [AV.lit (Value.int IntKind.i64 n.kd), AV.lit (Value.int IntKind.i64 n.na), AV.lit (Value.int IntKind.i64 n.nb),
          AV.lit (Value.int IntKind.i64 n.nk), AV.lit (Value.int IntKind.i64 n.ns), AV.lit (Value.int IntKind.i64 n.np),
          AV.lit (Value.int IntKind.i64 n.no), AV.lit (Value.int IntKind.i8 n.za), AV.lit (Value.int IntKind.i8 n.zb),
          AV.sl 1 (List.map (row1 IntKind.i8) n.w), AV.sl 1 (List.map (row1 IntKind.i32) n.b),
          AV.lit (Value.int IntKind.i32 n.qm), AV.lit (Value.int IntKind.i64 n.qs), AV.lit (Value.int IntKind.i8 n.qz),
          AV.lit (Value.int IntKind.i32 n.rm), AV.lit (Value.int IntKind.i64 n.rs), AV.lit (Value.int IntKind.i8 n.rz),
          AV.lit (Value.int IntKind.i8 n.lo), AV.lit (Value.int IntKind.i8 n.hi)])]), .r [] [PI.n ((↑k : Int) + 1)]]) (G := [GI.any [14, 15, 16, 33, 34],
  GI.weak 11 (AV.lit (Value.int IntKind.i64 (accN v (colE T n o i (h * n.ns + i - n.np) (w * n.ns - n.np)) (k + 1)))),
  GI.weak 13 (AV.lit (Value.int IntKind.i64 (↑(k + 1) : Int))), GI.sort])
    (ob := [decide ((↑k : Int) < n.nk) = true,
        IntKind.i64.wrap (h * n.ns) = h * n.ns,
        IntKind.i64.wrap (h * n.ns + i) = h * n.ns + i,
        IntKind.i64.wrap (h * n.ns + i - n.np) = h * n.ns + i - n.np,
        IntKind.i64.wrap (w * n.ns) = w * n.ns,
        IntKind.i64.wrap (w * n.ns + (↑k : Int)) = w * n.ns + (↑k : Int),
        IntKind.i64.wrap (w * n.ns + (↑k : Int) - n.np) = w * n.ns + (↑k : Int) - n.np,
        Weak (AV.lit (Value.int IntKind.i64 0)) (AV.lit (Value.int IntKind.i64 (↑0 : Int))),
        VT Try.prog (fnC Try.f36 [1, 1, 0, 1, 0, 0, 1, 0, 0, 1, 0, 0, 1, 0, 0, 1, 1, 0])
  (VS.mk
        [AV.any, AV.any, AV.lit (Value.int IntKind.i64 h), AV.lit (Value.int IntKind.i64 w),
          AV.lit (Value.int IntKind.i64 o), AV.ptr 5 0 0, AV.ptr 6 0 0, AV.any, AV.any, AV.any, AV.any,
          AV.lit (Value.int IntKind.i64 (accN v (colE T n o i (h * n.ns + i - n.np) (w * n.ns - n.np)) k)),
          AV.lit (Value.int IntKind.i64 i), AV.lit (Value.int IntKind.i64 (↑k : Int)),
          AV.lit (Value.int IntKind.i64 (h * n.ns + i - n.np)),
          AV.lit (Value.int IntKind.i64 (w * n.ns + (↑k : Int) - n.np)), AV.lit (Value.int IntKind.i64 (↑0 : Int)), AV.any,
          AV.any, AV.any, AV.any, AV.any, AV.any, AV.any, AV.any, AV.any, AV.any, AV.any, AV.any, AV.any, AV.any, AV.any,
          AV.any, AV.any, AV.any, AV.any, AV.any, AV.any, AV.any, AV.any, AV.any, AV.any, AV.any, AV.any, AV.any, AV.any,
          AV.any, AV.any, AV.any, AV.any, AV.any, AV.any, AV.any, AV.any, AV.any, AV.any, AV.any, AV.any, AV.any, AV.any,
          AV.any, AV.any, AV.any, AV.any, AV.any, AV.any, AV.any, AV.any, AV.any, AV.any, AV.any, AV.any, AV.any, AV.any,
          AV.any, AV.any, AV.any, AV.any, AV.any, AV.any, AV.any, AV.any, AV.any, AV.any, AV.any, AV.any, AV.any, AV.any,
          AV.any, AV.any, AV.any, AV.any, AV.any, AV.any, AV.any, AV.any, AV.any, AV.any, AV.any, AV.any, AV.any, AV.any,
          AV.any, AV.any, AV.any, AV.any, AV.any, AV.any, AV.any, AV.any, AV.any, AV.any, AV.any, AV.any, AV.any, AV.any,
          AV.any, AV.any]
        [(5,
            Blk.var
              [AV.lit (Value.int IntKind.i64 T.h), AV.lit (Value.int IntKind.i64 T.x), AV.lit (Value.int IntKind.i64 T.c),
                AV.sl 1 (List.map (row1 IntKind.i8) T.d)]),
          (6,
            Blk.var
              [AV.lit (Value.int IntKind.i64 n.kd), AV.lit (Value.int IntKind.i64 n.na),
                AV.lit (Value.int IntKind.i64 n.nb), AV.lit (Value.int IntKind.i64 n.nk),
                AV.lit (Value.int IntKind.i64 n.ns), AV.lit (Value.int IntKind.i64 n.np),
                AV.lit (Value.int IntKind.i64 n.no), AV.lit (Value.int IntKind.i8 n.za), AV.lit (Value.int IntKind.i8 n.zb),
                AV.sl 1 (List.map (row1 IntKind.i8) n.w), AV.sl 1 (List.map (row1 IntKind.i32) n.b),
                AV.lit (Value.int IntKind.i32 n.qm), AV.lit (Value.int IntKind.i64 n.qs),
                AV.lit (Value.int IntKind.i8 n.qz), AV.lit (Value.int IntKind.i32 n.rm),
                AV.lit (Value.int IntKind.i64 n.rs), AV.lit (Value.int IntKind.i8 n.rz), AV.lit (Value.int IntKind.i8 n.lo),
                AV.lit (Value.int IntKind.i8 n.hi)])])
  (Exit.exit 4)
  (VS.mk
        [AV.any, AV.any, AV.lit (Value.int IntKind.i64 h), AV.lit (Value.int IntKind.i64 w),
          AV.lit (Value.int IntKind.i64 o), AV.ptr 5 0 0, AV.ptr 6 0 0, AV.any, AV.any, AV.any, AV.any,
          AV.lit
            (Value.int IntKind.i64
              (accN (accN v (colE T n o i (h * n.ns + i - n.np) (w * n.ns - n.np)) k)
                (cterm T n (((o * n.nk + i) * n.nk + (↑k : Int)) * T.c)
                  (((h * n.ns + i - n.np) * T.x + (w * n.ns + (↑k : Int) - n.np)) * T.c))
                (if inT T (h * n.ns + i - n.np) (w * n.ns + (↑k : Int) - n.np) then T.c.toNat else 0))),
          AV.lit (Value.int IntKind.i64 i), AV.lit (Value.int IntKind.i64 (↑k : Int)),
          AV.lit (Value.int IntKind.i64 (h * n.ns + i - n.np)),
          AV.lit (Value.int IntKind.i64 (w * n.ns + (↑k : Int) - n.np)),
          AV.lit
            (Value.int IntKind.i64
              (↑(if inT T (h * n.ns + i - n.np) (w * n.ns + (↑k : Int) - n.np) then T.c.toNat else 0) : Int)),
          AV.any, AV.any, AV.any, AV.any, AV.any, AV.any, AV.any, AV.any, AV.any, AV.any, AV.any, AV.any, AV.any, AV.any,
          AV.any, AV.any, AV.any, AV.any, AV.any, AV.any, AV.any, AV.any, AV.any, AV.any, AV.any, AV.any, AV.any, AV.any,
          AV.any, AV.any, AV.any, AV.any, AV.any, AV.any, AV.any, AV.any, AV.any, AV.any, AV.any, AV.any, AV.any, AV.any,
          AV.any, AV.any, AV.any, AV.any, AV.any, AV.any, AV.any, AV.any, AV.any, AV.any, AV.any, AV.any, AV.any, AV.any,
          AV.any, AV.any, AV.any, AV.any, AV.any, AV.any, AV.any, AV.any, AV.any, AV.any, AV.any, AV.any, AV.any, AV.any,
          AV.any, AV.any, AV.any, AV.any, AV.any, AV.any, AV.any, AV.any, AV.any, AV.any, AV.any, AV.any, AV.any, AV.any,
          AV.any, AV.any, AV.any, AV.any, AV.any, AV.any, AV.any, AV.any, AV.any, AV.any, AV.any, AV.any, AV.any, AV.any,
          AV.any, AV.any, AV.any]
        [(5,
            Blk.var
              [AV.lit (Value.int IntKind.i64 T.h), AV.lit (Value.int IntKind.i64 T.x), AV.lit (Value.int IntKind.i64 T.c),
                AV.sl 1 (List.map (row1 IntKind.i8) T.d)]),
          (6,
            Blk.var
              [AV.lit (Value.int IntKind.i64 n.kd), AV.lit (Value.int IntKind.i64 n.na),
                AV.lit (Value.int IntKind.i64 n.nb), AV.lit (Value.int IntKind.i64 n.nk),
                AV.lit (Value.int IntKind.i64 n.ns), AV.lit (Value.int IntKind.i64 n.np),
                AV.lit (Value.int IntKind.i64 n.no), AV.lit (Value.int IntKind.i8 n.za), AV.lit (Value.int IntKind.i8 n.zb),
                AV.sl 1 (List.map (row1 IntKind.i8) n.w), AV.sl 1 (List.map (row1 IntKind.i32) n.b),
                AV.lit (Value.int IntKind.i32 n.qm), AV.lit (Value.int IntKind.i64 n.qs),
                AV.lit (Value.int IntKind.i8 n.qz), AV.lit (Value.int IntKind.i32 n.rm),
                AV.lit (Value.int IntKind.i64 n.rs), AV.lit (Value.int IntKind.i8 n.rz), AV.lit (Value.int IntKind.i8 n.lo),
                AV.lit (Value.int IntKind.i8 n.hi)])]),
        IntKind.i64.wrap ((↑k : Int) + 1) = (↑k : Int) + 1,
        Weak
  (AV.lit
        (Value.int IntKind.i64
          (accN (accN v (colE T n o i (h * n.ns + i - n.np) (w * n.ns - n.np)) k)
            (cterm T n (((o * n.nk + i) * n.nk + (↑k : Int)) * T.c)
              (((h * n.ns + i - n.np) * T.x + (w * n.ns + (↑k : Int) - n.np)) * T.c))
            (if inT T (h * n.ns + i - n.np) (w * n.ns + (↑k : Int) - n.np) then T.c.toNat else 0))))
  (AV.lit (Value.int IntKind.i64 (accN v (colE T n o i (h * n.ns + i - n.np) (w * n.ns - n.np)) (k + 1)))),
        Weak (AV.lit (Value.int IntKind.i64 ((↑k : Int) + 1))) (AV.lit (Value.int IntKind.i64 (↑(k + 1) : Int)))]) (by kernel_rfl) ?_
  exact ⟨(by (refine decide_eq_true ?_; omega)),
          (by exact IntWalk.i64_in _ (by omega)),
          (by exact IntWalk.i64_in _ (by omega)),
          (by exact IntWalk.i64_in _ (by omega)),
          (by exact IntWalk.i64_in _ (by omega)),
          (by exact IntWalk.i64_in _ (by omega)),
          (by exact IntWalk.i64_in _ (by omega)),
          (Weak.int (show ((0) : Int) = ((↑0 : Int)) from (by omega))),
          (@rcSum_c (T) (n) (h) (w) (o) (i) ((↑k :
    Int)) (h * n.ns + i -
    n.np) (w * n.ns + (↑k : Int) -
    n.np) (accN v (colE T n o i (h * n.ns + i - n.np) (w * n.ns - n.np))
    k) (by with_reducible assumption) (by with_reducible assumption) (by with_reducible assumption) (by with_reducible assumption) (by with_reducible assumption) (by omega) (by omega) (by omega) (by omega)),
          (by exact IntWalk.i64_in _ (by omega)),
          (Weak.int (show ((accN (accN v (colE T n o i (h * n.ns + i - n.np) (w * n.ns - n.np)) k)
    (cterm T n (((o * n.nk + i) * n.nk + (↑k : Int)) * T.c)
          (((h * n.ns + i - n.np) * T.x + (w * n.ns + (↑k : Int) - n.np)) * T.c))
    (if inT T (h * n.ns + i - n.np) (w * n.ns + (↑k : Int) - n.np) then T.c.toNat
    else 0)) : Int) = (accN v (colE T n o i (h * n.ns + i - n.np) (w * n.ns - n.np)) (k + 1)) from (by (rw [accN, colE, ← g16, accN_eq])))),
          (Weak.int (show (((↑k : Int) + 1) : Int) = ((↑(k + 1) : Int)) from (by omega))),
          trivial⟩
set_option maxRecDepth 100000 in
set_option maxHeartbeats 2000000 in
theorem rcSum_j_e (T : Ten) (n : Nod) (h w o i v : Int) (ok : CvOk T n) (o0 : 0 ≤ o) (o1 : o < n.no) (h0 : 0 ≤ h) (h1 : h ≤ 1000) (w0 : 0 ≤ w) (w1 : w ≤ 1000) (i0 : 0 ≤ i) (i1 : i < n.nk) (v0 : -100000000000 ≤ v) (v1 : v ≤ 100000000000) : VT Try.prog (fnC Try.f36 [1, 1, 0, 1, 0, 0, 1, 0, 0, 1, 0, 0]) (rcSum_j_I T n h w o i v (n.nk.toNat)) (.exit 2) (rcSum_j_Z T n h w o i v) := by
  have nn := ok.n
  have g1 := nn.k1
  refine VT.run (W := [.r [] [], .br false]) (G := [GI.any [29, 30, 31, 32], GI.sort])
    (ob := [decide ((↑n.nk.toNat : Int) < n.nk) = false]) (by kernel_rfl) ?_
  exact ⟨(by (refine decide_eq_false ?_; omega)),
          trivial⟩
theorem rcSum_j (T : Ten) (n : Nod) (h w o i v : Int) (ok : CvOk T n) (o0 : 0 ≤ o) (o1 : o < n.no) (h0 : 0 ≤ h) (h1 : h ≤ 1000) (w0 : 0 ≤ w) (w1 : w ≤ 1000) (i0 : 0 ≤ i) (i1 : i < n.nk) (v0 : -100000000000 ≤ v) (v1 : v ≤ 100000000000) : VT Try.prog (fnC Try.f36 [1, 1, 0, 1, 0, 0, 1, 0, 0, 1, 0]) (rcSum_j_I T n h w o i v 0) (.exit 2) (rcSum_j_Z T n h w o i v) :=
  VT.loop (fun k => rcSum_j_I T n h w o i v k) (n.nk.toNat) (fun k hk => rcSum_j_s T n h w o i v ok o0 o1 h0 h1 w0 w1 i0 i1 v0 v1 k hk) (rcSum_j_e T n h w o i v ok o0 o1 h0 h1 w0 w1 i0 i1 v0 v1) (by intro h; cases h)
end Go.Proofs.Ytcegfkmelcjdhaa

