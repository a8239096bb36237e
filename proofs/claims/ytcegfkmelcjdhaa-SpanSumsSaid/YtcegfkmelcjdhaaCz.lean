/- The sums of a window, by the document. No condition. -/
import Derived.Test.YtcegfkmelcjdhaaCy
namespace Go.Proofs.Ytcegfkmelcjdhaa
open Go.RowKit
set_option linter.unusedSimpArgs false
set_option linter.unusedVariables false
set_option linter.unnecessarySimpa false

theorem ifn_lt {p : Prop} [Decidable p] {a k : Nat} (h : k < if p then a else 0) : p ∧ k < a := by
  by_cases hp : p
  · rw [if_pos hp] at h; exact ⟨hp, h⟩
  · rw [if_neg hp] at h; omega
/-- Sums that begin with v. -/
def accN (v : Int) (f : Nat → Int) : Nat → Int
  | 0 => v
  | k + 1 => accN v f k + f k
theorem accN_eq (v : Int) (f : Nat → Int) : ∀ k, accN v f k = v + sumN f k
  | 0 => by simp [accN, sumN]
  | k + 1 => by rw [accN, sumN, accN_eq v f k]; omega
set_option maxRecDepth 100000 in
set_option maxHeartbeats 2000000 in
theorem get_v (T : Ten) (h w c : Int) (h0 : 0 ≤ h * T.x) (h1 : h * T.x ≤ 1024) (w0 : 0 ≤ w) (w1 : w ≤ 1024) (g0 : 0 ≤ (h * T.x + w) * T.c) (c0 : 0 ≤ c) (g1 : (h * T.x + w) * T.c + c < T.d.length) (dl : T.d.length ≤ 1024) : VC Try.prog 75 ([ten .i8 T, i64 h, i64 w, i64 c]) (i8 (T.d.getD ((h * T.x + w) * T.c + c).toNat 0)) := by
  have oz5 := (map_at (row1 IntKind.i8) (0) (l := T.d) (i := ((h * T.x + w) * T.c + c).toNat) (by omega))
  exact VC.run (fn := Try.f75) (W := [.r [] [], .r [] [.n (h * T.x), .n (h * T.x + w), .n ((h * T.x + w) * T.c), .n ((h * T.x + w) * T.c + c), .row (sO oz5)]]) Try.func75 (by kernel_rfl) (.c (IntWalk.i64_in (h * T.x) (by omega)) <| .c (IntWalk.i64_in (h * T.x + w) (by omega)) <| .c (IntWalk.i64_in ((h * T.x + w) * T.c) (by omega)) <| .c (IntWalk.i64_in ((h * T.x + w) * T.c + c) (by omega)) <| .c (show 0 ≤ (h * T.x + w) * T.c + c by omega) <| .c oz5 <| .n)
/-- Whether a place lies within. -/
abbrev inT (T : Ten) (y x : Int) : Prop := 0 ≤ y ∧ y < T.h ∧ 0 ≤ x ∧ x < T.x
noncomputable def rcSum_c_I (T : Ten) (n : Nod) (h w o i j y x v : Int) (k : Nat) : VS := stt 118 [(2, i64 h), (3, i64 w), (4, i64 o), (5, .ptr 5 0 0), (6, .ptr 6 0 0), (11, i64 (accN v (cterm T n (((o * n.nk + i) * n.nk + j) * T.c) ((y * T.x + x) * T.c)) k)), (12, i64 i), (13, i64 j), (14, i64 y), (15, i64 x), (16, i64 k)] [(5, .var [i64 T.h, i64 T.x, i64 T.c, ints .i8 T.d]), (6, .var (nodC n))]
noncomputable def rcSum_c_Z (T : Ten) (n : Nod) (h w o i j y x v : Int) : VS := rcSum_c_I T n h w o i j y x v (if inT T y x then T.c.toNat else 0)
set_option maxRecDepth 100000 in
set_option maxHeartbeats 2000000 in
theorem rcSum_c_s (T : Ten) (n : Nod) (h w o i j y x v : Int) (ok : CvOk T n) (o0 : 0 ≤ o) (o1 : o < n.no) (i0 : 0 ≤ i) (i1 : i < n.nk) (j0 : 0 ≤ j) (j1 : j < n.nk) (v0 : -1000000000000 ≤ v) (v1 : v ≤ 1000000000000) (k : Nat) (hk : k < if inT T y x then T.c.toNat else 0) : VT Try.prog (fnC Try.f36 [1, 1, 0, 1, 0, 0, 1, 0, 0, 1, 0, 0, 1, 0, 0, 1, 1, 0, 0]) (rcSum_c_I T n h w o i j y x v k) .normal (rcSum_c_I T n h w o i j y x v (k + 1)) := by
  have nn := ok.n
  obtain ⟨⟨y0, y1, x0, x1⟩, hk'⟩ := ifn_lt hk
  have g1 := wat nn o0 o1 i0 i1
  have g2 := dat nn y0 y1
  have c1 := nn.c1
  have k5 := nn.k5
  have g3 := nn.w2
  have g4 := nn.d2
  have g5 : ((o * n.nk + i) * n.nk + j) * T.c + T.c ≤ (o * n.nk + i) * n.nk * T.c + n.nk * T.c := by
    rw [← Int.add_mul]
    have := Int.mul_le_mul_of_nonneg_right (show (o * n.nk + i) * n.nk + j + 1 ≤ (o * n.nk + i) * n.nk + n.nk by omega) (show 0 ≤ T.c by omega)
    rw [Int.add_mul _ 1, Int.one_mul] at this; exact this
  have g6 : 0 ≤ ((o * n.nk + i) * n.nk + j) * T.c := Int.mul_nonneg (by omega) (by omega)
  have g7 := idx_bd (a := y * T.x + x) (m := y * T.x + T.x) (b := T.c - 1) (n := T.c) (by omega) (by omega) (by omega) (by omega)
  have g8 : 0 ≤ (y * T.x + x) * T.c := Int.mul_nonneg (by omega) (by omega)
  have g11 : (y * T.x + T.x) * 1 ≤ (y * T.x + T.x) * T.c := Int.mul_le_mul_of_nonneg_left (by omega) (by omega)
  have h1 := gt8 ok.okn.w (((o * n.nk + i) * n.nk + j) * T.c + (k : Int)).toNat
  have h2 := gt8 ok.ok.d ((y * T.x + x) * T.c + (k : Int)).toNat
  have h3 : -128 ≤ n.za ∧ n.za ≤ 127 := ok.okn.za
  have h4 := prod_bd h1 (b := T.d.getD ((y * T.x + x) * T.c + (k : Int)).toNat 0 - n.za) (by omega)
  have g9 := sumN_bd (B := 32640) (f := cterm T n (((o * n.nk + i) * n.nk + j) * T.c) ((y * T.x + x) * T.c)) k fun c _ => cterm_bd ok.ok ok.okn _ _ c
  have g10 : (T.c : Int) ≤ 1024 := by omega
  have g12 := accN_eq v (cterm T n (((o * n.nk + i) * n.nk + j) * T.c) ((y * T.x + x) * T.c)) k
  have oz0 := (decide_eq_true (p := ((↑k : Int) < T.c)) (by omega))
  have oz3 := (decide_eq_true (p := (y ≥ 0)) (by omega))
  have oz9 := (decide_eq_true (p := (y < T.h)) (by omega))
  have oz12 := (decide_eq_true (p := (x ≥ 0)) (by omega))
  have oz23 := (IntWalk.i64_in (((o * n.nk + i) * n.nk + j) * T.c) (by omega))
  have oz24 := (IntWalk.i64_in (((o * n.nk + i) * n.nk + j) * T.c + (↑k : Int)) (by omega))
  have oz26 := (map_at (row1 IntKind.i8) (0) (l := n.w) (i := (((o * n.nk + i) * n.nk + j) * T.c + (↑k : Int)).toNat) (by omega))
  have oz27 := (IntWalk.i64_in (n.w.getD (((o * n.nk + i) * n.nk + j) * T.c + (↑k : Int)).toNat 0) (by omega))
  have oz28 := @get_v (T) (y) (x) ((↑k : Int)) (by omega) (by omega) x0 (by omega) g8 (by omega) (by omega) g4
  have oz29 := (IntWalk.i64_in (T.d.getD ((y * T.x + x) * T.c + (↑k : Int)).toNat 0) (by omega))
  have oz31 := (IntWalk.i64_in (T.d.getD ((y * T.x + x) * T.c + (↑k : Int)).toNat 0 - n.za) (by omega))
  have oz32 := (IntWalk.i64_in (n.w.getD (((o * n.nk + i) * n.nk + j) * T.c + (↑k : Int)).toNat 0 * (T.d.getD ((y * T.x + x) * T.c + (↑k : Int)).toNat 0 - n.za)) (by omega))
  have oz33 := (IntWalk.i64_in (accN v (cterm T n (((o * n.nk + i) * n.nk + j) * T.c) ((y * T.x + x) * T.c)) k + n.w.getD (((o * n.nk + i) * n.nk + j) * T.c + (↑k : Int)).toNat 0 * (T.d.getD ((y * T.x + x) * T.c + (↑k : Int)).toNat 0 - n.za)) (by omega))
  have oz35 := (Weak.int (k := .i64) (show ((accN v (cterm T n (((o * n.nk + i) * n.nk + j) * T.c) ((y * T.x + x) * T.c)) k + n.w.getD (((o * n.nk + i) * n.nk + j) * T.c + (↑k : Int)).toNat 0 * (T.d.getD ((y * T.x + x) * T.c + (↑k : Int)).toNat 0 - n.za)) : Int) = (accN v (cterm T n (((o * n.nk + i) * n.nk + j) * T.c) ((y * T.x + x) * T.c)) (k + 1)) from (by rfl)))
  exact VT.run (W := [.r [] [.br true, .br true, .br true, .br true, .br true, .br true, .br true, .br true, .br true, .br true, .br true, .br true, .br true, .br true, .br true, .br true, .br true, .br true], .br true, .r [] [.n (o * n.nk), .n (o * n.nk + i), .n ((o * n.nk + i) * n.nk), .n ((o * n.nk + i) * n.nk + j), .n (nO oz23), .n (nO oz24), .row (sO oz26), .n (nO oz27), .callr (rO oz28), .n (nO oz29), .n n.za, .n (nO oz31), .n (nO oz32), .n (nO oz33)], .r [] [.n ((↑k : Int) + 1)]]) (G := [.any (rg [(53, 64)]), .weak 11 (wO oz35), .weak 16 (i64 (↑(k + 1) : Int)), .sort]) (by kernel_rfl) (.c oz0 <| .c oz0 <| .c oz0 <| .c oz3 <| .c oz3 <| .c oz3 <| .c oz3 <| .c oz3 <| .c oz3 <| .c oz9 <| .c oz9 <| .c oz9 <| .c oz12 <| .c oz12 <| .c oz12 <| .c oz12 <| .c oz12 <| .c oz12 <| .c (decide_eq_true (p := (x < T.x)) (by omega)) <| .c (IntWalk.i64_in (o * n.nk) (by omega)) <| .c (IntWalk.i64_in (o * n.nk + i) (by omega)) <| .c (IntWalk.i64_in ((o * n.nk + i) * n.nk) (by omega)) <| .c (IntWalk.i64_in ((o * n.nk + i) * n.nk + j) (by omega)) <| .c oz23 <| .c oz24 <| .c (show 0 ≤ ((o * n.nk + i) * n.nk + j) * T.c + (↑k : Int) by omega) <| .c oz26 <| .c oz27 <| .c oz28 <| .c oz29 <| .c (IntWalk.i64_in n.za (by omega)) <| .c oz31 <| .c oz32 <| .c oz33 <| .c (IntWalk.i64_in ((↑k : Int) + 1) (by omega)) <| .c oz35 <| .c (Weak.int (k := .i64) (show (((↑k : Int) + 1) : Int) = ((↑(k + 1) : Int)) from (by omega))) <| .n)
set_option maxRecDepth 100000 in
set_option maxHeartbeats 2000000 in
theorem rcSum_c_e (T : Ten) (n : Nod) (h w o i j y x v : Int) (ok : CvOk T n) (o0 : 0 ≤ o) (o1 : o < n.no) (i0 : 0 ≤ i) (i1 : i < n.nk) (j0 : 0 ≤ j) (j1 : j < n.nk) (v0 : -1000000000000 ≤ v) (v1 : v ≤ 1000000000000) : VT Try.prog (fnC Try.f36 [1, 1, 0, 1, 0, 0, 1, 0, 0, 1, 0, 0, 1, 0, 0, 1, 1, 0, 0]) (rcSum_c_I T n h w o i j y x v (if inT T y x then T.c.toNat else 0)) (.exit 4) (rcSum_c_Z T n h w o i j y x v) := by
  have hin : (0 ≤ y ∧ y < T.h ∧ 0 ≤ x ∧ x < T.x) → (if inT T y x then T.c.toNat else 0) = T.c.toNat := fun h => if_pos h
  rcases Bool.eq_false_or_eq_true (decide ((↑(if inT T y x then T.c.toNat else 0) : Int) < T.c)) with hc0 | hc0
  · have gc0 := of_decide_eq_true hc0
    rcases Bool.eq_false_or_eq_true (decide (y ≥ 0)) with hc1 | hc1
    · have gc1 := of_decide_eq_true hc1
      rcases Bool.eq_false_or_eq_true (decide (y < T.h)) with hc2 | hc2
      · have gc2 := of_decide_eq_true hc2
        rcases Bool.eq_false_or_eq_true (decide (x ≥ 0)) with hc3 | hc3
        · have gc3 := of_decide_eq_true hc3
          exact VT.run (W := [.r [] [.br true, .br true, .br true, .br true, .br true, .br true, .br true, .br true, .br true, .br true, .br true, .br true, .br true, .br true, .br true, .br true, .br true, .br true], .br false]) (G := [.any (rg [(53, 27)]), .sort]) (by kernel_rfl) (.c hc0 <| .c hc0 <| .c hc0 <| .c hc1 <| .c hc1 <| .c hc1 <| .c hc1 <| .c hc1 <| .c hc1 <| .c hc2 <| .c hc2 <| .c hc2 <| .c hc3 <| .c hc3 <| .c hc3 <| .c hc3 <| .c hc3 <| .c hc3 <| .c (decide_eq_false (p := (x < T.x)) (by omega)) <| .n)
        · have gc3 := of_decide_eq_false hc3
          have oz12 := (show decide (x ≥ 0) = !true by (refine decide_eq_false ?_; omega))
          exact VT.run (W := [.r [] [.br true, .br true, .br true, .br true, .br true, .br true, .br true, .br true, .br true, .br true, .br true, .br true, .br false, .br false, .br false, .br false, .br false, .br false], .br false]) (G := [.any (rg [(53, 27)]), .sort]) (by kernel_rfl) (.c hc0 <| .c hc0 <| .c hc0 <| .c hc1 <| .c hc1 <| .c hc1 <| .c hc1 <| .c hc1 <| .c hc1 <| .c hc2 <| .c hc2 <| .c hc2 <| .c oz12 <| .c oz12 <| .c oz12 <| .c oz12 <| .c oz12 <| .c hc3 <| .c (show false = false by with_reducible rfl) <| .n)
      · have gc2 := of_decide_eq_false hc2
        have oz9 := (show decide (y < T.h) = !true by (refine decide_eq_false ?_; omega))
        have oz12 := (show false = !true by (simp; done))
        have oz17 := (show false = false by with_reducible rfl)
        exact VT.run (W := [.r [] [.br true, .br true, .br true, .br true, .br true, .br true, .br true, .br true, .br true, .br false, .br false, .br false, .br false, .br false, .br false, .br false, .br false, .br false], .br false]) (G := [.any (rg [(53, 27)]), .sort]) (by kernel_rfl) (.c hc0 <| .c hc0 <| .c hc0 <| .c hc1 <| .c hc1 <| .c hc1 <| .c hc1 <| .c hc1 <| .c hc1 <| .c oz9 <| .c oz9 <| .c hc2 <| .c oz12 <| .c oz12 <| .c oz12 <| .c oz12 <| .c oz12 <| .c oz17 <| .c oz17 <| .n)
    · have gc1 := of_decide_eq_false hc1
      have oz3 := (show decide (y ≥ 0) = !true by (refine decide_eq_false ?_; omega))
      have oz9 := (show false = !true by (simp; done))
      have oz11 := (show false = false by with_reducible rfl)
      exact VT.run (W := [.r [] [.br true, .br true, .br true, .br false, .br false, .br false, .br false, .br false, .br false, .br false, .br false, .br false, .br false, .br false, .br false, .br false, .br false, .br false], .br false]) (G := [.any (rg [(53, 27)]), .sort]) (by kernel_rfl) (.c hc0 <| .c hc0 <| .c hc0 <| .c oz3 <| .c oz3 <| .c oz3 <| .c oz3 <| .c oz3 <| .c hc1 <| .c oz9 <| .c oz9 <| .c oz11 <| .c oz9 <| .c oz9 <| .c oz9 <| .c oz9 <| .c oz9 <| .c oz11 <| .c oz11 <| .n)
  · have gc0 := of_decide_eq_false hc0
    have oz0 := (show decide ((↑(if inT T y x then T.c.toNat else 0) : Int) < T.c) = !true by (refine decide_eq_false ?_; omega))
    have oz3 := (show false = !true by (simp; done))
    have oz8 := (show false = false by with_reducible rfl)
    exact VT.run (W := [.r [] [.br false, .br false, .br false, .br false, .br false, .br false, .br false, .br false, .br false, .br false, .br false, .br false, .br false, .br false, .br false, .br false, .br false, .br false], .br false]) (G := [.any (rg [(53, 27)]), .sort]) (by kernel_rfl) (.c oz0 <| .c oz0 <| .c hc0 <| .c oz3 <| .c oz3 <| .c oz3 <| .c oz3 <| .c oz3 <| .c oz8 <| .c oz3 <| .c oz3 <| .c oz8 <| .c oz3 <| .c oz3 <| .c oz3 <| .c oz3 <| .c oz3 <| .c oz8 <| .c oz8 <| .n)
theorem rcSum_c (T : Ten) (n : Nod) (h w o i j y x v : Int) (ok : CvOk T n) (o0 : 0 ≤ o) (o1 : o < n.no) (i0 : 0 ≤ i) (i1 : i < n.nk) (j0 : 0 ≤ j) (j1 : j < n.nk) (v0 : -1000000000000 ≤ v) (v1 : v ≤ 1000000000000) : VT Try.prog (fnC Try.f36 [1, 1, 0, 1, 0, 0, 1, 0, 0, 1, 0, 0, 1, 0, 0, 1, 1, 0]) (rcSum_c_I T n h w o i j y x v 0) (.exit 4) (rcSum_c_Z T n h w o i j y x v) :=
  VT.loop (fun k => rcSum_c_I T n h w o i j y x v k) (if inT T y x then T.c.toNat else 0) (fun k hk => rcSum_c_s T n h w o i j y x v ok o0 o1 i0 i1 j0 j1 v0 v1 k hk) (rcSum_c_e T n h w o i j y x v ok o0 o1 i0 i1 j0 j1 v0 v1) (by intro h; cases h)
/-- A column of a window, over whole numbers. -/
def colE (T : Ten) (n : Nod) (o i y x : Int) (j : Nat) : Int := sumN (cterm T n (((o * n.nk + i) * n.nk + (j : Int)) * T.c) ((y * T.x + (x + (j : Int))) * T.c)) (if inT T y (x + (j : Int)) then T.c.toNat else 0)
theorem colE_bd {T : Ten} {n : Nod} (ok : CvOk T n) (o i y x : Int) (j : Nat) : -33423360 ≤ colE T n o i y x j ∧ colE T n o i y x j ≤ 33423360 := by
  have nn := ok.n
  have g9 := sumN_bd (B := 32640) (f := cterm T n (((o * n.nk + i) * n.nk + (j : Int)) * T.c) ((y * T.x + (x + (j : Int))) * T.c)) (if inT T y (x + (j : Int)) then T.c.toNat else 0) fun c _ => cterm_bd ok.ok ok.okn _ _ c
  have g10 := nn.c1
  have g11 := nn.dl
  have g12 := nn.d2
  have a := mul_bd (a := 1) (A := T.h * T.x) (b := T.c) (B := T.c) (by omega) (by have := nn.h1; have := nn.x1; exact Int.mul_le_mul (a := 1) (b := 1) (by omega) (by omega) (by omega) (by omega)) (by omega) (by omega)
  unfold colE
  split at g9
  · rename_i h; rw [if_pos h]; omega
  · rename_i h; rw [if_neg h]; omega
noncomputable def rcSum_j_I (T : Ten) (n : Nod) (h w o i v : Int) (k : Nat) : VS := stt 118 [(2, i64 h), (3, i64 w), (4, i64 o), (5, .ptr 5 0 0), (6, .ptr 6 0 0), (11, i64 (accN v (colE T n o i (h * n.ns + i - n.np) (w * n.ns - n.np)) k)), (12, i64 i), (13, i64 k)] [(5, .var [i64 T.h, i64 T.x, i64 T.c, ints .i8 T.d]), (6, .var (nodC n))]
noncomputable def rcSum_j_Z (T : Ten) (n : Nod) (h w o i v : Int) : VS := rcSum_j_I T n h w o i v (n.nk.toNat)
set_option maxRecDepth 100000 in
set_option maxHeartbeats 2000000 in
theorem rcSum_j_s (T : Ten) (n : Nod) (h w o i v : Int) (ok : CvOk T n) (o0 : 0 ≤ o) (o1 : o < n.no) (h0 : 0 ≤ h) (h1 : h ≤ 1000) (w0 : 0 ≤ w) (w1 : w ≤ 1000) (i0 : 0 ≤ i) (i1 : i < n.nk) (v0 : -100000000000 ≤ v) (v1 : v ≤ 100000000000) (k : Nat) (hk : k < n.nk.toNat) : VT Try.prog (fnC Try.f36 [1, 1, 0, 1, 0, 0, 1, 0, 0, 1, 0, 0]) (rcSum_j_I T n h w o i v k) .normal (rcSum_j_I T n h w o i v (k + 1)) := by
  have nn := ok.n
  have g1 := nn.k1
  have g2 := nn.k5
  have g8 := nn.s1
  have g9 := nn.s4
  have g10 := nn.p0
  have g11 := nn.p4
  have g13 := mul_bd (A := 1000) (B := 4) h0 h1 (show 0 ≤ n.ns by omega) g9
  have g14 := mul_bd (A := 1000) (B := 4) w0 w1 (show 0 ≤ n.ns by omega) g9
  have g15 := sumN_bd (B := 33423360) (f := colE T n o i (h * n.ns + i - n.np) (w * n.ns - n.np)) k fun j _ => colE_bd ok _ _ _ _ j
  have g17 := accN_eq v (colE T n o i (h * n.ns + i - n.np) (w * n.ns - n.np)) k
  have g16 : w * n.ns + (k : Int) - n.np = w * n.ns - n.np + (k : Int) := by omega
  have oz8 := @rcSum_c (T) (n) (h) (w) (o) (i) ((↑k : Int)) (h * n.ns + i - n.np) (w * n.ns + (↑k : Int) - n.np) (accN v (colE T n o i (h * n.ns + i - n.np) (w * n.ns - n.np)) k) ok o0 o1 i0 i1 (by omega) (by omega) (by omega) (by omega)
  have oz10 := (Weak.int (k := .i64) (show ((accN (accN v (colE T n o i (h * n.ns + i - n.np) (w * n.ns - n.np)) k) (cterm T n (((o * n.nk + i) * n.nk + (↑k : Int)) * T.c) (((h * n.ns + i - n.np) * T.x + (w * n.ns + (↑k : Int) - n.np)) * T.c)) (if inT T (h * n.ns + i - n.np) (w * n.ns + (↑k : Int) - n.np) then T.c.toNat else 0)) : Int) = (accN v (colE T n o i (h * n.ns + i - n.np) (w * n.ns - n.np)) (k + 1)) from (by (rw [accN, colE, ← g16, accN_eq]))))
  exact VT.run (W := [.r [] [], .br true, .r [] [.n (h * n.ns), .n (h * n.ns + i), .n (h * n.ns + i - n.np), .n (w * n.ns), .n (w * n.ns + (↑k : Int)), .n (w * n.ns + (↑k : Int) - n.np)], .r [] [], .code [.any (rg [(29, 4), (35, 18)]), .weak 16 (i64 (↑0 : Int)), .sort] (Exit.exit 4) (zO oz8), .r [] [.n ((↑k : Int) + 1)]]) (G := [.any [14, 15, 16, 33, 34], .weak 11 (wO oz10), .weak 13 (i64 (↑(k + 1) : Int)), .sort]) (by kernel_rfl) (.c (decide_eq_true (p := ((↑k : Int) < n.nk)) (by omega)) <| .c (IntWalk.i64_in (h * n.ns) (by omega)) <| .c (IntWalk.i64_in (h * n.ns + i) (by omega)) <| .c (IntWalk.i64_in (h * n.ns + i - n.np) (by omega)) <| .c (IntWalk.i64_in (w * n.ns) (by omega)) <| .c (IntWalk.i64_in (w * n.ns + (↑k : Int)) (by omega)) <| .c (IntWalk.i64_in (w * n.ns + (↑k : Int) - n.np) (by omega)) <| .c (Weak.int (k := .i64) (show ((0) : Int) = ((↑0 : Int)) from (by omega))) <| .c oz8 <| .c (IntWalk.i64_in ((↑k : Int) + 1) (by omega)) <| .c oz10 <| .c (Weak.int (k := .i64) (show (((↑k : Int) + 1) : Int) = ((↑(k + 1) : Int)) from (by omega))) <| .n)
set_option maxRecDepth 100000 in
set_option maxHeartbeats 2000000 in
theorem rcSum_j_e (T : Ten) (n : Nod) (h w o i v : Int) (ok : CvOk T n) (o0 : 0 ≤ o) (o1 : o < n.no) (h0 : 0 ≤ h) (h1 : h ≤ 1000) (w0 : 0 ≤ w) (w1 : w ≤ 1000) (i0 : 0 ≤ i) (i1 : i < n.nk) (v0 : -100000000000 ≤ v) (v1 : v ≤ 100000000000) : VT Try.prog (fnC Try.f36 [1, 1, 0, 1, 0, 0, 1, 0, 0, 1, 0, 0]) (rcSum_j_I T n h w o i v (n.nk.toNat)) (.exit 2) (rcSum_j_Z T n h w o i v) := by
  have nn := ok.n
  have g1 := nn.k1
  exact VT.run (W := [.r [] [], .br false]) (G := [.any (rg [(29, 4)]), .sort]) (by kernel_rfl) (.c (decide_eq_false (p := ((↑n.nk.toNat : Int) < n.nk)) (by omega)) <| .n)
theorem rcSum_j (T : Ten) (n : Nod) (h w o i v : Int) (ok : CvOk T n) (o0 : 0 ≤ o) (o1 : o < n.no) (h0 : 0 ≤ h) (h1 : h ≤ 1000) (w0 : 0 ≤ w) (w1 : w ≤ 1000) (i0 : 0 ≤ i) (i1 : i < n.nk) (v0 : -100000000000 ≤ v) (v1 : v ≤ 100000000000) : VT Try.prog (fnC Try.f36 [1, 1, 0, 1, 0, 0, 1, 0, 0, 1, 0]) (rcSum_j_I T n h w o i v 0) (.exit 2) (rcSum_j_Z T n h w o i v) :=
  VT.loop (fun k => rcSum_j_I T n h w o i v k) (n.nk.toNat) (fun k hk => rcSum_j_s T n h w o i v ok o0 o1 h0 h1 w0 w1 i0 i1 v0 v1 k hk) (rcSum_j_e T n h w o i v ok o0 o1 h0 h1 w0 w1 i0 i1 v0 v1) (by intro h; cases h)
end Go.Proofs.Ytcegfkmelcjdhaa

