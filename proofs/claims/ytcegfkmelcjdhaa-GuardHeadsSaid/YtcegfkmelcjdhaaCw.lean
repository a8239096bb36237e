/- What a window makes, by the program. No condition. -/
import Derived.Test.YtcegfkmelcjdhaaCv
namespace Go.Proofs.Ytcegfkmelcjdhaa
open Go.RowKit
set_option linter.unusedSimpArgs false
set_option linter.unusedVariables false
set_option linter.unnecessarySimpa false

/-- The number at a place. -/
abbrev gt (l : List Int) (i : Int) : Int := l.getD i.toNat 0
theorem gt_of {P : Int → Prop} {l : List Int} (h : ∀ v ∈ l, P v) (h0 : P 0) (i : Nat) : P (l.getD i 0) := by
  rw [List.getD_eq_getElem?_getD]
  by_cases hi : i < l.length
  · rw [List.getElem?_eq_getElem hi]; exact h _ (List.getElem_mem hi)
  · rw [List.getElem?_eq_none (by omega)]; exact h0
theorem gt8 {l : List Int} (h : ∀ v ∈ l, In8 v) (i : Nat) : -128 ≤ l.getD i 0 ∧ l.getD i 0 ≤ 127 := gt_of h ⟨by decide, by decide⟩ i
theorem gt32 {l : List Int} (h : ∀ v ∈ l, In32 v) (i : Nat) : -2147483648 ≤ l.getD i 0 ∧ l.getD i 0 ≤ 2147483647 := gt_of h ⟨by decide, by decide⟩ i
theorem prod_bd {a b : Int} (h : -128 ≤ a ∧ a ≤ 127) (h' : -255 ≤ b ∧ b ≤ 255) : -32640 ≤ a * b ∧ a * b ≤ 32640 := by
  have h1 : (a + 128) * (255 - b) ≥ 0 := Int.mul_nonneg (by omega) (by omega)
  have h2 : (128 - a) * (255 + b) ≥ 0 := Int.mul_nonneg (by omega) (by omega)
  have h3 : (a + 128) * (255 + b) ≥ 0 := Int.mul_nonneg (by omega) (by omega)
  have h4 : (128 - a) * (255 - b) ≥ 0 := Int.mul_nonneg (by omega) (by omega)
  simp only [Int.add_mul, Int.sub_mul, Int.mul_add, Int.mul_sub] at h1 h2 h3 h4
  omega
abbrev win (T : Ten) (n : Nod) : AV := .agg ([i64 T.h, i64 T.x, i64 T.c, ints .i8 T.d] ++ nodC n)
/-- One product. -/
def cterm (T : Ten) (n : Nod) (a f : Int) (c : Nat) : Int := gt n.w (a + c) * (gt T.d (f + c) - n.za)
theorem cterm_bd {T : Ten} {n : Nod} (ok : T.Ok) (okn : n.Ok) (a f : Int) (c : Nat) : -32640 ≤ cterm T n a f c ∧ cterm T n a f c ≤ 32640 := by
  have h1 := gt8 okn.w (a + c).toNat
  have h2 := gt8 ok.d (f + c).toNat
  have h3 : -128 ≤ n.za ∧ n.za ≤ 127 := okn.za
  exact prod_bd h1 (b := T.d.getD (f + c).toNat 0 - n.za) (by omega)
/-- Sums of 32 bits. -/
def acc32 (v : Int) (f : Nat → Int) : Nat → Int
  | 0 => v
  | k + 1 => IntKind.i32.wrap (acc32 v f k + f k)
noncomputable def cvRow_c_I (T : Ten) (n : Nod) (h w a j f v : Int) (k : Nat) : VS := stt 100 [(3, i64 h), (4, i64 w), (5, .ptr 5 0 0), (11, .ptr 11 0 0), (12, i32 (acc32 v (cterm T n (a + j * T.c) f) k)), (13, i64 a), (14, i64 j), (16, i64 f), (62, i64 T.c), (63, i64 k)] [(5, .var ([i64 T.h, i64 T.x, i64 T.c, ints .i8 T.d] ++ nodC n)), (11, .var [i64 T.h, i64 T.x, i64 T.c])]
noncomputable def cvRow_c_Z (T : Ten) (n : Nod) (h w a j f v : Int) : VS := cvRow_c_I T n h w a j f v (T.c.toNat)
set_option maxRecDepth 100000 in
set_option maxHeartbeats 2000000 in
theorem cvRow_c_s (T : Ten) (n : Nod) (h w a j f v : Int) (ok : T.Ok) (okn : n.Ok) (c1 : 1 ≤ T.c) (a0 : 0 ≤ a) (j0 : 0 ≤ j * T.c) (aw : a + j * T.c + T.c ≤ n.w.length) (wl : n.w.length ≤ 16384) (f0 : 0 ≤ f) (fd : f + T.c ≤ T.d.length) (dl : T.d.length ≤ 1024) (k : Nat) (hk : k < T.c.toNat) : VT Try.prog (fnC Try.f98 [1, 0, 1, 1, 1, 1, 1, 0, 1, 1, 0, 1, 1, 0, 0]) (cvRow_c_I T n h w a j f v k) .normal (cvRow_c_I T n h w a j f v (k + 1)) := by
  have h1 := gt8 okn.w (a + j * T.c + (k : Int)).toNat
  have h2 := gt8 ok.d (f + (k : Int)).toNat
  have h3 : -128 ≤ n.za ∧ n.za ≤ 127 := okn.za
  have h4 := prod_bd h1 (b := T.d.getD (f + (k : Int)).toNat 0 - n.za) (by omega)
  have oz5 := (map_at (row1 IntKind.i8) (0) (l := n.w) (i := (a + j * T.c + (↑k : Int)).toNat) (by omega))
  have oz6 := (IntWalk.i32_in (n.w.getD (a + j * T.c + (↑k : Int)).toNat 0) (by omega))
  have oz9 := (map_at (row1 IntKind.i8) (0) (l := T.d) (i := (f + (↑k : Int)).toNat) (by omega))
  have oz10 := (IntWalk.i32_in (T.d.getD (f + (↑k : Int)).toNat 0) (by omega))
  have oz12 := (IntWalk.i32_in (T.d.getD (f + (↑k : Int)).toNat 0 - n.za) (by omega))
  have oz13 := (IntWalk.i32_in (n.w.getD (a + j * T.c + (↑k : Int)).toNat 0 * (T.d.getD (f + (↑k : Int)).toNat 0 - n.za)) (by omega))
  have oz15 := (Weak.int (k := .i32) (show ((IntKind.i32.wrap (acc32 v (cterm T n (a + j * T.c) f) k + n.w.getD (a + j * T.c + (↑k : Int)).toNat 0 * (T.d.getD (f + (↑k : Int)).toNat 0 - n.za))) : Int) = (acc32 v (cterm T n (a + j * T.c) f) (k + 1)) from (by rfl)))
  exact VT.run (W := [.r [] [], .br true, .r [] [], .r [] [.n (j * T.c), .n (a + j * T.c), .n (a + j * T.c + (↑k : Int)), .row (sO oz5), .n (nO oz6), .n (f + (↑k : Int)), .row (sO oz9), .n (nO oz10), .n n.za, .n (nO oz12), .n (nO oz13), .w], .r [] [.n ((↑k : Int) + 1)]]) (G := [.any (rg [(17, 1), (64, 34)]), .weak 12 (wO oz15), .weak 63 (i64 (↑(k + 1) : Int)), .sort]) (by kernel_rfl) (.c (decide_eq_true (p := ((↑k : Int) < T.c)) (by omega)) <| .c (IntWalk.i64_in (j * T.c) (by omega)) <| .c (IntWalk.i64_in (a + j * T.c) (by omega)) <| .c (IntWalk.i64_in (a + j * T.c + (↑k : Int)) (by omega)) <| .c (show 0 ≤ a + j * T.c + (↑k : Int) by omega) <| .c oz5 <| .c oz6 <| .c (IntWalk.i64_in (f + (↑k : Int)) (by omega)) <| .c (show 0 ≤ f + (↑k : Int) by omega) <| .c oz9 <| .c oz10 <| .c (IntWalk.i32_in n.za (by omega)) <| .c oz12 <| .c oz13 <| .c (IntWalk.i64_in ((↑k : Int) + 1) (by omega)) <| .c oz15 <| .c (Weak.int (k := .i64) (show (((↑k : Int) + 1) : Int) = ((↑(k + 1) : Int)) from (by omega))) <| .n)
set_option maxRecDepth 100000 in
set_option maxHeartbeats 2000000 in
theorem cvRow_c_e (T : Ten) (n : Nod) (h w a j f v : Int) (ok : T.Ok) (okn : n.Ok) (c1 : 1 ≤ T.c) (a0 : 0 ≤ a) (j0 : 0 ≤ j * T.c) (aw : a + j * T.c + T.c ≤ n.w.length) (wl : n.w.length ≤ 16384) (f0 : 0 ≤ f) (fd : f + T.c ≤ T.d.length) (dl : T.d.length ≤ 1024) : VT Try.prog (fnC Try.f98 [1, 0, 1, 1, 1, 1, 1, 0, 1, 1, 0, 1, 1, 0, 0]) (cvRow_c_I T n h w a j f v (T.c.toNat)) (.exit 0) (cvRow_c_Z T n h w a j f v) := by
  exact VT.run (W := [.r [] [], .br false]) (G := [.any [64], .sort]) (by kernel_rfl) (.c (decide_eq_false (p := ((↑T.c.toNat : Int) < T.c)) (by omega)) <| .n)
theorem cvRow_c (T : Ten) (n : Nod) (h w a j f v : Int) (ok : T.Ok) (okn : n.Ok) (c1 : 1 ≤ T.c) (a0 : 0 ≤ a) (j0 : 0 ≤ j * T.c) (aw : a + j * T.c + T.c ≤ n.w.length) (wl : n.w.length ≤ 16384) (f0 : 0 ≤ f) (fd : f + T.c ≤ T.d.length) (dl : T.d.length ≤ 1024) : VT Try.prog (fnC Try.f98 [1, 0, 1, 1, 1, 1, 1, 0, 1, 1, 0, 1, 1, 0]) (cvRow_c_I T n h w a j f v 0) (.exit 0) (cvRow_c_Z T n h w a j f v) :=
  VT.loop (fun k => cvRow_c_I T n h w a j f v k) (T.c.toNat) (fun k hk => cvRow_c_s T n h w a j f v ok okn c1 a0 j0 aw wl f0 fd dl k hk) (cvRow_c_e T n h w a j f v ok okn c1 a0 j0 aw wl f0 fd dl) (by intro h; cases h)
/-- What a row of a window makes. -/
def rowAcc (T : Ten) (n : Nod) (a h w : Int) : Nat → Int
  | 0 => 0
  | j + 1 => if 0 ≤ w + (j : Int) ∧ w + (j : Int) < T.x then acc32 (rowAcc T n a h w j) (cterm T n (a + (j : Int) * T.c) ((h * T.x + (w + (j : Int))) * T.c)) T.c.toNat else rowAcc T n a h w j
noncomputable def cvRow_j_I (T : Ten) (n : Nod) (o i h w : Int) (k : Nat) : VS := stt 100 [(3, i64 h), (4, i64 w), (5, .ptr 5 0 0), (11, .ptr 11 0 0), (12, i32 (rowAcc T n ((o * n.nk + i) * n.nk * T.c) h w k)), (13, i64 ((o * n.nk + i) * n.nk * T.c)), (14, i64 k)] [(5, .var ([i64 T.h, i64 T.x, i64 T.c, ints .i8 T.d] ++ nodC n)), (11, .var [i64 T.h, i64 T.x, i64 T.c])]
noncomputable def cvRow_j_Z (T : Ten) (n : Nod) (o i h w : Int) : VS := stt 100 [(10, i32 (rowAcc T n ((o * n.nk + i) * n.nk * T.c) h w n.nk.toNat))] []
noncomputable def cvRow_j_A (T : Ten) (n : Nod) (o i h w : Int) : VS := stt 100 [(1, i64 o), (2, i64 i), (3, i64 h), (4, i64 w), (5, .ptr 5 0 0)] [(5, .var ([i64 T.h, i64 T.x, i64 T.c, ints .i8 T.d] ++ nodC n))]
set_option maxRecDepth 100000 in
set_option maxHeartbeats 2000000 in
theorem cvRow_j_s (T : Ten) (n : Nod) (o i h w : Int) (ok : T.Ok) (okn : n.Ok) (c1 : 1 ≤ T.c) (x0 : 1 ≤ T.x) (x1 : T.x ≤ 16) (k1 : 1 ≤ n.nk) (k5 : n.nk ≤ 5) (o0 : 0 ≤ o * n.nk) (o1 : o * n.nk ≤ 16384) (i0 : 0 ≤ i) (i1 : i ≤ 5) (a0 : 0 ≤ (o * n.nk + i) * n.nk) (a1 : (o * n.nk + i) * n.nk ≤ 16384) (a2 : 0 ≤ (o * n.nk + i) * n.nk * T.c) (aw : (o * n.nk + i) * n.nk * T.c + n.nk * T.c ≤ n.w.length) (wl : n.w.length ≤ 16384) (h0 : 0 ≤ h * T.x) (fd : (h * T.x + T.x) * T.c ≤ T.d.length) (dl : T.d.length ≤ 1024) (w0 : -100 ≤ w) (w1 : w ≤ 10000) (k : Nat) (hk : k < n.nk.toNat) : VT Try.prog (behC 0 (fnC Try.f98 [1, 0])) (cvRow_j_I T n o i h w k) (.goto 0) (cvRow_j_I T n o i h w (k + 1)) := by
  have g0 : 0 ≤ (k : Int) * T.c := Int.mul_nonneg (by omega) (by omega)
  have g1 : ((k : Int) + 1) * T.c ≤ n.nk * T.c := Int.mul_le_mul_of_nonneg_right (by omega) (by omega)
  have g2 : ((k : Int) + 1) * T.c = (k : Int) * T.c + T.c := by rw [Int.add_mul, Int.one_mul]
  have g4 : (h * T.x + T.x) * 1 ≤ (h * T.x + T.x) * T.c := Int.mul_le_mul_of_nonneg_left (by omega) (by omega)
  have g3 : 0 ≤ w + (k : Int) → w + (k : Int) < T.x → 0 ≤ (h * T.x + (w + (k : Int))) * T.c ∧ (h * T.x + (w + (k : Int))) * T.c + T.c ≤ T.d.length := by
    intro x0 x1
    have := idx_bd (a := h * T.x + (w + (k : Int))) (m := h * T.x + T.x) (b := T.c - 1) (n := T.c) (by omega) (by omega) (by omega) (by omega)
    have := Int.mul_nonneg (show 0 ≤ h * T.x + (w + (k : Int)) by omega) (show 0 ≤ T.c by omega)
    omega
  have oz0 := (show ((↑k : Int) == n.nk) = false by (refine decide_eq_false ?_; omega))
  have oz1 := (IntWalk.i64_in (w + (↑k : Int)) (by omega))
  rcases Bool.eq_false_or_eq_true (decide (w + (↑k : Int) ≥ 0)) with hc0 | hc0
  · have gc0 := of_decide_eq_true hc0
    rcases Bool.eq_false_or_eq_true (decide (w + (↑k : Int) < T.x)) with hc1 | hc1
    · have gc1 := of_decide_eq_true hc1
      have oz10 := (IntWalk.i64_in ((h * T.x + (w + (↑k : Int))) * T.c) (by omega))
      have oz12 := @cvRow_c (T) (n) (h) (w) ((o * n.nk + i) * n.nk * T.c) ((↑k : Int)) ((h * T.x + (w + (↑k : Int))) * T.c) (rowAcc T n ((o * n.nk + i) * n.nk * T.c) h w k) ok okn c1 a2 g0 (by omega) wl (by omega) (by omega) dl
      have oz14 := (Weak.int (k := .i32) (show ((acc32 (rowAcc T n ((o * n.nk + i) * n.nk * T.c) h w k) (cterm T n ((o * n.nk + i) * n.nk * T.c + (↑k : Int) * T.c) ((h * T.x + (w + (↑k : Int))) * T.c)) T.c.toNat) : Int) = (rowAcc T n ((o * n.nk + i) * n.nk * T.c) h w (k + 1)) from (by (rw [rowAcc, if_pos ⟨by omega, by omega⟩]))))
      exact VT.run (W := [.r [] [], .br false, .r [] [.n (nO oz1)], .r [] [.br true, .br true, .br true, .br true, .br true], .br true, .r [] [.n (h * T.x), .n (h * T.x + (w + (↑k : Int))), .n (nO oz10)], .r [] [], .code [.any (rg [(15, 1), (35, 5), (41, 21)]), .weak 63 (i64 (↑0 : Int)), .sort] (Exit.exit 0) (zO oz12), .r [] [.n ((↑k : Int) + 1)]]) (G := [.any [16, 62, 63, 98, 99], .weak 12 (wO oz14), .weak 14 (i64 (↑(k + 1) : Int)), .sort]) (by kernel_rfl) (.c oz0 <| .c oz1 <| .c hc0 <| .c hc0 <| .c hc0 <| .c hc0 <| .c hc0 <| .c hc1 <| .c (IntWalk.i64_in (h * T.x) (by omega)) <| .c (IntWalk.i64_in (h * T.x + (w + (↑k : Int))) (by omega)) <| .c oz10 <| .c (Weak.int (k := .i64) (show ((0) : Int) = ((↑0 : Int)) from (by omega))) <| .c oz12 <| .c (IntWalk.i64_in ((↑k : Int) + 1) (by omega)) <| .c oz14 <| .c (Weak.int (k := .i64) (show (((↑k : Int) + 1) : Int) = ((↑(k + 1) : Int)) from (by omega))) <| .n)
    · have gc1 := of_decide_eq_false hc1
      have oz9 := (Weak.int (k := .i32) (show ((rowAcc T n ((o * n.nk + i) * n.nk * T.c) h w k) : Int) = (rowAcc T n ((o * n.nk + i) * n.nk * T.c) h w (k + 1)) from (by (rw [rowAcc, if_neg (by omega)]))))
      exact VT.run (W := [.r [] [], .br false, .r [] [.n (nO oz1)], .r [] [.br true, .br true, .br true, .br true, .br true], .br false, .r [] [.n ((↑k : Int) + 1)]]) (G := [.any (rg [(15, 1), (35, 5), (41, 11), (98, 2)]), .weak 12 (wO oz9), .weak 14 (i64 (↑(k + 1) : Int)), .sort]) (by kernel_rfl) (.c oz0 <| .c oz1 <| .c hc0 <| .c hc0 <| .c hc0 <| .c hc0 <| .c hc0 <| .c hc1 <| .c (IntWalk.i64_in ((↑k : Int) + 1) (by omega)) <| .c oz9 <| .c (Weak.int (k := .i64) (show (((↑k : Int) + 1) : Int) = ((↑(k + 1) : Int)) from (by omega))) <| .n)
  · have gc0 := of_decide_eq_false hc0
    have oz2 := (show decide (w + (↑k : Int) ≥ 0) = !true by (refine decide_eq_false ?_; omega))
    have oz9 := (Weak.int (k := .i32) (show ((rowAcc T n ((o * n.nk + i) * n.nk * T.c) h w k) : Int) = (rowAcc T n ((o * n.nk + i) * n.nk * T.c) h w (k + 1)) from (by (rw [rowAcc, if_neg (by omega)]))))
    exact VT.run (W := [.r [] [], .br false, .r [] [.n (nO oz1)], .r [] [.br false, .br false, .br false, .br false, .br false], .br false, .r [] [.n ((↑k : Int) + 1)]]) (G := [.any (rg [(15, 1), (35, 5), (41, 11), (98, 2)]), .weak 12 (wO oz9), .weak 14 (i64 (↑(k + 1) : Int)), .sort]) (by kernel_rfl) (.c oz0 <| .c oz1 <| .c oz2 <| .c oz2 <| .c oz2 <| .c oz2 <| .c hc0 <| .c (show false = false by with_reducible rfl) <| .c (IntWalk.i64_in ((↑k : Int) + 1) (by omega)) <| .c oz9 <| .c (Weak.int (k := .i64) (show (((↑k : Int) + 1) : Int) = ((↑(k + 1) : Int)) from (by omega))) <| .n)
set_option maxRecDepth 100000 in
set_option maxHeartbeats 2000000 in
theorem cvRow_j_e (T : Ten) (n : Nod) (o i h w : Int) (ok : T.Ok) (okn : n.Ok) (c1 : 1 ≤ T.c) (x0 : 1 ≤ T.x) (x1 : T.x ≤ 16) (k1 : 1 ≤ n.nk) (k5 : n.nk ≤ 5) (o0 : 0 ≤ o * n.nk) (o1 : o * n.nk ≤ 16384) (i0 : 0 ≤ i) (i1 : i ≤ 5) (a0 : 0 ≤ (o * n.nk + i) * n.nk) (a1 : (o * n.nk + i) * n.nk ≤ 16384) (a2 : 0 ≤ (o * n.nk + i) * n.nk * T.c) (aw : (o * n.nk + i) * n.nk * T.c + n.nk * T.c ≤ n.w.length) (wl : n.w.length ≤ 16384) (h0 : 0 ≤ h * T.x) (fd : (h * T.x + T.x) * T.c ≤ T.d.length) (dl : T.d.length ≤ 1024) (w0 : -100 ≤ w) (w1 : w ≤ 10000) : VT Try.prog (behC 0 (fnC Try.f98 [1, 0])) (cvRow_j_I T n o i h w (n.nk.toNat)) (.ret) (cvRow_j_Z T n o i h w) := by
  have g9 : 0 ≤ n.nk * T.c := Int.mul_nonneg (by omega) (by omega)
  exact VT.run (W := [.r [] [], .br true, .r [] []]) (G := [.any (rg [(3, 3), (11, 4), (35, 6)]), .drop [5, 11], .sort]) (by kernel_rfl) (.c (show ((↑n.nk.toNat : Int) == n.nk) = true by (refine decide_eq_true ?_; omega)) <| .n)
set_option maxRecDepth 100000 in
set_option maxHeartbeats 2000000 in
theorem cvRow_j (T : Ten) (n : Nod) (o i h w : Int) (ok : T.Ok) (okn : n.Ok) (c1 : 1 ≤ T.c) (x0 : 1 ≤ T.x) (x1 : T.x ≤ 16) (k1 : 1 ≤ n.nk) (k5 : n.nk ≤ 5) (o0 : 0 ≤ o * n.nk) (o1 : o * n.nk ≤ 16384) (i0 : 0 ≤ i) (i1 : i ≤ 5) (a0 : 0 ≤ (o * n.nk + i) * n.nk) (a1 : (o * n.nk + i) * n.nk ≤ 16384) (a2 : 0 ≤ (o * n.nk + i) * n.nk * T.c) (aw : (o * n.nk + i) * n.nk * T.c + n.nk * T.c ≤ n.w.length) (wl : n.w.length ≤ 16384) (h0 : 0 ≤ h * T.x) (fd : (h * T.x + T.x) * T.c ≤ T.d.length) (dl : T.d.length ≤ 1024) (w0 : -100 ≤ w) (w1 : w ≤ 10000) : VT Try.prog (fnC Try.f98 [1]) (cvRow_j_A T n o i h w) (.ret) (cvRow_j_Z T n o i h w) := by
  have g9 : 0 ≤ n.nk * T.c := Int.mul_nonneg (by omega) (by omega)
  exact VT.jumps2 (l := 0) (p := aheadC 0 (fnC Try.f98 [1, 0])) (r := behC 0 (fnC Try.f98 [1, 0])) (W := [.r [] [], .r [] [.n (o * n.nk), .n (o * n.nk + i), .n ((o * n.nk + i) * n.nk), .n ((o * n.nk + i) * n.nk * T.c)], .r [] []]) (G := [.any (rg [(1, 2), (18, 17)]), .weak 12 (i32 (rowAcc T n ((o * n.nk + i) * n.nk * T.c) h w 0)), .weak 14 (i64 (↑0 : Int)), .sort]) (fun k => cvRow_j_I T n o i h w k) (n.nk.toNat) (by kernel_rfl) (by kernel_rfl) (by kernel_rfl) (.c (IntWalk.i64_in (o * n.nk) (by omega)) <| .c (IntWalk.i64_in (o * n.nk + i) (by omega)) <| .c (IntWalk.i64_in ((o * n.nk + i) * n.nk) (by omega)) <| .c (IntWalk.i64_in ((o * n.nk + i) * n.nk * T.c) (by omega)) <| .c (Weak.int (k := .i32) (show ((0) : Int) = (rowAcc T n ((o * n.nk + i) * n.nk * T.c) h w 0) from (by rfl))) <| .c (Weak.int (k := .i64) (show ((0) : Int) = ((↑0 : Int)) from (by omega))) <| .n) (fun k hk => cvRow_j_s T n o i h w ok okn c1 x0 x1 k1 k5 o0 o1 i0 i1 a0 a1 a2 aw wl h0 fd dl w0 w1 k hk) (cvRow_j_e T n o i h w ok okn c1 x0 x1 k1 k5 o0 o1 i0 i1 a0 a1 a2 aw wl h0 fd dl w0 w1) (by intro l h; cases h)
end Go.Proofs.Ytcegfkmelcjdhaa

