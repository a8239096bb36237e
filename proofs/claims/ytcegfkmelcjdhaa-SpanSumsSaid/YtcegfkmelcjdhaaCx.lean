/- The sums of a window, by the program. No condition. -/
import Derived.Test.YtcegfkmelcjdhaaCw
namespace Go.Proofs.Ytcegfkmelcjdhaa
open Go.RowKit
set_option linter.unusedSimpArgs false
set_option linter.unusedVariables false
set_option linter.unnecessarySimpa false

/-- A tensor and a node that make sums. -/
structure CvOk (T : Ten) (n : Nod) : Prop where
  ok : T.Ok
  okn : n.Ok
  r : tenRight T = true
  e : (convE ⟨T.h, T.x, T.c⟩ n).2 = 0
theorem convE_ok {t : Shp} {n : Nod} (h : (convE t n).2 = 0) : (slideE t n.nk n.ns n.np n.no).2 = 0 ∧ (n.w.length : Int) = n.no * n.nk * n.nk * t.c ∧ n.w.length ≤ 16384 ∧ (n.b.length : Int) = n.no ∧ (convE t n).1 = (slideE t n.nk n.ns n.np n.no).1 := by
  unfold convE at h ⊢
  split at h
  · rename_i h1; exact absurd h h1
  · split at h
    · simp at h
    · rename_i h1 h2
      rw [if_neg h1, if_neg h2]
      exact ⟨by omega, by omega, by omega, by omega, rfl⟩
structure CvN (T : Ten) (n : Nod) : Prop where
  h1 : 1 ≤ T.h
  h16 : T.h ≤ 16
  x1 : 1 ≤ T.x
  x16 : T.x ≤ 16
  c1 : 1 ≤ T.c
  k1 : 1 ≤ n.nk
  k5 : n.nk ≤ 5
  s1 : 1 ≤ n.ns
  s4 : n.ns ≤ 4
  p0 : 0 ≤ n.np
  p4 : n.np ≤ 4
  o1 : 1 ≤ n.no
  o2 : n.no ≤ 1024
  wl : (n.w.length : Int) = n.no * n.nk * n.nk * T.c
  w2 : n.w.length ≤ 16384
  bl : (n.b.length : Int) = n.no
  dl : (T.d.length : Int) = T.h * T.x * T.c
  d2 : T.d.length ≤ 1024
  sh : (convE ⟨T.h, T.x, T.c⟩ n).1.h = (T.h + 2 * n.np - n.nk) / n.ns + 1
  sx : (convE ⟨T.h, T.x, T.c⟩ n).1.x = (T.x + 2 * n.np - n.nk) / n.ns + 1
  sc : (convE ⟨T.h, T.x, T.c⟩ n).1.c = n.no
  he : 1 ≤ (convE ⟨T.h, T.x, T.c⟩ n).1.h ∧ (convE ⟨T.h, T.x, T.c⟩ n).1.h ≤ 16
  xe : 1 ≤ (convE ⟨T.h, T.x, T.c⟩ n).1.x ∧ (convE ⟨T.h, T.x, T.c⟩ n).1.x ≤ 16
  el : (convE ⟨T.h, T.x, T.c⟩ n).1.h * (convE ⟨T.h, T.x, T.c⟩ n).1.x * n.no ≤ 1024
  en : elems (convE ⟨T.h, T.x, T.c⟩ n).1.h (convE ⟨T.h, T.x, T.c⟩ n).1.x (convE ⟨T.h, T.x, T.c⟩ n).1.c = (convE ⟨T.h, T.x, T.c⟩ n).1.h * (convE ⟨T.h, T.x, T.c⟩ n).1.x * n.no
theorem CvOk.n {T : Ten} {n : Nod} (h : CvOk T n) : CvN T n := by
  obtain ⟨ok, okn, r, e⟩ := h
  obtain ⟨e1, e2, e3, e4, e5⟩ := convE_ok e
  obtain ⟨a1, a2, a3, a4, a5, a6, a7, a8, a9, a10, a11, a12⟩ := slideE_ok e1
  have c := elems_ok a12
  unfold tenRight at r
  rw [Bool.and_eq_true, decide_eq_true_eq, decide_eq_true_eq] at r
  have b' := elems_ok r.1
  have e5' : (convE ⟨T.h, T.x, T.c⟩ n).1 = ⟨(T.h + 2 * n.np - n.nk) / n.ns + 1, (T.x + 2 * n.np - n.nk) / n.ns + 1, n.no⟩ := e5.trans a11
  have e2' : (n.w.length : Int) = n.no * n.nk * n.nk * T.c := e2
  clear e5 a11 e2 a9 a10
  have c' : 1 ≤ (T.h + 2 * n.np - n.nk) / n.ns + 1 ∧ (T.h + 2 * n.np - n.nk) / n.ns + 1 ≤ 16 ∧ 1 ≤ (T.x + 2 * n.np - n.nk) / n.ns + 1 ∧ (T.x + 2 * n.np - n.nk) / n.ns + 1 ≤ 16 ∧ 1 ≤ n.no ∧ n.no ≤ 1024 ∧ ((T.h + 2 * n.np - n.nk) / n.ns + 1) * ((T.x + 2 * n.np - n.nk) / n.ns + 1) * n.no ≤ 1024 ∧
    elems ((T.h + 2 * n.np - n.nk) / n.ns + 1) ((T.x + 2 * n.np - n.nk) / n.ns + 1) n.no = ((T.h + 2 * n.np - n.nk) / n.ns + 1) * ((T.x + 2 * n.np - n.nk) / n.ns + 1) * n.no := c
  clear c
  refine ⟨by omega, by omega, by omega, by omega, by omega, by omega, by omega, by omega, by omega, by omega, by omega, by omega, by omega, e2', e3, e4, by omega, by omega, by rw [e5'], by rw [e5'], by rw [e5'], ?_, ?_, ?_, ?_⟩ <;> rw [e5'] <;> simp only <;> omega
/-- The weights of a window's row. -/
theorem wat {T : Ten} {n : Nod} (h : CvN T n) {o i : Int} (o0 : 0 ≤ o) (o1 : o < n.no) (i0 : 0 ≤ i) (i1 : i < n.nk) :
    (0 ≤ o * n.nk ∧ o * n.nk ≤ 16384) ∧ (0 ≤ (o * n.nk + i) * n.nk ∧ (o * n.nk + i) * n.nk ≤ 16384) ∧ 0 ≤ (o * n.nk + i) * n.nk * T.c ∧ (o * n.nk + i) * n.nk * T.c + n.nk * T.c ≤ n.w.length := by
  obtain ⟨h1, h16, x1, x16, c1, k1, k5, s1, s4, p0, p4, n1, n2, wl, w2, bl, dl, d2, sh, sx, sc, he, xe, el, en⟩ := h
  have a := idx_bd (a := o) (m := n.no) (b := i) (n := n.nk) o0 o1 i0 i1
  have a0 : 0 ≤ o * n.nk := Int.mul_nonneg o0 (by omega)
  have b := idx_bd (a := o * n.nk + i) (m := n.no * n.nk) (b := n.nk - 1) (n := n.nk) (by omega) (by omega) (by omega) (by omega)
  have b0 : 0 ≤ (o * n.nk + i) * n.nk := Int.mul_nonneg (by omega) (by omega)
  have c : ((o * n.nk + i) * n.nk + n.nk) * T.c ≤ n.no * n.nk * n.nk * T.c := Int.mul_le_mul_of_nonneg_right (by omega) (by omega)
  have c0 : 0 ≤ (o * n.nk + i) * n.nk * T.c := Int.mul_nonneg b0 (by omega)
  have d := mul_bd (a := n.no) (A := 1024) (b := n.nk) (B := 5) (by omega) (by omega) (by omega) (by omega)
  have e : n.no * n.nk * n.nk * 1 ≤ n.no * n.nk * n.nk * T.c := Int.mul_le_mul_of_nonneg_left (by omega) (Int.mul_nonneg (by omega) (by omega))
  have g : n.no * n.nk * 1 ≤ n.no * n.nk * n.nk := Int.mul_le_mul_of_nonneg_left (by omega) (by omega)
  rw [Int.add_mul] at c
  omega
theorem dat {T : Ten} {n : Nod} (h : CvN T n) {y : Int} (y0 : 0 ≤ y) (y1 : y < T.h) : 0 ≤ y * T.x ∧ (y * T.x + T.x) * T.c ≤ T.d.length := by
  obtain ⟨h1, h16, x1, x16, c1, k1, k5, s1, s4, p0, p4, n1, n2, wl, w2, bl, dl, d2, sh, sx, sc, he, xe, el, en⟩ := h
  have a := idx_bd (a := y) (m := T.h) (b := T.x - 1) (n := T.x) y0 y1 (by omega) (by omega)
  have a0 : 0 ≤ y * T.x := Int.mul_nonneg y0 (by omega)
  have c : (y * T.x + T.x) * T.c ≤ T.h * T.x * T.c := Int.mul_le_mul_of_nonneg_right (by omega) (by omega)
  omega
set_option maxRecDepth 100000 in
set_option maxHeartbeats 2000000 in
theorem cvRow_v (T : Ten) (n : Nod) (o i h w : Int) (ok : CvOk T n) (o0 : 0 ≤ o) (o1 : o < n.no) (i0 : 0 ≤ i) (i1 : i < n.nk) (h0 : 0 ≤ h) (h1 : h < T.h) (w0 : -100 ≤ w) (w1 : w ≤ 10000) : VC Try.prog 98 ([win T n, i64 o, i64 i, i64 h, i64 w]) (i32 (rowAcc T n ((o * n.nk + i) * n.nk * T.c) h w n.nk.toNat)) := by
  have nn := ok.n
  have g1 := wat nn o0 o1 i0 i1
  have g2 := dat nn h0 h1
  have g3 := nn.x1
  have g4 := nn.x16
  have g5 := nn.c1
  have g6 := nn.k1
  have g7 := nn.k5
  have g8 := nn.w2
  have g9 := nn.d2
  have g10 := ok.ok
  have g11 := ok.okn
  have oz0 := @cvRow_j (T) (n) (o) (i) (h) (w) g10 g11 g5 g3 g4 g6 g7 (by omega) (by omega) i0 (by omega) (by omega) (by omega) (by omega) (by omega) g8 (by omega) (by omega) g9 w0 w1
  exact VC.run (fn := Try.f98) (W := [.r [] [], .code [.any [0, 10], .sort] (Exit.ret) (zO oz0)]) Try.func98 (by kernel_rfl) (.c oz0 <| .n)
/-- What a window makes. -/
def sumAcc (T : Ten) (n : Nod) (h w o : Int) : Nat → Int
  | 0 => gt n.b o
  | i + 1 => if 0 ≤ h * n.ns + (i : Int) - n.np ∧ h * n.ns + (i : Int) - n.np < T.h then IntKind.i32.wrap (sumAcc T n h w o i + rowAcc T n ((o * n.nk + (i : Int)) * n.nk * T.c) (h * n.ns + (i : Int) - n.np) (w * n.ns - n.np) n.nk.toNat) else sumAcc T n h w o i
noncomputable def cvSum_l_I (T : Ten) (n : Nod) (h w o : Int) (k : Nat) : VS := stt 63 [(1, i64 h), (2, i64 w), (3, i64 o), (4, .ptr 4 0 0), (9, i32 (sumAcc T n h w o k)), (20, i64 n.nk), (21, i64 k)] [(4, .var ([i64 T.h, i64 T.x, i64 T.c, ints .i8 T.d] ++ nodC n))]
noncomputable def cvSum_l_Z (T : Ten) (n : Nod) (h w o : Int) : VS := cvSum_l_I T n h w o (n.nk.toNat)
set_option maxRecDepth 100000 in
set_option maxHeartbeats 2000000 in
theorem cvSum_l_s (T : Ten) (n : Nod) (h w o : Int) (ok : CvOk T n) (o0 : 0 ≤ o) (o1 : o < n.no) (h0 : 0 ≤ h) (h1 : h ≤ 1000) (w0 : 0 ≤ w) (w1 : w ≤ 1000) (k : Nat) (hk : k < n.nk.toNat) : VT Try.prog (fnC Try.f66 [1, 1, 0, 1, 0, 0]) (cvSum_l_I T n h w o k) .normal (cvSum_l_I T n h w o (k + 1)) := by
  have nn := ok.n
  have g6 := nn.k1
  have g7 := nn.k5
  have g8 := nn.s1
  have g9 := nn.s4
  have g10 := nn.p0
  have g11 := nn.p4
  have g12 := nn.h16
  have g13 := mul_bd (A := 1000) (B := 4) h0 h1 (show 0 ≤ n.ns by omega) g9
  have g14 := mul_bd (A := 1000) (B := 4) w0 w1 (show 0 ≤ n.ns by omega) g9
  have oz0 := (decide_eq_true (p := ((↑k : Int) < n.nk)) (by omega))
  have oz1 := (IntWalk.i64_in (h * n.ns) (by omega))
  have oz2 := (IntWalk.i64_in (h * n.ns + (↑k : Int)) (by omega))
  have oz3 := (IntWalk.i64_in (h * n.ns + (↑k : Int) - n.np) (by omega))
  rcases Bool.eq_false_or_eq_true (decide (h * n.ns + (↑k : Int) - n.np ≥ 0)) with hc0 | hc0
  · have gc0 := of_decide_eq_true hc0
    rcases Bool.eq_false_or_eq_true (decide (h * n.ns + (↑k : Int) - n.np < T.h)) with hc1 | hc1
    · have gc1 := of_decide_eq_true hc1
      have oz14 := @cvRow_v (T) (n) (o) ((↑k : Int)) (h * n.ns + (↑k : Int) - n.np) (w * n.ns - n.np) ok o0 o1 (by omega) (by omega) (by with_reducible assumption) gc1 (by omega) (by omega)
      have oz16 := (Weak.int (k := .i32) (show ((IntKind.i32.wrap (sumAcc T n h w o k + rowAcc T n ((o * n.nk + (↑k : Int)) * n.nk * T.c) (h * n.ns + (↑k : Int) - n.np) (w * n.ns - n.np) n.nk.toNat)) : Int) = (sumAcc T n h w o (k + 1)) from (by (rw [sumAcc, if_pos ⟨by omega, by omega⟩]))))
      exact VT.run (W := [.r [] [], .br true, .r [] [], .r [] [.n (nO oz1), .n (nO oz2), .n (nO oz3)], .r [] [.br true, .br true, .br true, .br true, .br true, .br true, .br true], .br true, .r [] [.n (w * n.ns), .n (w * n.ns - n.np), .callr (rO oz14), .w], .r [] [.n ((↑k : Int) + 1)]]) (G := [.any (rg [(10, 2), (22, 40)]), .weak 9 (wO oz16), .weak 21 (i64 (↑(k + 1) : Int)), .sort]) (by kernel_rfl) (.c oz0 <| .c oz1 <| .c oz2 <| .c oz3 <| .c hc0 <| .c hc0 <| .c hc0 <| .c hc0 <| .c hc0 <| .c hc0 <| .c hc0 <| .c hc1 <| .c (IntWalk.i64_in (w * n.ns) (by omega)) <| .c (IntWalk.i64_in (w * n.ns - n.np) (by omega)) <| .c oz14 <| .c (IntWalk.i64_in ((↑k : Int) + 1) (by omega)) <| .c oz16 <| .c (Weak.int (k := .i64) (show (((↑k : Int) + 1) : Int) = ((↑(k + 1) : Int)) from (by omega))) <| .n)
    · have gc1 := of_decide_eq_false hc1
      exact VT.run (W := [.r [] [], .br true, .r [] [], .r [] [.n (nO oz1), .n (nO oz2), .n (nO oz3)], .r [] [.br true, .br true, .br true, .br true, .br true, .br true, .br true], .br false, .r [] [.n ((↑k : Int) + 1)]]) (G := [.any (rg [(10, 2), (22, 23), (61, 1)]), .weak 9 (i32 (sumAcc T n h w o (k + 1))), .weak 21 (i64 (↑(k + 1) : Int)), .sort]) (by kernel_rfl) (.c oz0 <| .c oz1 <| .c oz2 <| .c oz3 <| .c hc0 <| .c hc0 <| .c hc0 <| .c hc0 <| .c hc0 <| .c hc0 <| .c hc0 <| .c hc1 <| .c (IntWalk.i64_in ((↑k : Int) + 1) (by omega)) <| .c (Weak.int (k := .i32) (show ((sumAcc T n h w o k) : Int) = (sumAcc T n h w o (k + 1)) from (by (rw [sumAcc, if_neg (by omega)])))) <| .c (Weak.int (k := .i64) (show (((↑k : Int) + 1) : Int) = ((↑(k + 1) : Int)) from (by omega))) <| .n)
  · have gc0 := of_decide_eq_false hc0
    have oz4 := (show decide (h * n.ns + (↑k : Int) - n.np ≥ 0) = !true by (refine decide_eq_false ?_; omega))
    exact VT.run (W := [.r [] [], .br true, .r [] [], .r [] [.n (nO oz1), .n (nO oz2), .n (nO oz3)], .r [] [.br false, .br false, .br false, .br false, .br false, .br false, .br false], .br false, .r [] [.n ((↑k : Int) + 1)]]) (G := [.any (rg [(10, 2), (22, 23), (61, 1)]), .weak 9 (i32 (sumAcc T n h w o (k + 1))), .weak 21 (i64 (↑(k + 1) : Int)), .sort]) (by kernel_rfl) (.c oz0 <| .c oz1 <| .c oz2 <| .c oz3 <| .c oz4 <| .c oz4 <| .c oz4 <| .c oz4 <| .c oz4 <| .c oz4 <| .c hc0 <| .c (show false = false by with_reducible rfl) <| .c (IntWalk.i64_in ((↑k : Int) + 1) (by omega)) <| .c (Weak.int (k := .i32) (show ((sumAcc T n h w o k) : Int) = (sumAcc T n h w o (k + 1)) from (by (rw [sumAcc, if_neg (by omega)])))) <| .c (Weak.int (k := .i64) (show (((↑k : Int) + 1) : Int) = ((↑(k + 1) : Int)) from (by omega))) <| .n)
set_option maxRecDepth 100000 in
set_option maxHeartbeats 2000000 in
theorem cvSum_l_e (T : Ten) (n : Nod) (h w o : Int) (ok : CvOk T n) (o0 : 0 ≤ o) (o1 : o < n.no) (h0 : 0 ≤ h) (h1 : h ≤ 1000) (w0 : 0 ≤ w) (w1 : w ≤ 1000) : VT Try.prog (fnC Try.f66 [1, 1, 0, 1, 0, 0]) (cvSum_l_I T n h w o (n.nk.toNat)) (.exit 0) (cvSum_l_Z T n h w o) := by
  exact VT.run (W := [.r [] [], .br false]) (G := [.any [22], .sort]) (by kernel_rfl) (.c (decide_eq_false (p := ((↑n.nk.toNat : Int) < n.nk)) (by omega)) <| .n)
theorem cvSum_l (T : Ten) (n : Nod) (h w o : Int) (ok : CvOk T n) (o0 : 0 ≤ o) (o1 : o < n.no) (h0 : 0 ≤ h) (h1 : h ≤ 1000) (w0 : 0 ≤ w) (w1 : w ≤ 1000) : VT Try.prog (fnC Try.f66 [1, 1, 0, 1, 0]) (cvSum_l_I T n h w o 0) (.exit 0) (cvSum_l_Z T n h w o) :=
  VT.loop (fun k => cvSum_l_I T n h w o k) (n.nk.toNat) (fun k hk => cvSum_l_s T n h w o ok o0 o1 h0 h1 w0 w1 k hk) (cvSum_l_e T n h w o ok o0 o1 h0 h1 w0 w1) (by intro h; cases h)

set_option maxRecDepth 100000 in
set_option maxHeartbeats 2000000 in
theorem cvSum_v (T : Ten) (n : Nod) (h w o : Int) (ok : CvOk T n) (o0 : 0 ≤ o) (o1 : o < n.no) (h0 : 0 ≤ h) (h1 : h ≤ 1000) (w0 : 0 ≤ w) (w1 : w ≤ 1000) : VC Try.prog 66 ([win T n, i64 h, i64 w, i64 o]) (i32 (sumAcc T n h w o n.nk.toNat)) := by
  have g1 := ok.n.bl
  have oz4 := @cvSum_l (T) (n) (h) (w) (o) ok o0 o1 h0 h1 w0 w1
  exact VC.run (fn := Try.f66) (W := [.r [] [], .r [] [.row [i32 (n.b.getD o.toNat 0)]], .r [] [], .code [.any (rg [(0, 1), (8, 1), (12, 8)]), .weak 9 (i32 (sumAcc T n h w o 0)), .weak 21 (i64 (↑0 : Int)), .sort] (Exit.exit 0) (zO oz4), .r [] []]) Try.func66 (by kernel_rfl) (.c o0 <| .c (map_at (row1 IntKind.i32) (0) (l := n.b) (i := o.toNat) (by omega)) <| .c (Weak.int (k := .i32) (show ((n.b.getD o.toNat 0) : Int) = (sumAcc T n h w o 0) from (by rfl))) <| .c (Weak.int (k := .i64) (show ((0) : Int) = ((↑0 : Int)) from (by omega))) <| .c oz4 <| .n)
end Go.Proofs.Ytcegfkmelcjdhaa

