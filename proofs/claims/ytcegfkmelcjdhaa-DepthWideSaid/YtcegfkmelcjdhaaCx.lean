/- The sums of a window, by the program. No condition. -/
import Derived.Test.YtcegfkmelcjdhaaCw
namespace Go.Proofs.Ytcegfkmelcjdhaa
open Go.RowKit
set_option linter.unusedSimpArgs false
set_option linter.unusedVariables false
set_option linter.unnecessarySimpa false

/-- A tensor and a node that make sums. -/
structure CvOk (T : Ten) (n : Nod) : Prop where
  ok : T.Ok
  okn : n.Ok
  r : tenRight T = true
  e : (convE ⟨T.h, T.x, T.c⟩ n).2 = 0
theorem convE_ok {t : Shp} {n : Nod} (h : (convE t n).2 = 0) : (slideE t n.nk n.ns n.np n.no).2 = 0 ∧ (n.w.length : Int) = n.no * n.nk * n.nk * t.c ∧ n.w.length ≤ 16384 ∧ (n.b.length : Int) = n.no ∧ (convE t n).1 = (slideE t n.nk n.ns n.np n.no).1 := by
  unfold convE at h ⊢
  split at h
  · rename_i h1; exact absurd h h1
  · split at h
    · simp at h
    · rename_i h1 h2
      rw [if_neg h1, if_neg h2]
      exact ⟨by omega, by omega, by omega, by omega, rfl⟩
structure CvN (T : Ten) (n : Nod) : Prop where
  h1 : 1 ≤ T.h
  h16 : T.h ≤ 16
  x1 : 1 ≤ T.x
  x16 : T.x ≤ 16
  c1 : 1 ≤ T.c
  k1 : 1 ≤ n.nk
  k5 : n.nk ≤ 5
  s1 : 1 ≤ n.ns
  s4 : n.ns ≤ 4
  p0 : 0 ≤ n.np
  p4 : n.np ≤ 4
  o1 : 1 ≤ n.no
  o2 : n.no ≤ 1024
  wl : (n.w.length : Int) = n.no * n.nk * n.nk * T.c
  w2 : n.w.length ≤ 16384
  bl : (n.b.length : Int) = n.no
  dl : (T.d.length : Int) = T.h * T.x * T.c
  d2 : T.d.length ≤ 1024
  sh : (convE ⟨T.h, T.x, T.c⟩ n).1.h = (T.h + 2 * n.np - n.nk) / n.ns + 1
  sx : (convE ⟨T.h, T.x, T.c⟩ n).1.x = (T.x + 2 * n.np - n.nk) / n.ns + 1
  sc : (convE ⟨T.h, T.x, T.c⟩ n).1.c = n.no
  he : 1 ≤ (convE ⟨T.h, T.x, T.c⟩ n).1.h ∧ (convE ⟨T.h, T.x, T.c⟩ n).1.h ≤ 16
  xe : 1 ≤ (convE ⟨T.h, T.x, T.c⟩ n).1.x ∧ (convE ⟨T.h, T.x, T.c⟩ n).1.x ≤ 16
  el : (convE ⟨T.h, T.x, T.c⟩ n).1.h * (convE ⟨T.h, T.x, T.c⟩ n).1.x * n.no ≤ 1024
  en : elems (convE ⟨T.h, T.x, T.c⟩ n).1.h (convE ⟨T.h, T.x, T.c⟩ n).1.x (convE ⟨T.h, T.x, T.c⟩ n).1.c = (convE ⟨T.h, T.x, T.c⟩ n).1.h * (convE ⟨T.h, T.x, T.c⟩ n).1.x * n.no
theorem CvOk.n {T : Ten} {n : Nod} (h : CvOk T n) : CvN T n := by
  obtain ⟨ok, okn, r, e⟩ := h
  obtain ⟨e1, e2, e3, e4, e5⟩ := convE_ok e
  obtain ⟨a1, a2, a3, a4, a5, a6, a7, a8, a9, a10, a11, a12⟩ := slideE_ok e1
  have c := elems_ok a12
  unfold tenRight at r
  rw [Bool.and_eq_true, decide_eq_true_eq, decide_eq_true_eq] at r
  have b' := elems_ok r.1
  have e5' : (convE ⟨T.h, T.x, T.c⟩ n).1 = ⟨(T.h + 2 * n.np - n.nk) / n.ns + 1, (T.x + 2 * n.np - n.nk) / n.ns + 1, n.no⟩ := e5.trans a11
  have e2' : (n.w.length : Int) = n.no * n.nk * n.nk * T.c := e2
  clear e5 a11 e2 a9 a10
  have c' : 1 ≤ (T.h + 2 * n.np - n.nk) / n.ns + 1 ∧ (T.h + 2 * n.np - n.nk) / n.ns + 1 ≤ 16 ∧ 1 ≤ (T.x + 2 * n.np - n.nk) / n.ns + 1 ∧ (T.x + 2 * n.np - n.nk) / n.ns + 1 ≤ 16 ∧ 1 ≤ n.no ∧ n.no ≤ 1024 ∧ ((T.h + 2 * n.np - n.nk) / n.ns + 1) * ((T.x + 2 * n.np - n.nk) / n.ns + 1) * n.no ≤ 1024 ∧
    elems ((T.h + 2 * n.np - n.nk) / n.ns + 1) ((T.x + 2 * n.np - n.nk) / n.ns + 1) n.no = ((T.h + 2 * n.np - n.nk) / n.ns + 1) * ((T.x + 2 * n.np - n.nk) / n.ns + 1) * n.no := c
  clear c
  refine ⟨by omega, by omega, by omega, by omega, by omega, by omega, by omega, by omega, by omega, by omega, by omega, by omega, by omega, e2', e3, e4, by omega, by omega, by rw [e5'], by rw [e5'], by rw [e5'], ?_, ?_, ?_, ?_⟩ <;> rw [e5'] <;> simp only <;> omega
/-- The weights of a window's row. -/
theorem wat {T : Ten} {n : Nod} (h : CvN T n) {o i : Int} (o0 : 0 ≤ o) (o1 : o < n.no) (i0 : 0 ≤ i) (i1 : i < n.nk) :
    (0 ≤ o * n.nk ∧ o * n.nk ≤ 16384) ∧ (0 ≤ (o * n.nk + i) * n.nk ∧ (o * n.nk + i) * n.nk ≤ 16384) ∧ 0 ≤ (o * n.nk + i) * n.nk * T.c ∧ (o * n.nk + i) * n.nk * T.c + n.nk * T.c ≤ n.w.length := by
  obtain ⟨h1, h16, x1, x16, c1, k1, k5, s1, s4, p0, p4, n1, n2, wl, w2, bl, dl, d2, sh, sx, sc, he, xe, el, en⟩ := h
  have a := idx_bd (a := o) (m := n.no) (b := i) (n := n.nk) o0 o1 i0 i1
  have a0 : 0 ≤ o * n.nk := Int.mul_nonneg o0 (by omega)
  have b := idx_bd (a := o * n.nk + i) (m := n.no * n.nk) (b := n.nk - 1) (n := n.nk) (by omega) (by omega) (by omega) (by omega)
  have b0 : 0 ≤ (o * n.nk + i) * n.nk := Int.mul_nonneg (by omega) (by omega)
  have c : ((o * n.nk + i) * n.nk + n.nk) * T.c ≤ n.no * n.nk * n.nk * T.c := Int.mul_le_mul_of_nonneg_right (by omega) (by omega)
  have c0 : 0 ≤ (o * n.nk + i) * n.nk * T.c := Int.mul_nonneg b0 (by omega)
  have d := mul_bd (a := n.no) (A := 1024) (b := n.nk) (B := 5) (by omega) (by omega) (by omega) (by omega)
  have e : n.no * n.nk * n.nk * 1 ≤ n.no * n.nk * n.nk * T.c := Int.mul_le_mul_of_nonneg_left (by omega) (Int.mul_nonneg (by omega) (by omega))
  have g : n.no * n.nk * 1 ≤ n.no * n.nk * n.nk := Int.mul_le_mul_of_nonneg_left (by omega) (by omega)
  rw [Int.add_mul] at c
  omega
theorem dat {T : Ten} {n : Nod} (h : CvN T n) {y : Int} (y0 : 0 ≤ y) (y1 : y < T.h) : 0 ≤ y * T.x ∧ (y * T.x + T.x) * T.c ≤ T.d.length := by
  obtain ⟨h1, h16, x1, x16, c1, k1, k5, s1, s4, p0, p4, n1, n2, wl, w2, bl, dl, d2, sh, sx, sc, he, xe, el, en⟩ := h
  have a := idx_bd (a := y) (m := T.h) (b := T.x - 1) (n := T.x) y0 y1 (by omega) (by omega)
  have a0 : 0 ≤ y * T.x := Int.mul_nonneg y0 (by omega)
  have c : (y * T.x + T.x) * T.c ≤ T.h * T.x * T.c := Int.mul_le_mul_of_nonneg_right (by omega) (by omega)
  omega
set_option maxRecDepth 100000 in
set_option maxHeartbeats 2000000 in
theorem cvRow_v (T : Ten) (n : Nod) (o i h w : Int) (ok : CvOk T n) (o0 : 0 ≤ o) (o1 : o < n.no) (i0 : 0 ≤ i) (i1 : i < n.nk) (h0 : 0 ≤ h) (h1 : h < T.h) (w0 : -100 ≤ w) (w1 : w ≤ 10000) : VC Try.prog 98 ([win T n, i64 o, i64 i, i64 h, i64 w]) (i32 (rowAcc T n ((o * n.nk + i) * n.nk * T.c) h w n.nk.toNat)) := by
  have nn := ok.n
  have g1 := wat nn o0 o1 i0 i1
  have g2 := dat nn h0 h1
  have g3 := nn.x1
  have g4 := nn.x16
  have g5 := nn.c1
  have g6 := nn.k1
  have g7 := nn.k5
  have g8 := nn.w2
  have g9 := nn.d2
  have g10 := ok.ok
  have g11 := ok.okn
  have hz : VC Try.prog 98 ([win T n, i64 o, i64 i, i64 h, i64 w]) (AV.lit (Value.int IntKind.i32 (rowAcc T n ((o * n.nk + i) * n.nk * T.c) h w n.nk.toNat))) := by
    refine VC.run (fn := Try.f98) Try.func98 (W := [.r [] [], .code [GI.any [0, 10],
  GI.sort] (Exit.ret) (VS.mk
  [AV.any, AV.any, AV.any, AV.any, AV.any, AV.any, AV.any, AV.any, AV.any, AV.any,
    AV.lit (Value.int IntKind.i32 (rowAcc T n ((o * n.nk + i) * n.nk * T.c) h w n.nk.toNat)), AV.any, AV.any, AV.any,
    AV.any, AV.any, AV.any, AV.any, AV.any, AV.any, AV.any, AV.any, AV.any, AV.any, AV.any, AV.any, AV.any, AV.any,
    AV.any, AV.any, AV.any, AV.any, AV.any, AV.any, AV.any, AV.any, AV.any, AV.any, AV.any, AV.any, AV.any, AV.any,
    AV.any, AV.any, AV.any, AV.any, AV.any, AV.any, AV.any, AV.any, AV.any, AV.any, AV.any, AV.any, AV.any, AV.any,
    AV.any, AV.any, AV.any, AV.any, AV.any, AV.any, AV.any, AV.any, AV.any, AV.any, AV.any, AV.any, AV.any, AV.any,
    AV.any, AV.any, AV.any, AV.any, AV.any, AV.any, AV.any, AV.any, AV.any, AV.any, AV.any, AV.any, AV.any, AV.any,
    AV.any, AV.any, AV.any, AV.any, AV.any, AV.any, AV.any, AV.any, AV.any, AV.any, AV.any, AV.any, AV.any, AV.any,
    AV.any, AV.any]
  [])])
      (ob := [VT Try.prog (fnC Try.f98 [1])
  (VS.mk
        [AV.any, AV.lit (Value.int IntKind.i64 o), AV.lit (Value.int IntKind.i64 i), AV.lit (Value.int IntKind.i64 h),
          AV.lit (Value.int IntKind.i64 w), AV.ptr 5 0 0, AV.any, AV.any, AV.any, AV.any, AV.any, AV.any, AV.any, AV.any,
          AV.any, AV.any, AV.any, AV.any, AV.any, AV.any, AV.any, AV.any, AV.any, AV.any, AV.any, AV.any, AV.any, AV.any,
          AV.any, AV.any, AV.any, AV.any, AV.any, AV.any, AV.any, AV.any, AV.any, AV.any, AV.any, AV.any, AV.any, AV.any,
          AV.any, AV.any, AV.any, AV.any, AV.any, AV.any, AV.any, AV.any, AV.any, AV.any, AV.any, AV.any, AV.any, AV.any,
          AV.any, AV.any, AV.any, AV.any, AV.any, AV.any, AV.any, AV.any, AV.any, AV.any, AV.any, AV.any, AV.any, AV.any,
          AV.any, AV.any, AV.any, AV.any, AV.any, AV.any, AV.any, AV.any, AV.any, AV.any, AV.any, AV.any, AV.any, AV.any,
          AV.any, AV.any, AV.any, AV.any, AV.any, AV.any, AV.any, AV.any, AV.any, AV.any, AV.any, AV.any, AV.any, AV.any,
          AV.any, AV.any]
        [(5,
            Blk.var
              [AV.lit (Value.int IntKind.i64 T.h), AV.lit (Value.int IntKind.i64 T.x), AV.lit (Value.int IntKind.i64 T.c),
                AV.sl 1 (List.map (row1 IntKind.i8) T.d), AV.lit (Value.int IntKind.i64 n.kd),
                AV.lit (Value.int IntKind.i64 n.na), AV.lit (Value.int IntKind.i64 n.nb),
                AV.lit (Value.int IntKind.i64 n.nk), AV.lit (Value.int IntKind.i64 n.ns),
                AV.lit (Value.int IntKind.i64 n.np), AV.lit (Value.int IntKind.i64 n.no),
                AV.lit (Value.int IntKind.i8 n.za), AV.lit (Value.int IntKind.i8 n.zb),
                AV.sl 1 (List.map (row1 IntKind.i8) n.w), AV.sl 1 (List.map (row1 IntKind.i32) n.b),
                AV.lit (Value.int IntKind.i32 n.qm), AV.lit (Value.int IntKind.i64 n.qs),
                AV.lit (Value.int IntKind.i8 n.qz), AV.lit (Value.int IntKind.i32 n.rm),
                AV.lit (Value.int IntKind.i64 n.rs), AV.lit (Value.int IntKind.i8 n.rz), AV.lit (Value.int IntKind.i8 n.lo),
                AV.lit (Value.int IntKind.i8 n.hi)])])
  Exit.ret
  (VS.mk
        [AV.any, AV.any, AV.any, AV.any, AV.any, AV.any, AV.any, AV.any, AV.any, AV.any,
          AV.lit (Value.int IntKind.i32 (rowAcc T n ((o * n.nk + i) * n.nk * T.c) h w n.nk.toNat)), AV.any, AV.any, AV.any,
          AV.any, AV.any, AV.any, AV.any, AV.any, AV.any, AV.any, AV.any, AV.any, AV.any, AV.any, AV.any, AV.any, AV.any,
          AV.any, AV.any, AV.any, AV.any, AV.any, AV.any, AV.any, AV.any, AV.any, AV.any, AV.any, AV.any, AV.any, AV.any,
          AV.any, AV.any, AV.any, AV.any, AV.any, AV.any, AV.any, AV.any, AV.any, AV.any, AV.any, AV.any, AV.any, AV.any,
          AV.any, AV.any, AV.any, AV.any, AV.any, AV.any, AV.any, AV.any, AV.any, AV.any, AV.any, AV.any, AV.any, AV.any,
          AV.any, AV.any, AV.any, AV.any, AV.any, AV.any, AV.any, AV.any, AV.any, AV.any, AV.any, AV.any, AV.any, AV.any,
          AV.any, AV.any, AV.any, AV.any, AV.any, AV.any, AV.any, AV.any, AV.any, AV.any, AV.any, AV.any, AV.any, AV.any,
          AV.any, AV.any]
        [])]) (by kernel_rfl) ?_
    exact ⟨(@cvRow_j (T) (n) (o) (i) (h) (w) (by with_reducible assumption) (by with_reducible assumption) (by with_reducible assumption) (by with_reducible assumption) (by with_reducible assumption) (by with_reducible assumption) (by with_reducible assumption) (by omega) (by omega) (by with_reducible assumption) (by omega) (by omega) (by omega) (by omega) (by omega) (by with_reducible assumption) (by omega) (by omega) (by with_reducible assumption) (by with_reducible assumption) (by with_reducible assumption)),
            trivial⟩
  exact hz
/-- What a window makes. -/
def sumAcc (T : Ten) (n : Nod) (h w o : Int) : Nat → Int
  | 0 => gt n.b o
  | i + 1 => if 0 ≤ h * n.ns + (i : Int) - n.np ∧ h * n.ns + (i : Int) - n.np < T.h then IntKind.i32.wrap (sumAcc T n h w o i + rowAcc T n ((o * n.nk + (i : Int)) * n.nk * T.c) (h * n.ns + (i : Int) - n.np) (w * n.ns - n.np) n.nk.toNat) else sumAcc T n h w o i
noncomputable def cvSum_l_I (T : Ten) (n : Nod) (h w o : Int) (k : Nat) : VS := stt 63 [(1, i64 h), (2, i64 w), (3, i64 o), (4, .ptr 4 0 0), (9, i32 (sumAcc T n h w o k)), (20, i64 n.nk), (21, i64 k)] [(4, .var ([i64 T.h, i64 T.x, i64 T.c, ints .i8 T.d] ++ nodC n))]
noncomputable def cvSum_l_Z (T : Ten) (n : Nod) (h w o : Int) : VS := cvSum_l_I T n h w o (n.nk.toNat)
set_option maxRecDepth 100000 in
set_option maxHeartbeats 2000000 in
theorem cvSum_l_s (T : Ten) (n : Nod) (h w o : Int) (ok : CvOk T n) (o0 : 0 ≤ o) (o1 : o < n.no) (h0 : 0 ≤ h) (h1 : h ≤ 1000) (w0 : 0 ≤ w) (w1 : w ≤ 1000) (k : Nat) (hk : k < n.nk.toNat) : VT Try.prog (fnC Try.f66 [1, 1, 0, 1, 0, 0]) (cvSum_l_I T n h w o k) .normal (cvSum_l_I T n h w o (k + 1)) := by
  have nn := ok.n
  have g6 := nn.k1
  have g7 := nn.k5
  have g8 := nn.s1
  have g9 := nn.s4
  have g10 := nn.p0
  have g11 := nn.p4
  have g12 := nn.h16
  have g13 := mul_bd (A := 1000) (B := 4) h0 h1 (show 0 ≤ n.ns by omega) g9
  have g14 := mul_bd (A := 1000) (B := 4) w0 w1 (show 0 ≤ n.ns by omega) g9
  rcases Bool.eq_false_or_eq_true (decide (h * n.ns + (↑k : Int) - n.np ≥ 0)) with hc0 | hc0
  · have gc0 : h * n.ns + (↑k : Int) - n.np ≥ 0 := of_decide_eq_true hc0
    rcases Bool.eq_false_or_eq_true (decide (h * n.ns + (↑k : Int) - n.np < T.h)) with hc1 | hc1
    · have gc1 : h * n.ns + (↑k : Int) - n.np < T.h := of_decide_eq_true hc1
      refine VT.run (W := [.r [] [], .br true, .r [] [], .r [] [PI.n (h * n.ns),
 PI.n (h * n.ns + (↑k : Int)),
 PI.n
   (h * n.ns + (↑k : Int) -
     n.np)], .r [] [PI.br true,
 PI.br true,
 PI.br true,
 PI.br true,
 PI.br true,
 PI.br true,
 PI.br
   true], .br true, .r [] [PI.n (w * n.ns),
 PI.n (w * n.ns - n.np),
 PI.callr
   (i32
     (rowAcc T n ((o * n.nk + (↑k : Int)) * n.nk * T.c) (h * n.ns + (↑k : Int) - n.np) (w * n.ns - n.np) n.nk.toNat)),
 PI.w], .r [] [PI.n ((↑k : Int) + 1)]]) (G := [GI.any
    [10, 11, 22, 23, 24, 25, 26, 27, 28, 29, 30, 31, 32, 33, 34, 35, 36, 37, 38, 39, 40, 41, 42, 43, 44, 45, 46, 47, 48,
      49, 50, 51, 52, 53, 54, 55, 56, 57, 58, 59, 60, 61],
  GI.weak 9 (AV.lit (Value.int IntKind.i32 (sumAcc T n h w o (k + 1)))),
  GI.weak 21 (AV.lit (Value.int IntKind.i64 (↑(k + 1) : Int))), GI.sort])
        (ob := [decide ((↑k : Int) < n.nk) = true,
            IntKind.i64.wrap (h * n.ns) = h * n.ns,
            IntKind.i64.wrap (h * n.ns + (↑k : Int)) = h * n.ns + (↑k : Int),
            IntKind.i64.wrap (h * n.ns + (↑k : Int) - n.np) = h * n.ns + (↑k : Int) - n.np,
            decide (h * n.ns + (↑k : Int) - n.np ≥ 0) = true,
            decide (h * n.ns + (↑k : Int) - n.np ≥ 0) = true,
            decide (h * n.ns + (↑k : Int) - n.np ≥ 0) = true,
            decide (h * n.ns + (↑k : Int) - n.np ≥ 0) = true,
            decide (h * n.ns + (↑k : Int) - n.np ≥ 0) = true,
            decide (h * n.ns + (↑k : Int) - n.np ≥ 0) = true,
            decide (h * n.ns + (↑k : Int) - n.np ≥ 0) = true,
            decide (h * n.ns + (↑k : Int) - n.np < T.h) = true,
            IntKind.i64.wrap (w * n.ns) = w * n.ns,
            IntKind.i64.wrap (w * n.ns - n.np) = w * n.ns - n.np,
            VC Try.prog 98
  [AV.agg
              [AV.lit (Value.int IntKind.i64 T.h), AV.lit (Value.int IntKind.i64 T.x), AV.lit (Value.int IntKind.i64 T.c),
                AV.sl 1 (List.map (row1 IntKind.i8) T.d), AV.lit (Value.int IntKind.i64 n.kd),
                AV.lit (Value.int IntKind.i64 n.na), AV.lit (Value.int IntKind.i64 n.nb), AV.lit (Value.int IntKind.i64 n.nk),
                AV.lit (Value.int IntKind.i64 n.ns), AV.lit (Value.int IntKind.i64 n.np), AV.lit (Value.int IntKind.i64 n.no),
                AV.lit (Value.int IntKind.i8 n.za), AV.lit (Value.int IntKind.i8 n.zb),
                AV.sl 1 (List.map (row1 IntKind.i8) n.w), AV.sl 1 (List.map (row1 IntKind.i32) n.b),
                AV.lit (Value.int IntKind.i32 n.qm), AV.lit (Value.int IntKind.i64 n.qs), AV.lit (Value.int IntKind.i8 n.qz),
                AV.lit (Value.int IntKind.i32 n.rm), AV.lit (Value.int IntKind.i64 n.rs), AV.lit (Value.int IntKind.i8 n.rz),
                AV.lit (Value.int IntKind.i8 n.lo), AV.lit (Value.int IntKind.i8 n.hi)],
            AV.lit (Value.int IntKind.i64 o), AV.lit (Value.int IntKind.i64 (↑k : Int)),
            AV.lit (Value.int IntKind.i64 (h * n.ns + (↑k : Int) - n.np)), AV.lit (Value.int IntKind.i64 (w * n.ns - n.np))]
  (AV.lit
            (Value.int IntKind.i32
              (rowAcc T n ((o * n.nk + (↑k : Int)) * n.nk * T.c) (h * n.ns + (↑k : Int) - n.np) (w * n.ns - n.np) n.nk.toNat))),
            IntKind.i64.wrap ((↑k : Int) + 1) = (↑k : Int) + 1,
            Weak
  (AV.lit
            (Value.int IntKind.i32
              (IntKind.i32.wrap
                (sumAcc T n h w o k +
                  rowAcc T n ((o * n.nk + (↑k : Int)) * n.nk * T.c) (h * n.ns + (↑k : Int) - n.np) (w * n.ns - n.np)
                    n.nk.toNat))))
  (AV.lit (Value.int IntKind.i32 (sumAcc T n h w o (k + 1)))),
            Weak (AV.lit (Value.int IntKind.i64 ((↑k : Int) + 1))) (AV.lit (Value.int IntKind.i64 (↑(k + 1) : Int)))]) (by kernel_rfl) ?_
      exact ⟨(by (refine decide_eq_true ?_; omega)),
                  (by exact IntWalk.i64_in _ (by omega)),
                  (by exact IntWalk.i64_in _ (by omega)),
                  (by exact IntWalk.i64_in _ (by omega)),
                  (by with_reducible assumption),
                  (by with_reducible assumption),
                  (by with_reducible assumption),
                  (by with_reducible assumption),
                  (by with_reducible assumption),
                  (by with_reducible assumption),
                  (by with_reducible assumption),
                  (by with_reducible assumption),
                  (by exact IntWalk.i64_in _ (by omega)),
                  (by exact IntWalk.i64_in _ (by omega)),
                  (@cvRow_v (T) (n) (o) ((↑k :
        Int)) (h * n.ns + (↑k : Int) -
        n.np) (w * n.ns -
        n.np) (by with_reducible assumption) (by with_reducible assumption) (by with_reducible assumption) (by omega) (by omega) (by with_reducible assumption) (by with_reducible assumption) (by omega) (by omega)),
                  (by exact IntWalk.i64_in _ (by omega)),
                  (Weak.int (show ((IntKind.i32.wrap
        (sumAcc T n h w o k +
                  rowAcc T n ((o * n.nk + (↑k : Int)) * n.nk * T.c) (h * n.ns + (↑k : Int) - n.np) (w * n.ns - n.np)
                    n.nk.toNat)) : Int) = (sumAcc T n h w o (k + 1)) from (by (rw [sumAcc, if_pos ⟨by omega, by omega⟩])))),
                  (Weak.int (show (((↑k : Int) + 1) : Int) = ((↑(k + 1) : Int)) from (by omega))),
                  trivial⟩
    · have gc1 : ¬h * n.ns + (↑k : Int) - n.np < T.h := of_decide_eq_false hc1
      refine VT.run (W := [.r [] [], .br true, .r [] [], .r [] [PI.n (h * n.ns),
 PI.n (h * n.ns + (↑k : Int)),
 PI.n
   (h * n.ns + (↑k : Int) -
     n.np)], .r [] [PI.br true,
 PI.br true,
 PI.br true,
 PI.br true,
 PI.br true,
 PI.br true,
 PI.br true], .br false, .r [] [PI.n ((↑k : Int) + 1)]]) (G := [GI.any [10, 11, 22, 23, 24, 25, 26, 27, 28, 29, 30, 31, 32, 33, 34, 35, 36, 37, 38, 39, 40, 41, 42, 43, 44, 61],
  GI.weak 9 (AV.lit (Value.int IntKind.i32 (sumAcc T n h w o (k + 1)))),
  GI.weak 21 (AV.lit (Value.int IntKind.i64 (↑(k + 1) : Int))), GI.sort])
        (ob := [decide ((↑k : Int) < n.nk) = true,
            IntKind.i64.wrap (h * n.ns) = h * n.ns,
            IntKind.i64.wrap (h * n.ns + (↑k : Int)) = h * n.ns + (↑k : Int),
            IntKind.i64.wrap (h * n.ns + (↑k : Int) - n.np) = h * n.ns + (↑k : Int) - n.np,
            decide (h * n.ns + (↑k : Int) - n.np ≥ 0) = true,
            decide (h * n.ns + (↑k : Int) - n.np ≥ 0) = true,
            decide (h * n.ns + (↑k : Int) - n.np ≥ 0) = true,
            decide (h * n.ns + (↑k : Int) - n.np ≥ 0) = true,
            decide (h * n.ns + (↑k : Int) - n.np ≥ 0) = true,
            decide (h * n.ns + (↑k : Int) - n.np ≥ 0) = true,
            decide (h * n.ns + (↑k : Int) - n.np ≥ 0) = true,
            decide (h * n.ns + (↑k : Int) - n.np < T.h) = false,
            IntKind.i64.wrap ((↑k : Int) + 1) = (↑k : Int) + 1,
            Weak (AV.lit (Value.int IntKind.i32 (sumAcc T n h w o k)))
  (AV.lit (Value.int IntKind.i32 (sumAcc T n h w o (k + 1)))),
            Weak (AV.lit (Value.int IntKind.i64 ((↑k : Int) + 1))) (AV.lit (Value.int IntKind.i64 (↑(k + 1) : Int)))]) (by kernel_rfl) ?_
      exact ⟨(by (refine decide_eq_true ?_; omega)),
                  (by exact IntWalk.i64_in _ (by omega)),
                  (by exact IntWalk.i64_in _ (by omega)),
                  (by exact IntWalk.i64_in _ (by omega)),
                  (by with_reducible assumption),
                  (by with_reducible assumption),
                  (by with_reducible assumption),
                  (by with_reducible assumption),
                  (by with_reducible assumption),
                  (by with_reducible assumption),
                  (by with_reducible assumption),
                  (by with_reducible assumption),
                  (by exact IntWalk.i64_in _ (by omega)),
                  (Weak.int (show ((sumAcc T n h w o k) : Int) = (sumAcc T n h w o (k + 1)) from (by (rw [sumAcc, if_neg (by omega)])))),
                  (Weak.int (show (((↑k : Int) + 1) : Int) = ((↑(k + 1) : Int)) from (by omega))),
                  trivial⟩
  · have gc0 : ¬h * n.ns + (↑k : Int) - n.np ≥ 0 := of_decide_eq_false hc0
    refine VT.run (W := [.r [] [], .br true, .r [] [], .r [] [PI.n (h * n.ns),
 PI.n (h * n.ns + (↑k : Int)),
 PI.n
   (h * n.ns + (↑k : Int) -
     n.np)], .r [] [PI.br false,
 PI.br false,
 PI.br false,
 PI.br false,
 PI.br false,
 PI.br false,
 PI.br false], .br false, .r [] [PI.n ((↑k : Int) + 1)]]) (G := [GI.any [10, 11, 22, 23, 24, 25, 26, 27, 28, 29, 30, 31, 32, 33, 34, 35, 36, 37, 38, 39, 40, 41, 42, 43, 44, 61],
  GI.weak 9 (AV.lit (Value.int IntKind.i32 (sumAcc T n h w o (k + 1)))),
  GI.weak 21 (AV.lit (Value.int IntKind.i64 (↑(k + 1) : Int))), GI.sort])
      (ob := [decide ((↑k : Int) < n.nk) = true,
          IntKind.i64.wrap (h * n.ns) = h * n.ns,
          IntKind.i64.wrap (h * n.ns + (↑k : Int)) = h * n.ns + (↑k : Int),
          IntKind.i64.wrap (h * n.ns + (↑k : Int) - n.np) = h * n.ns + (↑k : Int) - n.np,
          decide (h * n.ns + (↑k : Int) - n.np ≥ 0) = !true,
          decide (h * n.ns + (↑k : Int) - n.np ≥ 0) = !true,
          decide (h * n.ns + (↑k : Int) - n.np ≥ 0) = !true,
          decide (h * n.ns + (↑k : Int) - n.np ≥ 0) = !true,
          decide (h * n.ns + (↑k : Int) - n.np ≥ 0) = !true,
          decide (h * n.ns + (↑k : Int) - n.np ≥ 0) = !true,
          decide (h * n.ns + (↑k : Int) - n.np ≥ 0) = false,
          false = false,
          IntKind.i64.wrap ((↑k : Int) + 1) = (↑k : Int) + 1,
          Weak (AV.lit (Value.int IntKind.i32 (sumAcc T n h w o k)))
  (AV.lit (Value.int IntKind.i32 (sumAcc T n h w o (k + 1)))),
          Weak (AV.lit (Value.int IntKind.i64 ((↑k : Int) + 1))) (AV.lit (Value.int IntKind.i64 (↑(k + 1) : Int)))]) (by kernel_rfl) ?_
    exact ⟨(by (refine decide_eq_true ?_; omega)),
              (by exact IntWalk.i64_in _ (by omega)),
              (by exact IntWalk.i64_in _ (by omega)),
              (by exact IntWalk.i64_in _ (by omega)),
              (by (refine decide_eq_false ?_; omega)),
              (by (refine decide_eq_false ?_; omega)),
              (by (refine decide_eq_false ?_; omega)),
              (by (refine decide_eq_false ?_; omega)),
              (by (refine decide_eq_false ?_; omega)),
              (by (refine decide_eq_false ?_; omega)),
              (by with_reducible assumption),
              (by with_reducible rfl),
              (by exact IntWalk.i64_in _ (by omega)),
              (Weak.int (show ((sumAcc T n h w o k) : Int) = (sumAcc T n h w o (k + 1)) from (by (rw [sumAcc, if_neg (by omega)])))),
              (Weak.int (show (((↑k : Int) + 1) : Int) = ((↑(k + 1) : Int)) from (by omega))),
              trivial⟩
set_option maxRecDepth 100000 in
set_option maxHeartbeats 2000000 in
theorem cvSum_l_e (T : Ten) (n : Nod) (h w o : Int) (ok : CvOk T n) (o0 : 0 ≤ o) (o1 : o < n.no) (h0 : 0 ≤ h) (h1 : h ≤ 1000) (w0 : 0 ≤ w) (w1 : w ≤ 1000) : VT Try.prog (fnC Try.f66 [1, 1, 0, 1, 0, 0]) (cvSum_l_I T n h w o (n.nk.toNat)) (.exit 0) (cvSum_l_Z T n h w o) := by
  refine VT.run (W := [.r [] [], .br false]) (G := [GI.any [22], GI.sort])
    (ob := [decide ((↑n.nk.toNat : Int) < n.nk) = false]) (by kernel_rfl) ?_
  exact ⟨(by (refine decide_eq_false ?_; omega)),
          trivial⟩
theorem cvSum_l (T : Ten) (n : Nod) (h w o : Int) (ok : CvOk T n) (o0 : 0 ≤ o) (o1 : o < n.no) (h0 : 0 ≤ h) (h1 : h ≤ 1000) (w0 : 0 ≤ w) (w1 : w ≤ 1000) : VT Try.prog (fnC Try.f66 [1, 1, 0, 1, 0]) (cvSum_l_I T n h w o 0) (.exit 0) (cvSum_l_Z T n h w o) :=
  VT.loop (fun k => cvSum_l_I T n h w o k) (n.nk.toNat) (fun k hk => cvSum_l_s T n h w o ok o0 o1 h0 h1 w0 w1 k hk) (cvSum_l_e T n h w o ok o0 o1 h0 h1 w0 w1) (by intro h; cases h)

set_option maxRecDepth 100000 in
set_option maxHeartbeats 2000000 in
theorem cvSum_v (T : Ten) (n : Nod) (h w o : Int) (ok : CvOk T n) (o0 : 0 ≤ o) (o1 : o < n.no) (h0 : 0 ≤ h) (h1 : h ≤ 1000) (w0 : 0 ≤ w) (w1 : w ≤ 1000) : VC Try.prog 66 ([win T n, i64 h, i64 w, i64 o]) (i32 (sumAcc T n h w o n.nk.toNat)) := by
  have g1 := ok.n.bl
  have hz : VC Try.prog 66 ([win T n, i64 h, i64 w, i64 o]) (AV.lit (Value.int IntKind.i32 (sumAcc T n h w o n.nk.toNat))) := by
    refine VC.run (fn := Try.f66) Try.func66 (W := [.r [] [], .r [] [PI.row
   [AV.lit
       (Value.int IntKind.i32
         (n.b.getD o.toNat
           0))]], .r [] [], .code [GI.any [0, 8, 12, 13, 14, 15, 16, 17, 18, 19],
  GI.weak 9 (AV.lit (Value.int IntKind.i32 (sumAcc T n h w o 0))),
  GI.weak 21 (AV.lit (Value.int IntKind.i64 (↑0 : Int))),
  GI.sort] (Exit.exit
  0) (VS.mk
  [AV.any, AV.lit (Value.int IntKind.i64 h), AV.lit (Value.int IntKind.i64 w), AV.lit (Value.int IntKind.i64 o),
    AV.ptr 4 0 0, AV.any, AV.any, AV.any, AV.any, AV.lit (Value.int IntKind.i32 (sumAcc T n h w o n.nk.toNat)), AV.any,
    AV.any, AV.any, AV.any, AV.any, AV.any, AV.any, AV.any, AV.any, AV.any, AV.lit (Value.int IntKind.i64 n.nk),
    AV.lit (Value.int IntKind.i64 (↑n.nk.toNat : Int)), AV.any, AV.any, AV.any, AV.any, AV.any, AV.any, AV.any, AV.any,
    AV.any, AV.any, AV.any, AV.any, AV.any, AV.any, AV.any, AV.any, AV.any, AV.any, AV.any, AV.any, AV.any, AV.any,
    AV.any, AV.any, AV.any, AV.any, AV.any, AV.any, AV.any, AV.any, AV.any, AV.any, AV.any, AV.any, AV.any, AV.any,
    AV.any, AV.any, AV.any, AV.any, AV.any]
  [(4,
      Blk.var
        [AV.lit (Value.int IntKind.i64 T.h), AV.lit (Value.int IntKind.i64 T.x), AV.lit (Value.int IntKind.i64 T.c),
          AV.sl 1 (List.map (row1 IntKind.i8) T.d), AV.lit (Value.int IntKind.i64 n.kd),
          AV.lit (Value.int IntKind.i64 n.na), AV.lit (Value.int IntKind.i64 n.nb), AV.lit (Value.int IntKind.i64 n.nk),
          AV.lit (Value.int IntKind.i64 n.ns), AV.lit (Value.int IntKind.i64 n.np), AV.lit (Value.int IntKind.i64 n.no),
          AV.lit (Value.int IntKind.i8 n.za), AV.lit (Value.int IntKind.i8 n.zb),
          AV.sl 1 (List.map (row1 IntKind.i8) n.w), AV.sl 1 (List.map (row1 IntKind.i32) n.b),
          AV.lit (Value.int IntKind.i32 n.qm), AV.lit (Value.int IntKind.i64 n.qs), AV.lit (Value.int IntKind.i8 n.qz),
          AV.lit (Value.int IntKind.i32 n.rm), AV.lit (Value.int IntKind.i64 n.rs), AV.lit (Value.int IntKind.i8 n.rz),
          AV.lit (Value.int IntKind.i8 n.lo), AV.lit (Value.int IntKind.i8 n.hi)])]), .r [] []])
      (ob := [0 ≤ o,
        (List.map (row1 IntKind.i32) n.b)[o.toNat]? = some [AV.lit (Value.int IntKind.i32 (n.b.getD o.toNat 0))],
        Weak (AV.lit (Value.int IntKind.i32 (n.b.getD o.toNat 0))) (AV.lit (Value.int IntKind.i32 (sumAcc T n h w o 0))),
        Weak (AV.lit (Value.int IntKind.i64 0)) (AV.lit (Value.int IntKind.i64 (↑0 : Int))),
        VT Try.prog (fnC Try.f66 [1, 1, 0, 1, 0])
  (VS.mk
        [AV.any, AV.lit (Value.int IntKind.i64 h), AV.lit (Value.int IntKind.i64 w), AV.lit (Value.int IntKind.i64 o),
          AV.ptr 4 0 0, AV.any, AV.any, AV.any, AV.any, AV.lit (Value.int IntKind.i32 (sumAcc T n h w o 0)), AV.any, AV.any,
          AV.any, AV.any, AV.any, AV.any, AV.any, AV.any, AV.any, AV.any, AV.lit (Value.int IntKind.i64 n.nk),
          AV.lit (Value.int IntKind.i64 (↑0 : Int)), AV.any, AV.any, AV.any, AV.any, AV.any, AV.any, AV.any, AV.any, AV.any,
          AV.any, AV.any, AV.any, AV.any, AV.any, AV.any, AV.any, AV.any, AV.any, AV.any, AV.any, AV.any, AV.any, AV.any,
          AV.any, AV.any, AV.any, AV.any, AV.any, AV.any, AV.any, AV.any, AV.any, AV.any, AV.any, AV.any, AV.any, AV.any,
          AV.any, AV.any, AV.any, AV.any]
        [(4,
            Blk.var
              [AV.lit (Value.int IntKind.i64 T.h), AV.lit (Value.int IntKind.i64 T.x), AV.lit (Value.int IntKind.i64 T.c),
                AV.sl 1 (List.map (row1 IntKind.i8) T.d), AV.lit (Value.int IntKind.i64 n.kd),
                AV.lit (Value.int IntKind.i64 n.na), AV.lit (Value.int IntKind.i64 n.nb),
                AV.lit (Value.int IntKind.i64 n.nk), AV.lit (Value.int IntKind.i64 n.ns),
                AV.lit (Value.int IntKind.i64 n.np), AV.lit (Value.int IntKind.i64 n.no),
                AV.lit (Value.int IntKind.i8 n.za), AV.lit (Value.int IntKind.i8 n.zb),
                AV.sl 1 (List.map (row1 IntKind.i8) n.w), AV.sl 1 (List.map (row1 IntKind.i32) n.b),
                AV.lit (Value.int IntKind.i32 n.qm), AV.lit (Value.int IntKind.i64 n.qs),
                AV.lit (Value.int IntKind.i8 n.qz), AV.lit (Value.int IntKind.i32 n.rm),
                AV.lit (Value.int IntKind.i64 n.rs), AV.lit (Value.int IntKind.i8 n.rz), AV.lit (Value.int IntKind.i8 n.lo),
                AV.lit (Value.int IntKind.i8 n.hi)])])
  (Exit.exit 0)
  (VS.mk
        [AV.any, AV.lit (Value.int IntKind.i64 h), AV.lit (Value.int IntKind.i64 w), AV.lit (Value.int IntKind.i64 o),
          AV.ptr 4 0 0, AV.any, AV.any, AV.any, AV.any, AV.lit (Value.int IntKind.i32 (sumAcc T n h w o n.nk.toNat)),
          AV.any, AV.any, AV.any, AV.any, AV.any, AV.any, AV.any, AV.any, AV.any, AV.any,
          AV.lit (Value.int IntKind.i64 n.nk), AV.lit (Value.int IntKind.i64 (↑n.nk.toNat : Int)), AV.any, AV.any, AV.any,
          AV.any, AV.any, AV.any, AV.any, AV.any, AV.any, AV.any, AV.any, AV.any, AV.any, AV.any, AV.any, AV.any, AV.any,
          AV.any, AV.any, AV.any, AV.any, AV.any, AV.any, AV.any, AV.any, AV.any, AV.any, AV.any, AV.any, AV.any, AV.any,
          AV.any, AV.any, AV.any, AV.any, AV.any, AV.any, AV.any, AV.any, AV.any, AV.any]
        [(4,
            Blk.var
              [AV.lit (Value.int IntKind.i64 T.h), AV.lit (Value.int IntKind.i64 T.x), AV.lit (Value.int IntKind.i64 T.c),
                AV.sl 1 (List.map (row1 IntKind.i8) T.d), AV.lit (Value.int IntKind.i64 n.kd),
                AV.lit (Value.int IntKind.i64 n.na), AV.lit (Value.int IntKind.i64 n.nb),
                AV.lit (Value.int IntKind.i64 n.nk), AV.lit (Value.int IntKind.i64 n.ns),
                AV.lit (Value.int IntKind.i64 n.np), AV.lit (Value.int IntKind.i64 n.no),
                AV.lit (Value.int IntKind.i8 n.za), AV.lit (Value.int IntKind.i8 n.zb),
                AV.sl 1 (List.map (row1 IntKind.i8) n.w), AV.sl 1 (List.map (row1 IntKind.i32) n.b),
                AV.lit (Value.int IntKind.i32 n.qm), AV.lit (Value.int IntKind.i64 n.qs),
                AV.lit (Value.int IntKind.i8 n.qz), AV.lit (Value.int IntKind.i32 n.rm),
                AV.lit (Value.int IntKind.i64 n.rs), AV.lit (Value.int IntKind.i8 n.rz), AV.lit (Value.int IntKind.i8 n.lo),
                AV.lit (Value.int IntKind.i8 n.hi)])])]) (by kernel_rfl) ?_
    exact ⟨(by with_reducible assumption),
            (map_at (row1 IntKind.i32) (0) (l := n.b) (i := o.toNat) (by omega)),
            (Weak.int (show ((n.b.getD o.toNat 0) : Int) = (sumAcc T n h w o 0) from (by rfl))),
            (Weak.int (show ((0) : Int) = ((↑0 : Int)) from (by omega))),
            (@cvSum_l (T) (n) (h) (w) (o) (by with_reducible assumption) (by with_reducible assumption) (by with_reducible assumption) (by with_reducible assumption) (by with_reducible assumption) (by with_reducible assumption) (by with_reducible assumption)),
            trivial⟩
  exact hz
end Go.Proofs.Ytcegfkmelcjdhaa

