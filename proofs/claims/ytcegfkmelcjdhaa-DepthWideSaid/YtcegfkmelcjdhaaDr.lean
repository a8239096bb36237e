/- All sums of windows of one channel each, by the document. No condition. -/
import Derived.Test.YtcegfkmelcjdhaaDq
namespace Go.Proofs.Ytcegfkmelcjdhaa
open Go.RowKit
set_option linter.unusedSimpArgs false
set_option linter.unusedVariables false
set_option linter.unnecessarySimpa false

theorem place_bdT {a x m : Int} (q : 0 < elems a x m) {h w c : Int} (h0 : 0 ≤ h) (h1 : h < a) (w0 : 0 ≤ w) (w1 : w < x) (c0 : 0 ≤ c) (c1 : c < m) :
    (0 ≤ h * x ∧ h * x ≤ 1024) ∧ (0 ≤ (h * x + w) * m ∧ (h * x + w) * m ≤ 1024) ∧ (0 ≤ (h * x + w) * m + c ∧ (h * x + w) * m + c < elems a x m) := place_bd (t := ⟨a, x, m⟩) q h0 h1 w0 w1 c0 c1
/-- One cell of a window, over whole numbers. -/
def dcell (T : Ten) (n : Nod) (h w c i : Int) (j : Nat) : Int := if inT T (h * n.ns + i - n.np) (w * n.ns + (j : Int) - n.np) then dterm T n c (h * n.ns + i - n.np) (w * n.ns + (j : Int) - n.np) (i * n.nk + (j : Int)) else 0
theorem dcell_bd {T : Ten} {n : Nod} (ok : DpOk T n) (h w c i : Int) (j : Nat) : -32640 ≤ dcell T n h w c i j ∧ dcell T n h w c i j ≤ 32640 := by
  unfold dcell; split
  · exact dterm_bd ok _ _ _ _
  · omega
def drow (T : Ten) (n : Nod) (h w c : Int) (i : Nat) : Int := sumN (dcell T n h w c i) n.nk.toNat
theorem drow_bd {T : Ten} {n : Nod} (ok : DpOk T n) (h w c : Int) (i : Nat) : -163200 ≤ drow T n h w c i ∧ drow T n h w c i ≤ 163200 := by
  have g := sumN_bd (B := 32640) (f := dcell T n h w c i) n.nk.toNat fun j _ => dcell_bd ok _ _ _ _ j
  have k1 := ok.n.k1
  have k5 := ok.n.k5
  unfold drow
  omega
/-- A window's sum, over whole numbers. -/
def dE (T : Ten) (n : Nod) (h w c : Int) : Int := accN (n.b.getD c.toNat 0) (drow T n h w c) n.nk.toNat
noncomputable def rdSum_j_I (T : Ten) (n : Nod) (h w c i v : Int) (k : Nat) : VS := stt 102 [(2, i64 h), (3, i64 w), (4, i64 c), (5, .ptr 5 0 0), (6, .ptr 6 0 0), (11, i64 (accN v (dcell T n h w c i) k)), (12, i64 i), (13, i64 k)] [(5, .var [i64 T.h, i64 T.x, i64 T.c, ints .i8 T.d]), (6, .var (nodC n))]
noncomputable def rdSum_j_Z (T : Ten) (n : Nod) (h w c i v : Int) : VS := rdSum_j_I T n h w c i v (n.nk.toNat)
set_option maxRecDepth 100000 in
set_option maxHeartbeats 2000000 in
theorem rdSum_j_s (T : Ten) (n : Nod) (h w c i v : Int) (ok : DpOk T n) (h0 : 0 ≤ h) (h1 : h ≤ 1000) (w0 : 0 ≤ w) (w1 : w ≤ 1000) (c0 : 0 ≤ c) (c1 : c < T.c) (i0 : 0 ≤ i) (i1 : i < n.nk) (v0 : -100000000000 ≤ v) (v1 : v ≤ 100000000000) (k : Nat) (hk : k < n.nk.toNat) : VT Try.prog (fnC Try.f71 [1, 1, 0, 1, 0, 0, 1, 0, 0, 1, 0, 0]) (rdSum_j_I T n h w c i v k) .normal (rdSum_j_I T n h w c i v (k + 1)) := by
  have nn := ok.n
  have g1 := nn.k1
  have g2 := nn.k5
  have g4 := idx_bd (a := i) (m := n.nk) (b := k) (n := n.nk) i0 i1 (by omega) (by omega)
  have g5 := dw_bd nn c0 c1 (i := i * n.nk + k) (by omega) (by omega)
  have g6 : (c * n.nk + i) * n.nk + (k : Int) = c * n.nk * n.nk + (i * n.nk + (k : Int)) := by rw [Int.add_mul]; omega
  have g7 : 0 ≤ i * n.nk := Int.mul_nonneg i0 (by omega)
  have g17 : (c * n.nk + i) * n.nk = c * n.nk * n.nk + i * n.nk := by rw [Int.add_mul]
  have g8 := nn.s1
  have g9 := nn.s4
  have g10 := nn.p0
  have g11 := nn.p4
  have g12 := nn.w2
  have g13 := mul_bd (A := 1000) (B := 4) h0 h1 (show 0 ≤ n.ns by omega) g9
  have g14 := mul_bd (A := 1000) (B := 4) w0 w1 (show 0 ≤ n.ns by omega) g9
  have g15 := nn.d2
  have g16 := nn.dl
  have g18 := accN_eq v (dcell T n h w c i) k
  have g19 := sumN_bd (B := 32640) (f := dcell T n h w c i) k fun j _ => dcell_bd ok _ _ _ _ j
  have h3 : -128 ≤ n.za ∧ n.za ≤ 127 := ok.okn.za
  rcases Bool.eq_false_or_eq_true (decide (h * n.ns + i - n.np ≥ 0)) with hc0 | hc0
  · have gc0 : h * n.ns + i - n.np ≥ 0 := of_decide_eq_true hc0
    rcases Bool.eq_false_or_eq_true (decide (h * n.ns + i - n.np < T.h)) with hc1 | hc1
    · have gc1 : h * n.ns + i - n.np < T.h := of_decide_eq_true hc1
      rcases Bool.eq_false_or_eq_true (decide (w * n.ns + (↑k : Int) - n.np ≥ 0)) with hc2 | hc2
      · have gc2 : w * n.ns + (↑k : Int) - n.np ≥ 0 := of_decide_eq_true hc2
        rcases Bool.eq_false_or_eq_true (decide (w * n.ns + (↑k : Int) - n.np < T.x)) with hc3 | hc3
        · have gc3 : w * n.ns + (↑k : Int) - n.np < T.x := of_decide_eq_true hc3
          refine VT.run (W := [.r [] [], .br true, .r [] [PI.n (h * n.ns),
 PI.n (h * n.ns + i),
 PI.n (h * n.ns + i - n.np),
 PI.n (w * n.ns),
 PI.n (w * n.ns + (↑k : Int)),
 PI.n
   (w * n.ns + (↑k : Int) -
     n.np)], .r [] [PI.br true,
 PI.br true,
 PI.br true,
 PI.br true,
 PI.br true,
 PI.br true,
 PI.br true,
 PI.br true,
 PI.br true,
 PI.br true,
 PI.br true,
 PI.br true,
 PI.br true,
 PI.br true,
 PI.br
   true], .br true, .r [] [PI.n (c * n.nk),
 PI.n (c * n.nk + i),
 PI.n ((c * n.nk + i) * n.nk),
 PI.n ((c * n.nk + i) * n.nk + (↑k : Int)),
 PI.row [AV.lit (Value.int IntKind.i8 (n.w.getD ((c * n.nk + i) * n.nk + (↑k : Int)).toNat 0))],
 PI.n (n.w.getD ((c * n.nk + i) * n.nk + (↑k : Int)).toNat 0),
 PI.callr (i8 (T.d.getD (((h * n.ns + i - n.np) * T.x + (w * n.ns + (↑k : Int) - n.np)) * T.c + c).toNat 0)),
 PI.n (T.d.getD (((h * n.ns + i - n.np) * T.x + (w * n.ns + (↑k : Int) - n.np)) * T.c + c).toNat 0),
 PI.n n.za,
 PI.n (T.d.getD (((h * n.ns + i - n.np) * T.x + (w * n.ns + (↑k : Int) - n.np)) * T.c + c).toNat 0 - n.za),
 PI.n
   (n.w.getD ((c * n.nk + i) * n.nk + (↑k : Int)).toNat 0 *
     (T.d.getD (((h * n.ns + i - n.np) * T.x + (w * n.ns + (↑k : Int) - n.np)) * T.c + c).toNat 0 - n.za)),
 PI.n
   (accN v (dcell T n h w c i) k +
     n.w.getD ((c * n.nk + i) * n.nk + (↑k : Int)).toNat 0 *
       (T.d.getD (((h * n.ns + i - n.np) * T.x + (w * n.ns + (↑k : Int) - n.np)) * T.c + c).toNat 0 -
         n.za))], .r [] [PI.n ((↑k : Int) + 1)]]) (G := [GI.any
    [14, 15, 28, 29, 30, 31, 32, 33, 34, 35, 36, 37, 38, 39, 40, 41, 42, 43, 44, 45, 46, 47, 48, 49, 50, 51, 52, 53, 54,
      55, 56, 57, 58, 59, 60, 61, 62, 63, 64, 65, 66, 67, 68, 69, 70, 71, 72, 73, 74, 75, 76, 77, 78, 79, 80, 81, 82,
      83, 84, 85, 86, 87, 88, 89, 90, 91, 92, 93, 94, 95, 96, 97, 98, 99, 100],
  GI.weak 11 (AV.lit (Value.int IntKind.i64 (accN v (dcell T n h w c i) (k + 1)))),
  GI.weak 13 (AV.lit (Value.int IntKind.i64 (↑(k + 1) : Int))), GI.sort])
            (ob := [decide ((↑k : Int) < n.nk) = true,
                IntKind.i64.wrap (h * n.ns) = h * n.ns,
                IntKind.i64.wrap (h * n.ns + i) = h * n.ns + i,
                IntKind.i64.wrap (h * n.ns + i - n.np) = h * n.ns + i - n.np,
                IntKind.i64.wrap (w * n.ns) = w * n.ns,
                IntKind.i64.wrap (w * n.ns + (↑k : Int)) = w * n.ns + (↑k : Int),
                IntKind.i64.wrap (w * n.ns + (↑k : Int) - n.np) = w * n.ns + (↑k : Int) - n.np,
                decide (h * n.ns + i - n.np ≥ 0) = true,
                decide (h * n.ns + i - n.np ≥ 0) = true,
                decide (h * n.ns + i - n.np ≥ 0) = true,
                decide (h * n.ns + i - n.np ≥ 0) = true,
                decide (h * n.ns + i - n.np ≥ 0) = true,
                decide (h * n.ns + i - n.np ≥ 0) = true,
                decide (h * n.ns + i - n.np < T.h) = true,
                decide (h * n.ns + i - n.np < T.h) = true,
                decide (h * n.ns + i - n.np < T.h) = true,
                decide (w * n.ns + (↑k : Int) - n.np ≥ 0) = true,
                decide (w * n.ns + (↑k : Int) - n.np ≥ 0) = true,
                decide (w * n.ns + (↑k : Int) - n.np ≥ 0) = true,
                decide (w * n.ns + (↑k : Int) - n.np ≥ 0) = true,
                decide (w * n.ns + (↑k : Int) - n.np ≥ 0) = true,
                decide (w * n.ns + (↑k : Int) - n.np ≥ 0) = true,
                decide (w * n.ns + (↑k : Int) - n.np < T.x) = true,
                IntKind.i64.wrap (c * n.nk) = c * n.nk,
                IntKind.i64.wrap (c * n.nk + i) = c * n.nk + i,
                IntKind.i64.wrap ((c * n.nk + i) * n.nk) = (c * n.nk + i) * n.nk,
                IntKind.i64.wrap ((c * n.nk + i) * n.nk + (↑k : Int)) = (c * n.nk + i) * n.nk + (↑k : Int),
                0 ≤ (c * n.nk + i) * n.nk + (↑k : Int),
                (List.map (row1 IntKind.i8) n.w)[((c * n.nk + i) * n.nk + (↑k : Int)).toNat]? =
  some [AV.lit (Value.int IntKind.i8 (n.w.getD ((c * n.nk + i) * n.nk + (↑k : Int)).toNat 0))],
                IntKind.i64.wrap (n.w.getD ((c * n.nk + i) * n.nk + (↑k : Int)).toNat 0) =
  n.w.getD ((c * n.nk + i) * n.nk + (↑k : Int)).toNat 0,
                VC Try.prog 75
  [AV.agg
                  [AV.lit (Value.int IntKind.i64 T.h), AV.lit (Value.int IntKind.i64 T.x), AV.lit (Value.int IntKind.i64 T.c),
                    AV.sl 1 (List.map (row1 IntKind.i8) T.d)],
                AV.lit (Value.int IntKind.i64 (h * n.ns + i - n.np)), AV.lit (Value.int IntKind.i64 (w * n.ns + (↑k : Int) - n.np)),
                AV.lit (Value.int IntKind.i64 c)]
  (AV.lit
                (Value.int IntKind.i8
                  (T.d.getD (((h * n.ns + i - n.np) * T.x + (w * n.ns + (↑k : Int) - n.np)) * T.c + c).toNat 0))),
                IntKind.i64.wrap (T.d.getD (((h * n.ns + i - n.np) * T.x + (w * n.ns + (↑k : Int) - n.np)) * T.c + c).toNat 0) =
  T.d.getD (((h * n.ns + i - n.np) * T.x + (w * n.ns + (↑k : Int) - n.np)) * T.c + c).toNat 0,
                IntKind.i64.wrap n.za = n.za,
                IntKind.i64.wrap
                (T.d.getD (((h * n.ns + i - n.np) * T.x + (w * n.ns + (↑k : Int) - n.np)) * T.c + c).toNat 0 - n.za) =
  T.d.getD (((h * n.ns + i - n.np) * T.x + (w * n.ns + (↑k : Int) - n.np)) * T.c + c).toNat 0 - n.za,
                IntKind.i64.wrap
                (n.w.getD ((c * n.nk + i) * n.nk + (↑k : Int)).toNat 0 *
                  (T.d.getD (((h * n.ns + i - n.np) * T.x + (w * n.ns + (↑k : Int) - n.np)) * T.c + c).toNat 0 - n.za)) =
  n.w.getD ((c * n.nk + i) * n.nk + (↑k : Int)).toNat 0 *
                (T.d.getD (((h * n.ns + i - n.np) * T.x + (w * n.ns + (↑k : Int) - n.np)) * T.c + c).toNat 0 - n.za),
                IntKind.i64.wrap
                (accN v (dcell T n h w c i) k +
                  n.w.getD ((c * n.nk + i) * n.nk + (↑k : Int)).toNat 0 *
                    (T.d.getD (((h * n.ns + i - n.np) * T.x + (w * n.ns + (↑k : Int) - n.np)) * T.c + c).toNat 0 - n.za)) =
  accN v (dcell T n h w c i) k +
                n.w.getD ((c * n.nk + i) * n.nk + (↑k : Int)).toNat 0 *
                  (T.d.getD (((h * n.ns + i - n.np) * T.x + (w * n.ns + (↑k : Int) - n.np)) * T.c + c).toNat 0 - n.za),
                IntKind.i64.wrap ((↑k : Int) + 1) = (↑k : Int) + 1,
                Weak
  (AV.lit
                (Value.int IntKind.i64
                  (accN v (dcell T n h w c i) k +
                    n.w.getD ((c * n.nk + i) * n.nk + (↑k : Int)).toNat 0 *
                      (T.d.getD (((h * n.ns + i - n.np) * T.x + (w * n.ns + (↑k : Int) - n.np)) * T.c + c).toNat 0 - n.za))))
  (AV.lit (Value.int IntKind.i64 (accN v (dcell T n h w c i) (k + 1)))),
                Weak (AV.lit (Value.int IntKind.i64 ((↑k : Int) + 1))) (AV.lit (Value.int IntKind.i64 (↑(k + 1) : Int)))]) (by kernel_rfl) ?_
          exact ⟨(by (refine decide_eq_true ?_; omega)),
                          (by exact IntWalk.i64_in _ (by omega)),
                          (by exact IntWalk.i64_in _ (by omega)),
                          (by exact IntWalk.i64_in _ (by omega)),
                          (by exact IntWalk.i64_in _ (by omega)),
                          (by exact IntWalk.i64_in _ (by omega)),
                          (by exact IntWalk.i64_in _ (by omega)),
                          (by with_reducible assumption),
                          (by with_reducible assumption),
                          (by with_reducible assumption),
                          (by with_reducible assumption),
                          (by with_reducible assumption),
                          (by with_reducible assumption),
                          (by with_reducible assumption),
                          (by with_reducible assumption),
                          (by with_reducible assumption),
                          (by with_reducible assumption),
                          (by with_reducible assumption),
                          (by with_reducible assumption),
                          (by with_reducible assumption),
                          (by with_reducible assumption),
                          (by with_reducible assumption),
                          (by with_reducible assumption),
                          (by exact IntWalk.i64_in _ (by omega)),
                          (by exact IntWalk.i64_in _ (by omega)),
                          (by exact IntWalk.i64_in _ (by omega)),
                          (by exact IntWalk.i64_in _ (by omega)),
                          (by omega),
                          (map_at (row1 IntKind.i8) (0) (l := n.w) (i := ((c * n.nk + i) * n.nk + (↑k : Int)).toNat) (by omega)),
                          (by with_reducible exact IntWalk.i64_in _ (in8x (gt8 ok.okn.w _))),
                          (@get_v (T) (h * n.ns + i -
            n.np) (w * n.ns + (↑k : Int) -
            n.np) (c) (by (have q2 := place_bdT nn.q (h := h * n.ns + i - n.np) (w := w * n.ns + (k : Int) - n.np) (c := c) (by omega) (by omega) (by omega) (by omega) c0 c1; have q3 := nn.x16; omega)) (by (have q2 := place_bdT nn.q (h := h * n.ns + i - n.np) (w := w * n.ns + (k : Int) - n.np) (c := c) (by omega) (by omega) (by omega) (by omega) c0 c1; have q3 := nn.x16; omega)) (by with_reducible assumption) (by (have q2 := place_bdT nn.q (h := h * n.ns + i - n.np) (w := w * n.ns + (k : Int) - n.np) (c := c) (by omega) (by omega) (by omega) (by omega) c0 c1; have q3 := nn.x16; omega)) (by (have q2 := place_bdT nn.q (h := h * n.ns + i - n.np) (w := w * n.ns + (k : Int) - n.np) (c := c) (by omega) (by omega) (by omega) (by omega) c0 c1; have q3 := nn.x16; omega)) (by with_reducible assumption) (by (have q2 := place_bdT nn.q (h := h * n.ns + i - n.np) (w := w * n.ns + (k : Int) - n.np) (c := c) (by omega) (by omega) (by omega) (by omega) c0 c1; have q3 := nn.x16; omega)) (by with_reducible assumption)),
                          (by with_reducible exact IntWalk.i64_in _ (in8x (gt8 ok.ok.d _))),
                          (by exact IntWalk.i64_in _ (by omega)),
                          (by with_reducible exact IntWalk.i64_in _ (by have := sub8 (gt8 ok.ok.d (((h * n.ns + i - n.np) * T.x + (w * n.ns + (k : Int) - n.np)) * T.c + c).toNat) h3; omega)),
                          (by with_reducible exact IntWalk.i64_in _ (by have := prod8w (gt8 ok.okn.w ((c * n.nk + i) * n.nk + (k : Int)).toNat) (gt8 ok.ok.d (((h * n.ns + i - n.np) * T.x + (w * n.ns + (k : Int) - n.np)) * T.c + c).toNat) h3; omega)),
                          (by with_reducible exact IntWalk.i64_in _ (by have := prod8w (gt8 ok.okn.w ((c * n.nk + i) * n.nk + (k : Int)).toNat) (gt8 ok.ok.d (((h * n.ns + i - n.np) * T.x + (w * n.ns + (k : Int) - n.np)) * T.c + c).toNat) h3; omega)),
                          (by exact IntWalk.i64_in _ (by omega)),
                          (Weak.int (show ((accN v (dcell T n h w c i) k +
            n.w.getD ((c * n.nk + i) * n.nk + (↑k : Int)).toNat 0 *
                          (T.d.getD (((h * n.ns + i - n.np) * T.x + (w * n.ns + (↑k : Int) - n.np)) * T.c + c).toNat 0 -
                            n.za)) : Int) = (accN v (dcell T n h w c i) (k + 1)) from (by (rw [accN, dcell, if_pos ⟨by omega, by omega, by omega, by omega⟩, dterm, g6])))),
                          (Weak.int (show (((↑k : Int) + 1) : Int) = ((↑(k + 1) : Int)) from (by omega))),
                          trivial⟩
        · have gc3 : ¬w * n.ns + (↑k : Int) - n.np < T.x := of_decide_eq_false hc3
          refine VT.run (W := [.r [] [], .br true, .r [] [PI.n (h * n.ns),
 PI.n (h * n.ns + i),
 PI.n (h * n.ns + i - n.np),
 PI.n (w * n.ns),
 PI.n (w * n.ns + (↑k : Int)),
 PI.n
   (w * n.ns + (↑k : Int) -
     n.np)], .r [] [PI.br true,
 PI.br true,
 PI.br true,
 PI.br true,
 PI.br true,
 PI.br true,
 PI.br true,
 PI.br true,
 PI.br true,
 PI.br true,
 PI.br true,
 PI.br true,
 PI.br true,
 PI.br true,
 PI.br true], .br false, .r [] [PI.n ((↑k : Int) + 1)]]) (G := [GI.any
    [14, 15, 28, 29, 30, 31, 32, 33, 34, 35, 36, 37, 38, 39, 40, 41, 42, 43, 44, 45, 46, 47, 48, 49, 50, 51, 52, 53, 54,
      55, 56, 57, 58, 59, 60, 61, 62, 63, 64, 65, 66, 67, 68, 69, 70, 71],
  GI.weak 11 (AV.lit (Value.int IntKind.i64 (accN v (dcell T n h w c i) (k + 1)))),
  GI.weak 13 (AV.lit (Value.int IntKind.i64 (↑(k + 1) : Int))), GI.sort])
            (ob := [decide ((↑k : Int) < n.nk) = true,
                IntKind.i64.wrap (h * n.ns) = h * n.ns,
                IntKind.i64.wrap (h * n.ns + i) = h * n.ns + i,
                IntKind.i64.wrap (h * n.ns + i - n.np) = h * n.ns + i - n.np,
                IntKind.i64.wrap (w * n.ns) = w * n.ns,
                IntKind.i64.wrap (w * n.ns + (↑k : Int)) = w * n.ns + (↑k : Int),
                IntKind.i64.wrap (w * n.ns + (↑k : Int) - n.np) = w * n.ns + (↑k : Int) - n.np,
                decide (h * n.ns + i - n.np ≥ 0) = true,
                decide (h * n.ns + i - n.np ≥ 0) = true,
                decide (h * n.ns + i - n.np ≥ 0) = true,
                decide (h * n.ns + i - n.np ≥ 0) = true,
                decide (h * n.ns + i - n.np ≥ 0) = true,
                decide (h * n.ns + i - n.np ≥ 0) = true,
                decide (h * n.ns + i - n.np < T.h) = true,
                decide (h * n.ns + i - n.np < T.h) = true,
                decide (h * n.ns + i - n.np < T.h) = true,
                decide (w * n.ns + (↑k : Int) - n.np ≥ 0) = true,
                decide (w * n.ns + (↑k : Int) - n.np ≥ 0) = true,
                decide (w * n.ns + (↑k : Int) - n.np ≥ 0) = true,
                decide (w * n.ns + (↑k : Int) - n.np ≥ 0) = true,
                decide (w * n.ns + (↑k : Int) - n.np ≥ 0) = true,
                decide (w * n.ns + (↑k : Int) - n.np ≥ 0) = true,
                decide (w * n.ns + (↑k : Int) - n.np < T.x) = false,
                IntKind.i64.wrap ((↑k : Int) + 1) = (↑k : Int) + 1,
                Weak (AV.lit (Value.int IntKind.i64 (accN v (dcell T n h w c i) k)))
  (AV.lit (Value.int IntKind.i64 (accN v (dcell T n h w c i) (k + 1)))),
                Weak (AV.lit (Value.int IntKind.i64 ((↑k : Int) + 1))) (AV.lit (Value.int IntKind.i64 (↑(k + 1) : Int)))]) (by kernel_rfl) ?_
          exact ⟨(by (refine decide_eq_true ?_; omega)),
                          (by exact IntWalk.i64_in _ (by omega)),
                          (by exact IntWalk.i64_in _ (by omega)),
                          (by exact IntWalk.i64_in _ (by omega)),
                          (by exact IntWalk.i64_in _ (by omega)),
                          (by exact IntWalk.i64_in _ (by omega)),
                          (by exact IntWalk.i64_in _ (by omega)),
                          (by with_reducible assumption),
                          (by with_reducible assumption),
                          (by with_reducible assumption),
                          (by with_reducible assumption),
                          (by with_reducible assumption),
                          (by with_reducible assumption),
                          (by with_reducible assumption),
                          (by with_reducible assumption),
                          (by with_reducible assumption),
                          (by with_reducible assumption),
                          (by with_reducible assumption),
                          (by with_reducible assumption),
                          (by with_reducible assumption),
                          (by with_reducible assumption),
                          (by with_reducible assumption),
                          (by with_reducible assumption),
                          (by exact IntWalk.i64_in _ (by omega)),
                          (Weak.int (show ((accN v (dcell T n h w c i) k) : Int) = (accN v (dcell T n h w c i) (k + 1)) from (by (rw [accN, dcell, if_neg (by omega)]; omega)))),
                          (Weak.int (show (((↑k : Int) + 1) : Int) = ((↑(k + 1) : Int)) from (by omega))),
                          trivial⟩
      · have gc2 : ¬w * n.ns + (↑k : Int) - n.np ≥ 0 := of_decide_eq_false hc2
        refine VT.run (W := [.r [] [], .br true, .r [] [PI.n (h * n.ns),
 PI.n (h * n.ns + i),
 PI.n (h * n.ns + i - n.np),
 PI.n (w * n.ns),
 PI.n (w * n.ns + (↑k : Int)),
 PI.n
   (w * n.ns + (↑k : Int) -
     n.np)], .r [] [PI.br true,
 PI.br true,
 PI.br true,
 PI.br true,
 PI.br true,
 PI.br true,
 PI.br true,
 PI.br true,
 PI.br true,
 PI.br false,
 PI.br false,
 PI.br false,
 PI.br false,
 PI.br false,
 PI.br false], .br false, .r [] [PI.n ((↑k : Int) + 1)]]) (G := [GI.any
    [14, 15, 28, 29, 30, 31, 32, 33, 34, 35, 36, 37, 38, 39, 40, 41, 42, 43, 44, 45, 46, 47, 48, 49, 50, 51, 52, 53, 54,
      55, 56, 57, 58, 59, 60, 61, 62, 63, 64, 65, 66, 67, 68, 69, 70, 71],
  GI.weak 11 (AV.lit (Value.int IntKind.i64 (accN v (dcell T n h w c i) (k + 1)))),
  GI.weak 13 (AV.lit (Value.int IntKind.i64 (↑(k + 1) : Int))), GI.sort])
          (ob := [decide ((↑k : Int) < n.nk) = true,
              IntKind.i64.wrap (h * n.ns) = h * n.ns,
              IntKind.i64.wrap (h * n.ns + i) = h * n.ns + i,
              IntKind.i64.wrap (h * n.ns + i - n.np) = h * n.ns + i - n.np,
              IntKind.i64.wrap (w * n.ns) = w * n.ns,
              IntKind.i64.wrap (w * n.ns + (↑k : Int)) = w * n.ns + (↑k : Int),
              IntKind.i64.wrap (w * n.ns + (↑k : Int) - n.np) = w * n.ns + (↑k : Int) - n.np,
              decide (h * n.ns + i - n.np ≥ 0) = true,
              decide (h * n.ns + i - n.np ≥ 0) = true,
              decide (h * n.ns + i - n.np ≥ 0) = true,
              decide (h * n.ns + i - n.np ≥ 0) = true,
              decide (h * n.ns + i - n.np ≥ 0) = true,
              decide (h * n.ns + i - n.np ≥ 0) = true,
              decide (h * n.ns + i - n.np < T.h) = true,
              decide (h * n.ns + i - n.np < T.h) = true,
              decide (h * n.ns + i - n.np < T.h) = true,
              decide (w * n.ns + (↑k : Int) - n.np ≥ 0) = !true,
              decide (w * n.ns + (↑k : Int) - n.np ≥ 0) = !true,
              decide (w * n.ns + (↑k : Int) - n.np ≥ 0) = !true,
              decide (w * n.ns + (↑k : Int) - n.np ≥ 0) = !true,
              decide (w * n.ns + (↑k : Int) - n.np ≥ 0) = !true,
              decide (w * n.ns + (↑k : Int) - n.np ≥ 0) = false,
              false = false,
              IntKind.i64.wrap ((↑k : Int) + 1) = (↑k : Int) + 1,
              Weak (AV.lit (Value.int IntKind.i64 (accN v (dcell T n h w c i) k)))
  (AV.lit (Value.int IntKind.i64 (accN v (dcell T n h w c i) (k + 1)))),
              Weak (AV.lit (Value.int IntKind.i64 ((↑k : Int) + 1))) (AV.lit (Value.int IntKind.i64 (↑(k + 1) : Int)))]) (by kernel_rfl) ?_
        exact ⟨(by (refine decide_eq_true ?_; omega)),
                      (by exact IntWalk.i64_in _ (by omega)),
                      (by exact IntWalk.i64_in _ (by omega)),
                      (by exact IntWalk.i64_in _ (by omega)),
                      (by exact IntWalk.i64_in _ (by omega)),
                      (by exact IntWalk.i64_in _ (by omega)),
                      (by exact IntWalk.i64_in _ (by omega)),
                      (by with_reducible assumption),
                      (by with_reducible assumption),
                      (by with_reducible assumption),
                      (by with_reducible assumption),
                      (by with_reducible assumption),
                      (by with_reducible assumption),
                      (by with_reducible assumption),
                      (by with_reducible assumption),
                      (by with_reducible assumption),
                      (by (refine decide_eq_false ?_; omega)),
                      (by (refine decide_eq_false ?_; omega)),
                      (by (refine decide_eq_false ?_; omega)),
                      (by (refine decide_eq_false ?_; omega)),
                      (by (refine decide_eq_false ?_; omega)),
                      (by with_reducible assumption),
                      (by with_reducible rfl),
                      (by exact IntWalk.i64_in _ (by omega)),
                      (Weak.int (show ((accN v (dcell T n h w c i) k) : Int) = (accN v (dcell T n h w c i) (k + 1)) from (by (rw [accN, dcell, if_neg (by omega)]; omega)))),
                      (Weak.int (show (((↑k : Int) + 1) : Int) = ((↑(k + 1) : Int)) from (by omega))),
                      trivial⟩
    · have gc1 : ¬h * n.ns + i - n.np < T.h := of_decide_eq_false hc1
      refine VT.run (W := [.r [] [], .br true, .r [] [PI.n (h * n.ns),
 PI.n (h * n.ns + i),
 PI.n (h * n.ns + i - n.np),
 PI.n (w * n.ns),
 PI.n (w * n.ns + (↑k : Int)),
 PI.n
   (w * n.ns + (↑k : Int) -
     n.np)], .r [] [PI.br true,
 PI.br true,
 PI.br true,
 PI.br true,
 PI.br true,
 PI.br true,
 PI.br false,
 PI.br false,
 PI.br false,
 PI.br false,
 PI.br false,
 PI.br false,
 PI.br false,
 PI.br false,
 PI.br false], .br false, .r [] [PI.n ((↑k : Int) + 1)]]) (G := [GI.any
    [14, 15, 28, 29, 30, 31, 32, 33, 34, 35, 36, 37, 38, 39, 40, 41, 42, 43, 44, 45, 46, 47, 48, 49, 50, 51, 52, 53, 54,
      55, 56, 57, 58, 59, 60, 61, 62, 63, 64, 65, 66, 67, 68, 69, 70, 71],
  GI.weak 11 (AV.lit (Value.int IntKind.i64 (accN v (dcell T n h w c i) (k + 1)))),
  GI.weak 13 (AV.lit (Value.int IntKind.i64 (↑(k + 1) : Int))), GI.sort])
        (ob := [decide ((↑k : Int) < n.nk) = true,
            IntKind.i64.wrap (h * n.ns) = h * n.ns,
            IntKind.i64.wrap (h * n.ns + i) = h * n.ns + i,
            IntKind.i64.wrap (h * n.ns + i - n.np) = h * n.ns + i - n.np,
            IntKind.i64.wrap (w * n.ns) = w * n.ns,
            IntKind.i64.wrap (w * n.ns + (↑k : Int)) = w * n.ns + (↑k : Int),
            IntKind.i64.wrap (w * n.ns + (↑k : Int) - n.np) = w * n.ns + (↑k : Int) - n.np,
            decide (h * n.ns + i - n.np ≥ 0) = true,
            decide (h * n.ns + i - n.np ≥ 0) = true,
            decide (h * n.ns + i - n.np ≥ 0) = true,
            decide (h * n.ns + i - n.np ≥ 0) = true,
            decide (h * n.ns + i - n.np ≥ 0) = true,
            decide (h * n.ns + i - n.np ≥ 0) = true,
            decide (h * n.ns + i - n.np < T.h) = !true,
            decide (h * n.ns + i - n.np < T.h) = !true,
            decide (h * n.ns + i - n.np < T.h) = false,
            false = !true,
            false = !true,
            false = !true,
            false = !true,
            false = !true,
            false = false,
            false = false,
            IntKind.i64.wrap ((↑k : Int) + 1) = (↑k : Int) + 1,
            Weak (AV.lit (Value.int IntKind.i64 (accN v (dcell T n h w c i) k)))
  (AV.lit (Value.int IntKind.i64 (accN v (dcell T n h w c i) (k + 1)))),
            Weak (AV.lit (Value.int IntKind.i64 ((↑k : Int) + 1))) (AV.lit (Value.int IntKind.i64 (↑(k + 1) : Int)))]) (by kernel_rfl) ?_
      exact ⟨(by (refine decide_eq_true ?_; omega)),
                  (by exact IntWalk.i64_in _ (by omega)),
                  (by exact IntWalk.i64_in _ (by omega)),
                  (by exact IntWalk.i64_in _ (by omega)),
                  (by exact IntWalk.i64_in _ (by omega)),
                  (by exact IntWalk.i64_in _ (by omega)),
                  (by exact IntWalk.i64_in _ (by omega)),
                  (by with_reducible assumption),
                  (by with_reducible assumption),
                  (by with_reducible assumption),
                  (by with_reducible assumption),
                  (by with_reducible assumption),
                  (by with_reducible assumption),
                  (by (refine decide_eq_false ?_; omega)),
                  (by (refine decide_eq_false ?_; omega)),
                  (by with_reducible assumption),
                  (by (simp; done)),
                  (by (simp; done)),
                  (by (simp; done)),
                  (by (simp; done)),
                  (by (simp; done)),
                  (by with_reducible rfl),
                  (by with_reducible rfl),
                  (by exact IntWalk.i64_in _ (by omega)),
                  (Weak.int (show ((accN v (dcell T n h w c i) k) : Int) = (accN v (dcell T n h w c i) (k + 1)) from (by (rw [accN, dcell, if_neg (by omega)]; omega)))),
                  (Weak.int (show (((↑k : Int) + 1) : Int) = ((↑(k + 1) : Int)) from (by omega))),
                  trivial⟩
  · have gc0 : ¬h * n.ns + i - n.np ≥ 0 := of_decide_eq_false hc0
    refine VT.run (W := [.r [] [], .br true, .r [] [PI.n (h * n.ns),
 PI.n (h * n.ns + i),
 PI.n (h * n.ns + i - n.np),
 PI.n (w * n.ns),
 PI.n (w * n.ns + (↑k : Int)),
 PI.n
   (w * n.ns + (↑k : Int) -
     n.np)], .r [] [PI.br false,
 PI.br false,
 PI.br false,
 PI.br false,
 PI.br false,
 PI.br false,
 PI.br false,
 PI.br false,
 PI.br false,
 PI.br false,
 PI.br false,
 PI.br false,
 PI.br false,
 PI.br false,
 PI.br false], .br false, .r [] [PI.n ((↑k : Int) + 1)]]) (G := [GI.any
    [14, 15, 28, 29, 30, 31, 32, 33, 34, 35, 36, 37, 38, 39, 40, 41, 42, 43, 44, 45, 46, 47, 48, 49, 50, 51, 52, 53, 54,
      55, 56, 57, 58, 59, 60, 61, 62, 63, 64, 65, 66, 67, 68, 69, 70, 71],
  GI.weak 11 (AV.lit (Value.int IntKind.i64 (accN v (dcell T n h w c i) (k + 1)))),
  GI.weak 13 (AV.lit (Value.int IntKind.i64 (↑(k + 1) : Int))), GI.sort])
      (ob := [decide ((↑k : Int) < n.nk) = true,
          IntKind.i64.wrap (h * n.ns) = h * n.ns,
          IntKind.i64.wrap (h * n.ns + i) = h * n.ns + i,
          IntKind.i64.wrap (h * n.ns + i - n.np) = h * n.ns + i - n.np,
          IntKind.i64.wrap (w * n.ns) = w * n.ns,
          IntKind.i64.wrap (w * n.ns + (↑k : Int)) = w * n.ns + (↑k : Int),
          IntKind.i64.wrap (w * n.ns + (↑k : Int) - n.np) = w * n.ns + (↑k : Int) - n.np,
          decide (h * n.ns + i - n.np ≥ 0) = !true,
          decide (h * n.ns + i - n.np ≥ 0) = !true,
          decide (h * n.ns + i - n.np ≥ 0) = !true,
          decide (h * n.ns + i - n.np ≥ 0) = !true,
          decide (h * n.ns + i - n.np ≥ 0) = !true,
          decide (h * n.ns + i - n.np ≥ 0) = false,
          false = !true,
          false = !true,
          false = false,
          false = !true,
          false = !true,
          false = !true,
          false = !true,
          false = !true,
          false = false,
          false = false,
          IntKind.i64.wrap ((↑k : Int) + 1) = (↑k : Int) + 1,
          Weak (AV.lit (Value.int IntKind.i64 (accN v (dcell T n h w c i) k)))
  (AV.lit (Value.int IntKind.i64 (accN v (dcell T n h w c i) (k + 1)))),
          Weak (AV.lit (Value.int IntKind.i64 ((↑k : Int) + 1))) (AV.lit (Value.int IntKind.i64 (↑(k + 1) : Int)))]) (by kernel_rfl) ?_
    exact ⟨(by (refine decide_eq_true ?_; omega)),
              (by exact IntWalk.i64_in _ (by omega)),
              (by exact IntWalk.i64_in _ (by omega)),
              (by exact IntWalk.i64_in _ (by omega)),
              (by exact IntWalk.i64_in _ (by omega)),
              (by exact IntWalk.i64_in _ (by omega)),
              (by exact IntWalk.i64_in _ (by omega)),
              (by (refine decide_eq_false ?_; omega)),
              (by (refine decide_eq_false ?_; omega)),
              (by (refine decide_eq_false ?_; omega)),
              (by (refine decide_eq_false ?_; omega)),
              (by (refine decide_eq_false ?_; omega)),
              (by with_reducible assumption),
              (by (simp; done)),
              (by (simp; done)),
              (by with_reducible rfl),
              (by (simp; done)),
              (by (simp; done)),
              (by (simp; done)),
              (by (simp; done)),
              (by (simp; done)),
              (by with_reducible rfl),
              (by with_reducible rfl),
              (by exact IntWalk.i64_in _ (by omega)),
              (Weak.int (show ((accN v (dcell T n h w c i) k) : Int) = (accN v (dcell T n h w c i) (k + 1)) from (by (rw [accN, dcell, if_neg (by omega)]; omega)))),
              (Weak.int (show (((↑k : Int) + 1) : Int) = ((↑(k + 1) : Int)) from (by omega))),
              trivial⟩
set_option maxRecDepth 100000 in
set_option maxHeartbeats 2000000 in
theorem rdSum_j_e (T : Ten) (n : Nod) (h w c i v : Int) (ok : DpOk T n) (h0 : 0 ≤ h) (h1 : h ≤ 1000) (w0 : 0 ≤ w) (w1 : w ≤ 1000) (c0 : 0 ≤ c) (c1 : c < T.c) (i0 : 0 ≤ i) (i1 : i < n.nk) (v0 : -100000000000 ≤ v) (v1 : v ≤ 100000000000) : VT Try.prog (fnC Try.f71 [1, 1, 0, 1, 0, 0, 1, 0, 0, 1, 0, 0]) (rdSum_j_I T n h w c i v (n.nk.toNat)) (.exit 2) (rdSum_j_Z T n h w c i v) := by
  have g1 := ok.n.k1
  refine VT.run (W := [.r [] [], .br false]) (G := [GI.any [28, 29, 30, 31], GI.sort])
    (ob := [decide ((↑n.nk.toNat : Int) < n.nk) = false]) (by kernel_rfl) ?_
  exact ⟨(by (refine decide_eq_false ?_; omega)),
          trivial⟩
theorem rdSum_j (T : Ten) (n : Nod) (h w c i v : Int) (ok : DpOk T n) (h0 : 0 ≤ h) (h1 : h ≤ 1000) (w0 : 0 ≤ w) (w1 : w ≤ 1000) (c0 : 0 ≤ c) (c1 : c < T.c) (i0 : 0 ≤ i) (i1 : i < n.nk) (v0 : -100000000000 ≤ v) (v1 : v ≤ 100000000000) : VT Try.prog (fnC Try.f71 [1, 1, 0, 1, 0, 0, 1, 0, 0, 1, 0]) (rdSum_j_I T n h w c i v 0) (.exit 2) (rdSum_j_Z T n h w c i v) :=
  VT.loop (fun k => rdSum_j_I T n h w c i v k) (n.nk.toNat) (fun k hk => rdSum_j_s T n h w c i v ok h0 h1 w0 w1 c0 c1 i0 i1 v0 v1 k hk) (rdSum_j_e T n h w c i v ok h0 h1 w0 w1 c0 c1 i0 i1 v0 v1) (by intro h; cases h)

noncomputable def rdSum_i_I (T : Ten) (n : Nod) (h w c : Int) (k : Nat) : VS := stt 102 [(2, i64 h), (3, i64 w), (4, i64 c), (5, .ptr 5 0 0), (6, .ptr 6 0 0), (11, i64 (accN (n.b.getD c.toNat 0) (drow T n h w c) k)), (12, i64 k)] [(5, .var [i64 T.h, i64 T.x, i64 T.c, ints .i8 T.d]), (6, .var (nodC n))]
noncomputable def rdSum_i_Z (T : Ten) (n : Nod) (h w c : Int) : VS := rdSum_i_I T n h w c (n.nk.toNat)
set_option maxRecDepth 100000 in
set_option maxHeartbeats 2000000 in
theorem rdSum_i_s (T : Ten) (n : Nod) (h w c : Int) (ok : DpOk T n) (h0 : 0 ≤ h) (h1 : h ≤ 1000) (w0 : 0 ≤ w) (w1 : w ≤ 1000) (c0 : 0 ≤ c) (c1 : c < T.c) (k : Nat) (hk : k < n.nk.toNat) : VT Try.prog (fnC Try.f71 [1, 1, 0, 1, 0, 0]) (rdSum_i_I T n h w c k) .normal (rdSum_i_I T n h w c (k + 1)) := by
  have nn := ok.n
  have g1 := nn.k1
  have g2 := nn.k5
  have g3 := gt32 ok.okn.b c.toNat
  have g4 := accN_eq (n.b.getD c.toNat 0) (drow T n h w c) k
  have g5 := sumN_bd (B := 163200) (f := drow T n h w c) k fun i _ => drow_bd ok _ _ _ i
  refine VT.run (W := [.r [] [], .br true, .r [] [], .code [GI.any [22, 23, 24, 25],
  GI.weak 13 (AV.lit (Value.int IntKind.i64 (↑0 : Int))),
  GI.sort] (Exit.exit
  2) (VS.mk
  [AV.any, AV.any, AV.lit (Value.int IntKind.i64 h), AV.lit (Value.int IntKind.i64 w), AV.lit (Value.int IntKind.i64 c),
    AV.ptr 5 0 0, AV.ptr 6 0 0, AV.any, AV.any, AV.any, AV.any,
    AV.lit
      (Value.int IntKind.i64
        (accN (accN (n.b.getD c.toNat 0) (drow T n h w c) k) (dcell T n h w c (↑k : Int)) n.nk.toNat)),
    AV.lit (Value.int IntKind.i64 (↑k : Int)), AV.lit (Value.int IntKind.i64 (↑n.nk.toNat : Int)), AV.any, AV.any,
    AV.any, AV.any, AV.any, AV.any, AV.any, AV.any, AV.any, AV.any, AV.any, AV.any, AV.any, AV.any, AV.any, AV.any,
    AV.any, AV.any, AV.any, AV.any, AV.any, AV.any, AV.any, AV.any, AV.any, AV.any, AV.any, AV.any, AV.any, AV.any,
    AV.any, AV.any, AV.any, AV.any, AV.any, AV.any, AV.any, AV.any, AV.any, AV.any, AV.any, AV.any, AV.any, AV.any,
    AV.any, AV.any, AV.any, AV.any, AV.any, AV.any, AV.any, AV.any, AV.any, AV.any, AV.any, AV.any, AV.any, AV.any,
    AV.any, AV.any, AV.any, AV.any, AV.any, AV.any, AV.any, AV.any, AV.any, AV.any, AV.any, AV.any, AV.any, AV.any,
    AV.any, AV.any, AV.any, AV.any, AV.any, AV.any, AV.any, AV.any, AV.any, AV.any, AV.any, AV.any, AV.any, AV.any,
    AV.any, AV.any]
  [(5,
      Blk.var
        [AV.lit (Value.int IntKind.i64 T.h), AV.lit (Value.int IntKind.i64 T.x), AV.lit (Value.int IntKind.i64 T.c),
          AV.sl 1 (List.map (row1 IntKind.i8) T.d)]),
    (6,
      Blk.var
        [AV.lit (Value.int IntKind.i64 n.kd), AV.lit (Value.int IntKind.i64 n.na), AV.lit (Value.int IntKind.i64 n.nb),
          AV.lit (Value.int IntKind.i64 n.nk), AV.lit (Value.int IntKind.i64 n.ns), AV.lit (Value.int IntKind.i64 n.np),
          AV.lit (Value.int IntKind.i64 n.no), AV.lit (Value.int IntKind.i8 n.za), AV.lit (Value.int IntKind.i8 n.zb),
          AV.sl 1 (List.map (row1 IntKind.i8) n.w), AV.sl 1 (List.map (row1 IntKind.i32) n.b),
          AV.lit (Value.int IntKind.i32 n.qm), AV.lit (Value.int IntKind.i64 n.qs), AV.lit (Value.int IntKind.i8 n.qz),
          AV.lit (Value.int IntKind.i32 n.rm), AV.lit (Value.int IntKind.i64 n.rs), AV.lit (Value.int IntKind.i8 n.rz),
          AV.lit (Value.int IntKind.i8 n.lo), AV.lit (Value.int IntKind.i8 n.hi)])]), .r [] [PI.n ((↑k : Int) + 1)]]) (G := [GI.any [13, 26, 27],
  GI.weak 11 (AV.lit (Value.int IntKind.i64 (accN (n.b.getD c.toNat 0) (drow T n h w c) (k + 1)))),
  GI.weak 12 (AV.lit (Value.int IntKind.i64 (↑(k + 1) : Int))), GI.sort])
    (ob := [decide ((↑k : Int) < n.nk) = true,
        Weak (AV.lit (Value.int IntKind.i64 0)) (AV.lit (Value.int IntKind.i64 (↑0 : Int))),
        VT Try.prog (fnC Try.f71 [1, 1, 0, 1, 0, 0, 1, 0, 0, 1, 0])
  (VS.mk
        [AV.any, AV.any, AV.lit (Value.int IntKind.i64 h), AV.lit (Value.int IntKind.i64 w),
          AV.lit (Value.int IntKind.i64 c), AV.ptr 5 0 0, AV.ptr 6 0 0, AV.any, AV.any, AV.any, AV.any,
          AV.lit (Value.int IntKind.i64 (accN (n.b.getD c.toNat 0) (drow T n h w c) k)),
          AV.lit (Value.int IntKind.i64 (↑k : Int)), AV.lit (Value.int IntKind.i64 (↑0 : Int)), AV.any, AV.any, AV.any,
          AV.any, AV.any, AV.any, AV.any, AV.any, AV.any, AV.any, AV.any, AV.any, AV.any, AV.any, AV.any, AV.any, AV.any,
          AV.any, AV.any, AV.any, AV.any, AV.any, AV.any, AV.any, AV.any, AV.any, AV.any, AV.any, AV.any, AV.any, AV.any,
          AV.any, AV.any, AV.any, AV.any, AV.any, AV.any, AV.any, AV.any, AV.any, AV.any, AV.any, AV.any, AV.any, AV.any,
          AV.any, AV.any, AV.any, AV.any, AV.any, AV.any, AV.any, AV.any, AV.any, AV.any, AV.any, AV.any, AV.any, AV.any,
          AV.any, AV.any, AV.any, AV.any, AV.any, AV.any, AV.any, AV.any, AV.any, AV.any, AV.any, AV.any, AV.any, AV.any,
          AV.any, AV.any, AV.any, AV.any, AV.any, AV.any, AV.any, AV.any, AV.any, AV.any, AV.any, AV.any, AV.any, AV.any,
          AV.any]
        [(5,
            Blk.var
              [AV.lit (Value.int IntKind.i64 T.h), AV.lit (Value.int IntKind.i64 T.x), AV.lit (Value.int IntKind.i64 T.c),
                AV.sl 1 (List.map (row1 IntKind.i8) T.d)]),
          (6,
            Blk.var
              [AV.lit (Value.int IntKind.i64 n.kd), AV.lit (Value.int IntKind.i64 n.na),
                AV.lit (Value.int IntKind.i64 n.nb), AV.lit (Value.int IntKind.i64 n.nk),
                AV.lit (Value.int IntKind.i64 n.ns), AV.lit (Value.int IntKind.i64 n.np),
                AV.lit (Value.int IntKind.i64 n.no), AV.lit (Value.int IntKind.i8 n.za), AV.lit (Value.int IntKind.i8 n.zb),
                AV.sl 1 (List.map (row1 IntKind.i8) n.w), AV.sl 1 (List.map (row1 IntKind.i32) n.b),
                AV.lit (Value.int IntKind.i32 n.qm), AV.lit (Value.int IntKind.i64 n.qs),
                AV.lit (Value.int IntKind.i8 n.qz), AV.lit (Value.int IntKind.i32 n.rm),
                AV.lit (Value.int IntKind.i64 n.rs), AV.lit (Value.int IntKind.i8 n.rz), AV.lit (Value.int IntKind.i8 n.lo),
                AV.lit (Value.int IntKind.i8 n.hi)])])
  (Exit.exit 2)
  (VS.mk
        [AV.any, AV.any, AV.lit (Value.int IntKind.i64 h), AV.lit (Value.int IntKind.i64 w),
          AV.lit (Value.int IntKind.i64 c), AV.ptr 5 0 0, AV.ptr 6 0 0, AV.any, AV.any, AV.any, AV.any,
          AV.lit
            (Value.int IntKind.i64
              (accN (accN (n.b.getD c.toNat 0) (drow T n h w c) k) (dcell T n h w c (↑k : Int)) n.nk.toNat)),
          AV.lit (Value.int IntKind.i64 (↑k : Int)), AV.lit (Value.int IntKind.i64 (↑n.nk.toNat : Int)), AV.any, AV.any,
          AV.any, AV.any, AV.any, AV.any, AV.any, AV.any, AV.any, AV.any, AV.any, AV.any, AV.any, AV.any, AV.any, AV.any,
          AV.any, AV.any, AV.any, AV.any, AV.any, AV.any, AV.any, AV.any, AV.any, AV.any, AV.any, AV.any, AV.any, AV.any,
          AV.any, AV.any, AV.any, AV.any, AV.any, AV.any, AV.any, AV.any, AV.any, AV.any, AV.any, AV.any, AV.any, AV.any,
          AV.any, AV.any, AV.any, AV.any, AV.any, AV.any, AV.any, AV.any, AV.any, AV.any, AV.any, AV.any, AV.any, AV.any,
          AV.any, AV.any, AV.any, AV.any, AV.any, AV.any, AV.any, AV.any, AV.any, AV.any, AV.any, AV.any, AV.any, AV.any,
          AV.any, AV.any, AV.any, AV.any, AV.any, AV.any, AV.any, AV.any, AV.any, AV.any, AV.any, AV.any, AV.any, AV.any,
          AV.any, AV.any]
        [(5,
            Blk.var
              [AV.lit (Value.int IntKind.i64 T.h), AV.lit (Value.int IntKind.i64 T.x), AV.lit (Value.int IntKind.i64 T.c),
                AV.sl 1 (List.map (row1 IntKind.i8) T.d)]),
          (6,
            Blk.var
              [AV.lit (Value.int IntKind.i64 n.kd), AV.lit (Value.int IntKind.i64 n.na),
                AV.lit (Value.int IntKind.i64 n.nb), AV.lit (Value.int IntKind.i64 n.nk),
                AV.lit (Value.int IntKind.i64 n.ns), AV.lit (Value.int IntKind.i64 n.np),
                AV.lit (Value.int IntKind.i64 n.no), AV.lit (Value.int IntKind.i8 n.za), AV.lit (Value.int IntKind.i8 n.zb),
                AV.sl 1 (List.map (row1 IntKind.i8) n.w), AV.sl 1 (List.map (row1 IntKind.i32) n.b),
                AV.lit (Value.int IntKind.i32 n.qm), AV.lit (Value.int IntKind.i64 n.qs),
                AV.lit (Value.int IntKind.i8 n.qz), AV.lit (Value.int IntKind.i32 n.rm),
                AV.lit (Value.int IntKind.i64 n.rs), AV.lit (Value.int IntKind.i8 n.rz), AV.lit (Value.int IntKind.i8 n.lo),
                AV.lit (Value.int IntKind.i8 n.hi)])]),
        IntKind.i64.wrap ((↑k : Int) + 1) = (↑k : Int) + 1,
        Weak
  (AV.lit
        (Value.int IntKind.i64
          (accN (accN (n.b.getD c.toNat 0) (drow T n h w c) k) (dcell T n h w c (↑k : Int)) n.nk.toNat)))
  (AV.lit (Value.int IntKind.i64 (accN (n.b.getD c.toNat 0) (drow T n h w c) (k + 1)))),
        Weak (AV.lit (Value.int IntKind.i64 ((↑k : Int) + 1))) (AV.lit (Value.int IntKind.i64 (↑(k + 1) : Int)))]) (by kernel_rfl) ?_
  exact ⟨(by (refine decide_eq_true ?_; omega)),
          (Weak.int (show ((0) : Int) = ((↑0 : Int)) from (by omega))),
          (@rdSum_j (T) (n) (h) (w) (c) ((↑k :
    Int)) (accN (n.b.getD c.toNat 0) (drow T n h w c)
    k) (by with_reducible assumption) (by with_reducible assumption) (by with_reducible assumption) (by with_reducible assumption) (by with_reducible assumption) (by with_reducible assumption) (by with_reducible assumption) (by omega) (by omega) (by omega) (by omega)),
          (by exact IntWalk.i64_in _ (by omega)),
          (Weak.int (show ((accN (accN (n.b.getD c.toNat 0) (drow T n h w c) k) (dcell T n h w c (↑k : Int))
    n.nk.toNat) : Int) = (accN (n.b.getD c.toNat 0) (drow T n h w c) (k + 1)) from (by (rw [accN, drow, accN_eq])))),
          (Weak.int (show (((↑k : Int) + 1) : Int) = ((↑(k + 1) : Int)) from (by omega))),
          trivial⟩
set_option maxRecDepth 100000 in
set_option maxHeartbeats 2000000 in
theorem rdSum_i_e (T : Ten) (n : Nod) (h w c : Int) (ok : DpOk T n) (h0 : 0 ≤ h) (h1 : h ≤ 1000) (w0 : 0 ≤ w) (w1 : w ≤ 1000) (c0 : 0 ≤ c) (c1 : c < T.c) : VT Try.prog (fnC Try.f71 [1, 1, 0, 1, 0, 0]) (rdSum_i_I T n h w c (n.nk.toNat)) (.exit 0) (rdSum_i_Z T n h w c) := by
  have nn := ok.n
  have g1 := nn.k1
  refine VT.run (W := [.r [] [], .br false]) (G := [GI.any [22, 23, 24, 25], GI.sort])
    (ob := [decide ((↑n.nk.toNat : Int) < n.nk) = false]) (by kernel_rfl) ?_
  exact ⟨(by (refine decide_eq_false ?_; omega)),
          trivial⟩
theorem rdSum_i (T : Ten) (n : Nod) (h w c : Int) (ok : DpOk T n) (h0 : 0 ≤ h) (h1 : h ≤ 1000) (w0 : 0 ≤ w) (w1 : w ≤ 1000) (c0 : 0 ≤ c) (c1 : c < T.c) : VT Try.prog (fnC Try.f71 [1, 1, 0, 1, 0]) (rdSum_i_I T n h w c 0) (.exit 0) (rdSum_i_Z T n h w c) :=
  VT.loop (fun k => rdSum_i_I T n h w c k) (n.nk.toNat) (fun k hk => rdSum_i_s T n h w c ok h0 h1 w0 w1 c0 c1 k hk) (rdSum_i_e T n h w c ok h0 h1 w0 w1 c0 c1) (by intro h; cases h)

set_option maxRecDepth 100000 in
set_option maxHeartbeats 2000000 in
theorem rdSum_v (T : Ten) (n : Nod) (h w c : Int) (ok : DpOk T n) (h0 : 0 ≤ h) (h1 : h ≤ 1000) (w0 : 0 ≤ w) (w1 : w ≤ 1000) (c0 : 0 ≤ c) (c1 : c < T.c) : VC Try.prog 71 ([ten .i8 T, nod n, i64 h, i64 w, i64 c]) (i64 (dE T n h w c)) := by
  have g1 := ok.n.bl
  have g3 := gt32 ok.okn.b c.toNat
  have hz : VC Try.prog 71 ([ten .i8 T, nod n, i64 h, i64 w, i64 c]) (AV.lit (Value.int IntKind.i64 (accN (n.b.getD c.toNat 0) (drow T n h w c) n.nk.toNat))) := by
    refine VC.run (fn := Try.f71) Try.func71 (W := [.r [] [], .r [] [PI.row [AV.lit (Value.int IntKind.i32 (n.b.getD c.toNat 0))],
 PI.n
   (n.b.getD c.toNat
     0)], .r [] [], .code [GI.any [0, 1, 10, 16, 17, 18, 19, 20, 21],
  GI.weak 11 (AV.lit (Value.int IntKind.i64 (accN (n.b.getD c.toNat 0) (drow T n h w c) 0))),
  GI.weak 12 (AV.lit (Value.int IntKind.i64 (↑0 : Int))),
  GI.sort] (Exit.exit
  0) (VS.mk
  [AV.any, AV.any, AV.lit (Value.int IntKind.i64 h), AV.lit (Value.int IntKind.i64 w), AV.lit (Value.int IntKind.i64 c),
    AV.ptr 5 0 0, AV.ptr 6 0 0, AV.any, AV.any, AV.any, AV.any,
    AV.lit (Value.int IntKind.i64 (accN (n.b.getD c.toNat 0) (drow T n h w c) n.nk.toNat)),
    AV.lit (Value.int IntKind.i64 (↑n.nk.toNat : Int)), AV.any, AV.any, AV.any, AV.any, AV.any, AV.any, AV.any, AV.any,
    AV.any, AV.any, AV.any, AV.any, AV.any, AV.any, AV.any, AV.any, AV.any, AV.any, AV.any, AV.any, AV.any, AV.any,
    AV.any, AV.any, AV.any, AV.any, AV.any, AV.any, AV.any, AV.any, AV.any, AV.any, AV.any, AV.any, AV.any, AV.any,
    AV.any, AV.any, AV.any, AV.any, AV.any, AV.any, AV.any, AV.any, AV.any, AV.any, AV.any, AV.any, AV.any, AV.any,
    AV.any, AV.any, AV.any, AV.any, AV.any, AV.any, AV.any, AV.any, AV.any, AV.any, AV.any, AV.any, AV.any, AV.any,
    AV.any, AV.any, AV.any, AV.any, AV.any, AV.any, AV.any, AV.any, AV.any, AV.any, AV.any, AV.any, AV.any, AV.any,
    AV.any, AV.any, AV.any, AV.any, AV.any, AV.any, AV.any, AV.any, AV.any, AV.any, AV.any]
  [(5,
      Blk.var
        [AV.lit (Value.int IntKind.i64 T.h), AV.lit (Value.int IntKind.i64 T.x), AV.lit (Value.int IntKind.i64 T.c),
          AV.sl 1 (List.map (row1 IntKind.i8) T.d)]),
    (6,
      Blk.var
        [AV.lit (Value.int IntKind.i64 n.kd), AV.lit (Value.int IntKind.i64 n.na), AV.lit (Value.int IntKind.i64 n.nb),
          AV.lit (Value.int IntKind.i64 n.nk), AV.lit (Value.int IntKind.i64 n.ns), AV.lit (Value.int IntKind.i64 n.np),
          AV.lit (Value.int IntKind.i64 n.no), AV.lit (Value.int IntKind.i8 n.za), AV.lit (Value.int IntKind.i8 n.zb),
          AV.sl 1 (List.map (row1 IntKind.i8) n.w), AV.sl 1 (List.map (row1 IntKind.i32) n.b),
          AV.lit (Value.int IntKind.i32 n.qm), AV.lit (Value.int IntKind.i64 n.qs), AV.lit (Value.int IntKind.i8 n.qz),
          AV.lit (Value.int IntKind.i32 n.rm), AV.lit (Value.int IntKind.i64 n.rs), AV.lit (Value.int IntKind.i8 n.rz),
          AV.lit (Value.int IntKind.i8 n.lo), AV.lit (Value.int IntKind.i8 n.hi)])]), .r [] []])
      (ob := [0 ≤ c,
        (List.map (row1 IntKind.i32) n.b)[c.toNat]? = some [AV.lit (Value.int IntKind.i32 (n.b.getD c.toNat 0))],
        IntKind.i64.wrap (n.b.getD c.toNat 0) = n.b.getD c.toNat 0,
        Weak (AV.lit (Value.int IntKind.i64 (n.b.getD c.toNat 0)))
  (AV.lit (Value.int IntKind.i64 (accN (n.b.getD c.toNat 0) (drow T n h w c) 0))),
        Weak (AV.lit (Value.int IntKind.i64 0)) (AV.lit (Value.int IntKind.i64 (↑0 : Int))),
        VT Try.prog (fnC Try.f71 [1, 1, 0, 1, 0])
  (VS.mk
        [AV.any, AV.any, AV.lit (Value.int IntKind.i64 h), AV.lit (Value.int IntKind.i64 w),
          AV.lit (Value.int IntKind.i64 c), AV.ptr 5 0 0, AV.ptr 6 0 0, AV.any, AV.any, AV.any, AV.any,
          AV.lit (Value.int IntKind.i64 (accN (n.b.getD c.toNat 0) (drow T n h w c) 0)),
          AV.lit (Value.int IntKind.i64 (↑0 : Int)), AV.any, AV.any, AV.any, AV.any, AV.any, AV.any, AV.any, AV.any, AV.any,
          AV.any, AV.any, AV.any, AV.any, AV.any, AV.any, AV.any, AV.any, AV.any, AV.any, AV.any, AV.any, AV.any, AV.any,
          AV.any, AV.any, AV.any, AV.any, AV.any, AV.any, AV.any, AV.any, AV.any, AV.any, AV.any, AV.any, AV.any, AV.any,
          AV.any, AV.any, AV.any, AV.any, AV.any, AV.any, AV.any, AV.any, AV.any, AV.any, AV.any, AV.any, AV.any, AV.any,
          AV.any, AV.any, AV.any, AV.any, AV.any, AV.any, AV.any, AV.any, AV.any, AV.any, AV.any, AV.any, AV.any, AV.any,
          AV.any, AV.any, AV.any, AV.any, AV.any, AV.any, AV.any, AV.any, AV.any, AV.any, AV.any, AV.any, AV.any, AV.any,
          AV.any, AV.any, AV.any, AV.any, AV.any, AV.any, AV.any, AV.any, AV.any, AV.any]
        [(5,
            Blk.var
              [AV.lit (Value.int IntKind.i64 T.h), AV.lit (Value.int IntKind.i64 T.x), AV.lit (Value.int IntKind.i64 T.c),
                AV.sl 1 (List.map (row1 IntKind.i8) T.d)]),
          (6,
            Blk.var
              [AV.lit (Value.int IntKind.i64 n.kd), AV.lit (Value.int IntKind.i64 n.na),
                AV.lit (Value.int IntKind.i64 n.nb), AV.lit (Value.int IntKind.i64 n.nk),
                AV.lit (Value.int IntKind.i64 n.ns), AV.lit (Value.int IntKind.i64 n.np),
                AV.lit (Value.int IntKind.i64 n.no), AV.lit (Value.int IntKind.i8 n.za), AV.lit (Value.int IntKind.i8 n.zb),
                AV.sl 1 (List.map (row1 IntKind.i8) n.w), AV.sl 1 (List.map (row1 IntKind.i32) n.b),
                AV.lit (Value.int IntKind.i32 n.qm), AV.lit (Value.int IntKind.i64 n.qs),
                AV.lit (Value.int IntKind.i8 n.qz), AV.lit (Value.int IntKind.i32 n.rm),
                AV.lit (Value.int IntKind.i64 n.rs), AV.lit (Value.int IntKind.i8 n.rz), AV.lit (Value.int IntKind.i8 n.lo),
                AV.lit (Value.int IntKind.i8 n.hi)])])
  (Exit.exit 0)
  (VS.mk
        [AV.any, AV.any, AV.lit (Value.int IntKind.i64 h), AV.lit (Value.int IntKind.i64 w),
          AV.lit (Value.int IntKind.i64 c), AV.ptr 5 0 0, AV.ptr 6 0 0, AV.any, AV.any, AV.any, AV.any,
          AV.lit (Value.int IntKind.i64 (accN (n.b.getD c.toNat 0) (drow T n h w c) n.nk.toNat)),
          AV.lit (Value.int IntKind.i64 (↑n.nk.toNat : Int)), AV.any, AV.any, AV.any, AV.any, AV.any, AV.any, AV.any,
          AV.any, AV.any, AV.any, AV.any, AV.any, AV.any, AV.any, AV.any, AV.any, AV.any, AV.any, AV.any, AV.any, AV.any,
          AV.any, AV.any, AV.any, AV.any, AV.any, AV.any, AV.any, AV.any, AV.any, AV.any, AV.any, AV.any, AV.any, AV.any,
          AV.any, AV.any, AV.any, AV.any, AV.any, AV.any, AV.any, AV.any, AV.any, AV.any, AV.any, AV.any, AV.any, AV.any,
          AV.any, AV.any, AV.any, AV.any, AV.any, AV.any, AV.any, AV.any, AV.any, AV.any, AV.any, AV.any, AV.any, AV.any,
          AV.any, AV.any, AV.any, AV.any, AV.any, AV.any, AV.any, AV.any, AV.any, AV.any, AV.any, AV.any, AV.any, AV.any,
          AV.any, AV.any, AV.any, AV.any, AV.any, AV.any, AV.any, AV.any, AV.any, AV.any, AV.any, AV.any]
        [(5,
            Blk.var
              [AV.lit (Value.int IntKind.i64 T.h), AV.lit (Value.int IntKind.i64 T.x), AV.lit (Value.int IntKind.i64 T.c),
                AV.sl 1 (List.map (row1 IntKind.i8) T.d)]),
          (6,
            Blk.var
              [AV.lit (Value.int IntKind.i64 n.kd), AV.lit (Value.int IntKind.i64 n.na),
                AV.lit (Value.int IntKind.i64 n.nb), AV.lit (Value.int IntKind.i64 n.nk),
                AV.lit (Value.int IntKind.i64 n.ns), AV.lit (Value.int IntKind.i64 n.np),
                AV.lit (Value.int IntKind.i64 n.no), AV.lit (Value.int IntKind.i8 n.za), AV.lit (Value.int IntKind.i8 n.zb),
                AV.sl 1 (List.map (row1 IntKind.i8) n.w), AV.sl 1 (List.map (row1 IntKind.i32) n.b),
                AV.lit (Value.int IntKind.i32 n.qm), AV.lit (Value.int IntKind.i64 n.qs),
                AV.lit (Value.int IntKind.i8 n.qz), AV.lit (Value.int IntKind.i32 n.rm),
                AV.lit (Value.int IntKind.i64 n.rs), AV.lit (Value.int IntKind.i8 n.rz), AV.lit (Value.int IntKind.i8 n.lo),
                AV.lit (Value.int IntKind.i8 n.hi)])])]) (by kernel_rfl) ?_
    exact ⟨(by with_reducible assumption),
            (map_at (row1 IntKind.i32) (0) (l := n.b) (i := c.toNat) (by omega)),
            (by exact IntWalk.i64_in _ (by omega)),
            (Weak.int (show ((n.b.getD c.toNat 0) : Int) = (accN (n.b.getD c.toNat 0) (drow T n h w c) 0) from (by rfl))),
            (Weak.int (show ((0) : Int) = ((↑0 : Int)) from (by omega))),
            (@rdSum_i (T) (n) (h) (w) (c) (by with_reducible assumption) (by with_reducible assumption) (by with_reducible assumption) (by with_reducible assumption) (by with_reducible assumption) (by with_reducible assumption) (by with_reducible assumption)),
            trivial⟩
  exact hz.weak (WeakL.refl _) (Weak.int (show ((accN (n.b.getD c.toNat 0) (drow T n h w c) n.nk.toNat) : Int) = (dE T n h w c) from (by rfl)))
/-- Lists that are laid by three loops. -/
def gO (f : Nat → Nat → Nat → Int) (h w o : Nat) : List Int := (List.range o).map (f h w)
def gW (f : Nat → Nat → Nat → Int) (m h : Nat) : Nat → List Int
  | 0 => []
  | w + 1 => gW f m h w ++ gO f h w m
def gH (f : Nat → Nat → Nat → Int) (m x : Nat) : Nat → List Int
  | 0 => []
  | h + 1 => gH f m x h ++ gW f m h x
theorem gO_len (f : Nat → Nat → Nat → Int) (h w o : Nat) : (gO f h w o).length = o := by simp [gO]
theorem gO_succ (f : Nat → Nat → Nat → Int) (h w o : Nat) : gO f h w (o + 1) = gO f h w o ++ [f h w o] := by simp [gO, List.range_succ]
theorem gW_len (f : Nat → Nat → Nat → Int) (m h : Nat) : ∀ w, (gW f m h w).length = w * m
  | 0 => by simp [gW]
  | w + 1 => by rw [gW, List.length_append, gW_len f m h w, gO_len, Nat.add_mul]; omega
theorem gH_len (f : Nat → Nat → Nat → Int) (m x : Nat) : ∀ h, (gH f m x h).length = h * (x * m)
  | 0 => by simp [gH]
  | h + 1 => by rw [gH, List.length_append, gH_len f m x h, gW_len, Nat.add_mul]; omega
theorem g_len {f : Nat → Nat → Nat → Int} {m x y h w : Nat} (hh : h < y) (hw : w < x) (b : y * (x * m) ≤ 2000) : (gH f m x h).length + (gW f m h w).length + m ≤ 4000 := by
  rw [gH_len, gW_len]
  have a2 : h * (x * m) ≤ y * (x * m) := Nat.mul_le_mul_right _ (by omega)
  have a3 : (w + 1) * m ≤ x * m := Nat.mul_le_mul_right _ (by omega)
  have a4 : 1 * (x * m) ≤ y * (x * m) := Nat.mul_le_mul_right _ (by omega)
  rw [Nat.add_mul] at a3
  omega
def dF (T : Ten) (n : Nod) (h w c : Nat) : Int := IntKind.i32.wrap (dE T n h w c)
theorem dN_bd {T : Ten} {n : Nod} (nn : DpN T n) : (depthE ⟨T.h, T.x, T.c⟩ n).1.h.toNat * ((depthE ⟨T.h, T.x, T.c⟩ n).1.x.toNat * T.c.toNat) ≤ 2000 := by
  have h1 := nn.he
  have h2 := nn.xe
  have h3 := nn.c1
  have h5 := nn.el
  have : (((depthE ⟨T.h, T.x, T.c⟩ n).1.h.toNat * ((depthE ⟨T.h, T.x, T.c⟩ n).1.x.toNat * T.c.toNat) : Nat) : Int) = (depthE ⟨T.h, T.x, T.c⟩ n).1.h * (depthE ⟨T.h, T.x, T.c⟩ n).1.x * T.c := by
    rw [Int.natCast_mul, Int.natCast_mul, Int.toNat_of_nonneg (by omega), Int.toNat_of_nonneg (by omega), Int.toNat_of_nonneg (by omega), Int.mul_assoc]
  omega
noncomputable def rdOf_o_I (T : Ten) (n : Nod) (h w : Nat) (k : Nat) : VS := stt 60 [(2, .ptr 2 0 0), (3, .ptr 3 0 0), (4, .ptr 4 0 0), (6, .ptr 6 0 0), (8, .ptr 8 0 0), (9, i64 h), (10, i64 w), (11, i64 k)] [(2, .var [i64 T.h, i64 T.x, i64 T.c, ints .i8 T.d]), (3, .var (nodC n)), (4, .var [i64 0, i64 0, i64 0, nilv]), (6, .var [i64 (depthE ⟨T.h, T.x, T.c⟩ n).1.h, i64 (depthE ⟨T.h, T.x, T.c⟩ n).1.x, i64 T.c]), (8, .var [i64 (depthE ⟨T.h, T.x, T.c⟩ n).1.h, i64 (depthE ⟨T.h, T.x, T.c⟩ n).1.x, i64 T.c, .own 900]), (900, .slc 21 1 ((gH (dF T n) T.c.toNat (depthE ⟨T.h, T.x, T.c⟩ n).1.x.toNat h ++ (gW (dF T n) T.c.toNat h w ++ gO (dF T n) h w k)).map (row1 .i32)))]
noncomputable def rdOf_o_Z (T : Ten) (n : Nod) (h w : Nat) : VS := rdOf_o_I T n h w (T.c.toNat)
set_option maxRecDepth 100000 in
set_option maxHeartbeats 2000000 in
theorem rdOf_o_s (T : Ten) (n : Nod) (h w : Nat) (ok : DpOk T n) (h1 : h < (depthE ⟨T.h, T.x, T.c⟩ n).1.h.toNat) (w1 : w < (depthE ⟨T.h, T.x, T.c⟩ n).1.x.toNat) (k : Nat) (hk : k < T.c.toNat) : VT Try.prog (fnC Try.f28 [1, 1, 1, 1, 1, 0, 1, 0, 0, 1, 0, 0, 1, 0, 0, 1, 0, 0, 1, 0, 0]) (rdOf_o_I T n h w k) .normal (rdOf_o_I T n h w (k + 1)) := by
  have nn := ok.n
  have g1 := nn.he
  have g2 := nn.xe
  have g3 := nn.sc
  have g4 := nn.c1
  have g5 := nn.c2
  have g6 := g_len (f := dF T n) h1 w1 (dN_bd nn)
  have g7 := gO_len (dF T n) h w k
  refine VT.run (W := [.r [] [], .br true, .r [] [PI.callr (i64 (dE T n (↑h : Int) (↑w : Int) (↑k : Int))),
 PI.w], .r [] [PI.n ((↑k : Int) + 1)]]) (G := [GI.any [41, 42, 43, 44, 45, 46, 47, 48, 49, 50, 51, 52, 53, 54, 55, 56, 57, 58], GI.drop [56], GI.ren 57 900,
  GI.weak 11 (AV.lit (Value.int IntKind.i64 (↑(k + 1) : Int))),
  GI.blk 900
    (Blk.slc 21 1
      (List.map (row1 IntKind.i32)
        (gH (dF T n) T.c.toNat (depthE (Shp.mk T.h T.x T.c) n).fst.x.toNat h ++
          (gW (dF T n) T.c.toNat h w ++ gO (dF T n) h w (k + 1))))),
  GI.sort])
    (ob := [decide ((↑k : Int) < T.c) = true,
        VC Try.prog 71
  [AV.agg
          [AV.lit (Value.int IntKind.i64 T.h), AV.lit (Value.int IntKind.i64 T.x), AV.lit (Value.int IntKind.i64 T.c),
            AV.sl 1 (List.map (row1 IntKind.i8) T.d)],
        AV.agg
          [AV.lit (Value.int IntKind.i64 n.kd), AV.lit (Value.int IntKind.i64 n.na), AV.lit (Value.int IntKind.i64 n.nb),
            AV.lit (Value.int IntKind.i64 n.nk), AV.lit (Value.int IntKind.i64 n.ns), AV.lit (Value.int IntKind.i64 n.np),
            AV.lit (Value.int IntKind.i64 n.no), AV.lit (Value.int IntKind.i8 n.za), AV.lit (Value.int IntKind.i8 n.zb),
            AV.sl 1 (List.map (row1 IntKind.i8) n.w), AV.sl 1 (List.map (row1 IntKind.i32) n.b),
            AV.lit (Value.int IntKind.i32 n.qm), AV.lit (Value.int IntKind.i64 n.qs), AV.lit (Value.int IntKind.i8 n.qz),
            AV.lit (Value.int IntKind.i32 n.rm), AV.lit (Value.int IntKind.i64 n.rs), AV.lit (Value.int IntKind.i8 n.rz),
            AV.lit (Value.int IntKind.i8 n.lo), AV.lit (Value.int IntKind.i8 n.hi)],
        AV.lit (Value.int IntKind.i64 (↑h : Int)), AV.lit (Value.int IntKind.i64 (↑w : Int)),
        AV.lit (Value.int IntKind.i64 (↑k : Int))]
  (AV.lit (Value.int IntKind.i64 (dE T n (↑h : Int) (↑w : Int) (↑k : Int)))),
        ((List.map (row1 IntKind.i32)
              (gH (dF T n) T.c.toNat (depthE (Shp.mk T.h T.x T.c) n).fst.x.toNat h ++
                (gW (dF T n) T.c.toNat h w ++ gO (dF T n) h w k))).length +
          1) *
        4 ≤
  140737488355328,
        (List.map (row1 IntKind.i32)
            (gH (dF T n) T.c.toNat (depthE (Shp.mk T.h T.x T.c) n).fst.x.toNat h ++
              (gW (dF T n) T.c.toNat h w ++ gO (dF T n) h w k))).length +
        1 ≤
  9223372036854775807,
        IntKind.i64.wrap ((↑k : Int) + 1) = (↑k : Int) + 1,
        Weak (AV.lit (Value.int IntKind.i64 ((↑k : Int) + 1))) (AV.lit (Value.int IntKind.i64 (↑(k + 1) : Int))),
        BlkW
  (Blk.slc 21 1
        (List.map (row1 IntKind.i32)
            (gH (dF T n) T.c.toNat (depthE (Shp.mk T.h T.x T.c) n).fst.x.toNat h ++
              (gW (dF T n) T.c.toNat h w ++ gO (dF T n) h w k)) ++
          [[AV.lit (Value.int IntKind.i32 (IntKind.i32.wrap (dE T n (↑h : Int) (↑w : Int) (↑k : Int))))]]))
  (Blk.slc 21 1
        (List.map (row1 IntKind.i32)
          (gH (dF T n) T.c.toNat (depthE (Shp.mk T.h T.x T.c) n).fst.x.toNat h ++
            (gW (dF T n) T.c.toNat h w ++ gO (dF T n) h w (k + 1)))))]) (by kernel_rfl) ?_
  exact ⟨(by (refine decide_eq_true ?_; omega)),
          (@rdSum_v (T) (n) ((↑h :
    Int)) ((↑w : Int)) ((↑k : Int)) (by with_reducible assumption) (by omega) (by omega) (by omega) (by omega) (by omega) (by omega)),
          (by (simp; omega)),
          (by (simp; omega)),
          (by exact IntWalk.i64_in _ (by omega)),
          (Weak.int (show (((↑k : Int) + 1) : Int) = ((↑(k + 1) : Int)) from (by omega))),
          (BlkW.rows (rows_to (row1
    IntKind.i32) (l := gH (dF T n) T.c.toNat (depthE (Shp.mk T.h T.x T.c) n).fst.x.toNat h ++
          (gW (dF T n) T.c.toNat h w ++ gO (dF T n) h w k) ++
    [IntKind.i32.wrap
            (dE T n (↑h : Int) (↑w : Int)
              (↑k :
                Int))]) (m := gH (dF T n) T.c.toNat (depthE (Shp.mk T.h T.x T.c) n).fst.x.toNat h ++
    (gW (dF T n) T.c.toNat h w ++
          gO (dF T n) h w
            (k +
              1))) (by simp only [List.map_append, List.map_cons, List.map_nil, List.map_set, List.map_replicate, List.map_take, List.map_drop]) (show (gH (dF T n) T.c.toNat (depthE (Shp.mk T.h T.x T.c) n).fst.x.toNat h ++
          (gW (dF T n) T.c.toNat h w ++ gO (dF T n) h w k) ++
    [IntKind.i32.wrap
            (dE T n (↑h : Int) (↑w : Int)
              (↑k :
                Int))]) = (gH (dF T n) T.c.toNat (depthE (Shp.mk T.h T.x T.c) n).fst.x.toNat h ++
    (gW (dF T n) T.c.toNat h w ++ gO (dF T n) h w (k + 1))) from (by (rw [gO_succ]; simp [dF]))))),
          trivial⟩
set_option maxRecDepth 100000 in
set_option maxHeartbeats 2000000 in
theorem rdOf_o_e (T : Ten) (n : Nod) (h w : Nat) (ok : DpOk T n) (h1 : h < (depthE ⟨T.h, T.x, T.c⟩ n).1.h.toNat) (w1 : w < (depthE ⟨T.h, T.x, T.c⟩ n).1.x.toNat) : VT Try.prog (fnC Try.f28 [1, 1, 1, 1, 1, 0, 1, 0, 0, 1, 0, 0, 1, 0, 0, 1, 0, 0, 1, 0, 0]) (rdOf_o_I T n h w (T.c.toNat)) (.exit 4) (rdOf_o_Z T n h w) := by
  have nn := ok.n
  have g1 := nn.he
  have g2 := nn.xe
  have g3 := nn.sc
  have g4 := nn.c1
  have g5 := nn.c2
  refine VT.run (W := [.r [] [], .br false]) (G := [GI.any [41, 42, 43, 44], GI.sort])
    (ob := [decide ((↑T.c.toNat : Int) < T.c) = false]) (by kernel_rfl) ?_
  exact ⟨(by (refine decide_eq_false ?_; omega)),
          trivial⟩
theorem rdOf_o (T : Ten) (n : Nod) (h w : Nat) (ok : DpOk T n) (h1 : h < (depthE ⟨T.h, T.x, T.c⟩ n).1.h.toNat) (w1 : w < (depthE ⟨T.h, T.x, T.c⟩ n).1.x.toNat) : VT Try.prog (fnC Try.f28 [1, 1, 1, 1, 1, 0, 1, 0, 0, 1, 0, 0, 1, 0, 0, 1, 0, 0, 1, 0]) (rdOf_o_I T n h w 0) (.exit 4) (rdOf_o_Z T n h w) :=
  VT.loop (fun k => rdOf_o_I T n h w k) (T.c.toNat) (fun k hk => rdOf_o_s T n h w ok h1 w1 k hk) (rdOf_o_e T n h w ok h1 w1) (by intro h; cases h)

noncomputable def rdOf_w_I (T : Ten) (n : Nod) (h : Nat) (k : Nat) : VS := stt 60 [(2, .ptr 2 0 0), (3, .ptr 3 0 0), (4, .ptr 4 0 0), (6, .ptr 6 0 0), (8, .ptr 8 0 0), (9, i64 h), (10, i64 k)] [(2, .var [i64 T.h, i64 T.x, i64 T.c, ints .i8 T.d]), (3, .var (nodC n)), (4, .var [i64 0, i64 0, i64 0, nilv]), (6, .var [i64 (depthE ⟨T.h, T.x, T.c⟩ n).1.h, i64 (depthE ⟨T.h, T.x, T.c⟩ n).1.x, i64 T.c]), (8, .var [i64 (depthE ⟨T.h, T.x, T.c⟩ n).1.h, i64 (depthE ⟨T.h, T.x, T.c⟩ n).1.x, i64 T.c, .own 900]), (900, .slc 21 1 ((gH (dF T n) T.c.toNat (depthE ⟨T.h, T.x, T.c⟩ n).1.x.toNat h ++ gW (dF T n) T.c.toNat h k).map (row1 .i32)))]
noncomputable def rdOf_w_Z (T : Ten) (n : Nod) (h : Nat) : VS := rdOf_w_I T n h ((depthE ⟨T.h, T.x, T.c⟩ n).1.x.toNat)
set_option maxRecDepth 100000 in
set_option maxHeartbeats 2000000 in
theorem rdOf_w_s (T : Ten) (n : Nod) (h : Nat) (ok : DpOk T n) (h1 : h < (depthE ⟨T.h, T.x, T.c⟩ n).1.h.toNat) (k : Nat) (hk : k < (depthE ⟨T.h, T.x, T.c⟩ n).1.x.toNat) : VT Try.prog (fnC Try.f28 [1, 1, 1, 1, 1, 0, 1, 0, 0, 1, 0, 0, 1, 0, 0]) (rdOf_w_I T n h k) .normal (rdOf_w_I T n h (k + 1)) := by
  have nn := ok.n
  have g1 := nn.he
  have g2 := nn.xe
  have g3 := nn.sc
  have g4 := nn.c1
  have g5 := nn.c2
  refine VT.run (W := [.r [] [], .br true, .r [] [], .code [GI.any [35, 36, 37, 38],
  GI.weak 11 (AV.lit (Value.int IntKind.i64 (↑0 : Int))),
  GI.blk 900
    (Blk.slc 21 1
      (List.map (row1 IntKind.i32)
        (gH (dF T n) T.c.toNat (depthE (Shp.mk T.h T.x T.c) n).fst.x.toNat h ++
          (gW (dF T n) T.c.toNat h k ++ gO (dF T n) h k 0)))),
  GI.sort] (Exit.exit
  4) (VS.mk
  [AV.any, AV.any, AV.ptr 2 0 0, AV.ptr 3 0 0, AV.ptr 4 0 0, AV.any, AV.ptr 6 0 0, AV.any, AV.ptr 8 0 0,
    AV.lit (Value.int IntKind.i64 (↑h : Int)), AV.lit (Value.int IntKind.i64 (↑k : Int)),
    AV.lit (Value.int IntKind.i64 (↑T.c.toNat : Int)), AV.any, AV.any, AV.any, AV.any, AV.any, AV.any, AV.any, AV.any,
    AV.any, AV.any, AV.any, AV.any, AV.any, AV.any, AV.any, AV.any, AV.any, AV.any, AV.any, AV.any, AV.any, AV.any,
    AV.any, AV.any, AV.any, AV.any, AV.any, AV.any, AV.any, AV.any, AV.any, AV.any, AV.any, AV.any, AV.any, AV.any,
    AV.any, AV.any, AV.any, AV.any, AV.any, AV.any, AV.any, AV.any, AV.any, AV.any, AV.any, AV.any]
  [(2,
      Blk.var
        [AV.lit (Value.int IntKind.i64 T.h), AV.lit (Value.int IntKind.i64 T.x), AV.lit (Value.int IntKind.i64 T.c),
          AV.sl 1 (List.map (row1 IntKind.i8) T.d)]),
    (3,
      Blk.var
        [AV.lit (Value.int IntKind.i64 n.kd), AV.lit (Value.int IntKind.i64 n.na), AV.lit (Value.int IntKind.i64 n.nb),
          AV.lit (Value.int IntKind.i64 n.nk), AV.lit (Value.int IntKind.i64 n.ns), AV.lit (Value.int IntKind.i64 n.np),
          AV.lit (Value.int IntKind.i64 n.no), AV.lit (Value.int IntKind.i8 n.za), AV.lit (Value.int IntKind.i8 n.zb),
          AV.sl 1 (List.map (row1 IntKind.i8) n.w), AV.sl 1 (List.map (row1 IntKind.i32) n.b),
          AV.lit (Value.int IntKind.i32 n.qm), AV.lit (Value.int IntKind.i64 n.qs), AV.lit (Value.int IntKind.i8 n.qz),
          AV.lit (Value.int IntKind.i32 n.rm), AV.lit (Value.int IntKind.i64 n.rs), AV.lit (Value.int IntKind.i8 n.rz),
          AV.lit (Value.int IntKind.i8 n.lo), AV.lit (Value.int IntKind.i8 n.hi)]),
    (4,
      Blk.var
        [AV.lit (Value.int IntKind.i64 0), AV.lit (Value.int IntKind.i64 0), AV.lit (Value.int IntKind.i64 0),
          AV.lit (Value.slice none 0 0)]),
    (6,
      Blk.var
        [AV.lit (Value.int IntKind.i64 (depthE (Shp.mk T.h T.x T.c) n).fst.h),
          AV.lit (Value.int IntKind.i64 (depthE (Shp.mk T.h T.x T.c) n).fst.x), AV.lit (Value.int IntKind.i64 T.c)]),
    (8,
      Blk.var
        [AV.lit (Value.int IntKind.i64 (depthE (Shp.mk T.h T.x T.c) n).fst.h),
          AV.lit (Value.int IntKind.i64 (depthE (Shp.mk T.h T.x T.c) n).fst.x), AV.lit (Value.int IntKind.i64 T.c),
          AV.own 900]),
    (900,
      Blk.slc 21 1
        (List.map (row1 IntKind.i32)
          (gH (dF T n) T.c.toNat (depthE (Shp.mk T.h T.x T.c) n).fst.x.toNat h ++
            (gW (dF T n) T.c.toNat h k ++ gO (dF T n) h k T.c.toNat))))]), .r [] [PI.n ((↑k : Int) + 1)]]) (G := [GI.any [11, 39, 40], GI.weak 10 (AV.lit (Value.int IntKind.i64 (↑(k + 1) : Int))),
  GI.blk 900
    (Blk.slc 21 1
      (List.map (row1 IntKind.i32)
        (gH (dF T n) T.c.toNat (depthE (Shp.mk T.h T.x T.c) n).fst.x.toNat h ++ gW (dF T n) T.c.toNat h (k + 1)))),
  GI.sort])
    (ob := [decide ((↑k : Int) < (depthE (Shp.mk T.h T.x T.c) n).fst.x) = true,
        Weak (AV.lit (Value.int IntKind.i64 0)) (AV.lit (Value.int IntKind.i64 (↑0 : Int))),
        BlkW
  (Blk.slc 21 1
        (List.map (row1 IntKind.i32)
          (gH (dF T n) T.c.toNat (depthE (Shp.mk T.h T.x T.c) n).fst.x.toNat h ++ gW (dF T n) T.c.toNat h k)))
  (Blk.slc 21 1
        (List.map (row1 IntKind.i32)
          (gH (dF T n) T.c.toNat (depthE (Shp.mk T.h T.x T.c) n).fst.x.toNat h ++
            (gW (dF T n) T.c.toNat h k ++ gO (dF T n) h k 0)))),
        VT Try.prog (fnC Try.f28 [1, 1, 1, 1, 1, 0, 1, 0, 0, 1, 0, 0, 1, 0, 0, 1, 0, 0, 1, 0])
  (VS.mk
        [AV.any, AV.any, AV.ptr 2 0 0, AV.ptr 3 0 0, AV.ptr 4 0 0, AV.any, AV.ptr 6 0 0, AV.any, AV.ptr 8 0 0,
          AV.lit (Value.int IntKind.i64 (↑h : Int)), AV.lit (Value.int IntKind.i64 (↑k : Int)),
          AV.lit (Value.int IntKind.i64 (↑0 : Int)), AV.any, AV.any, AV.any, AV.any, AV.any, AV.any, AV.any, AV.any, AV.any,
          AV.any, AV.any, AV.any, AV.any, AV.any, AV.any, AV.any, AV.any, AV.any, AV.any, AV.any, AV.any, AV.any, AV.any,
          AV.any, AV.any, AV.any, AV.any, AV.any, AV.any, AV.any, AV.any, AV.any, AV.any, AV.any, AV.any, AV.any, AV.any,
          AV.any, AV.any, AV.any, AV.any, AV.any, AV.any, AV.any, AV.any, AV.any, AV.any, AV.any]
        [(2,
            Blk.var
              [AV.lit (Value.int IntKind.i64 T.h), AV.lit (Value.int IntKind.i64 T.x), AV.lit (Value.int IntKind.i64 T.c),
                AV.sl 1 (List.map (row1 IntKind.i8) T.d)]),
          (3,
            Blk.var
              [AV.lit (Value.int IntKind.i64 n.kd), AV.lit (Value.int IntKind.i64 n.na),
                AV.lit (Value.int IntKind.i64 n.nb), AV.lit (Value.int IntKind.i64 n.nk),
                AV.lit (Value.int IntKind.i64 n.ns), AV.lit (Value.int IntKind.i64 n.np),
                AV.lit (Value.int IntKind.i64 n.no), AV.lit (Value.int IntKind.i8 n.za), AV.lit (Value.int IntKind.i8 n.zb),
                AV.sl 1 (List.map (row1 IntKind.i8) n.w), AV.sl 1 (List.map (row1 IntKind.i32) n.b),
                AV.lit (Value.int IntKind.i32 n.qm), AV.lit (Value.int IntKind.i64 n.qs),
                AV.lit (Value.int IntKind.i8 n.qz), AV.lit (Value.int IntKind.i32 n.rm),
                AV.lit (Value.int IntKind.i64 n.rs), AV.lit (Value.int IntKind.i8 n.rz), AV.lit (Value.int IntKind.i8 n.lo),
                AV.lit (Value.int IntKind.i8 n.hi)]),
          (4,
            Blk.var
              [AV.lit (Value.int IntKind.i64 0), AV.lit (Value.int IntKind.i64 0), AV.lit (Value.int IntKind.i64 0),
                AV.lit (Value.slice none 0 0)]),
          (6,
            Blk.var
              [AV.lit (Value.int IntKind.i64 (depthE (Shp.mk T.h T.x T.c) n).fst.h),
                AV.lit (Value.int IntKind.i64 (depthE (Shp.mk T.h T.x T.c) n).fst.x), AV.lit (Value.int IntKind.i64 T.c)]),
          (8,
            Blk.var
              [AV.lit (Value.int IntKind.i64 (depthE (Shp.mk T.h T.x T.c) n).fst.h),
                AV.lit (Value.int IntKind.i64 (depthE (Shp.mk T.h T.x T.c) n).fst.x), AV.lit (Value.int IntKind.i64 T.c),
                AV.own 900]),
          (900,
            Blk.slc 21 1
              (List.map (row1 IntKind.i32)
                (gH (dF T n) T.c.toNat (depthE (Shp.mk T.h T.x T.c) n).fst.x.toNat h ++
                  (gW (dF T n) T.c.toNat h k ++ gO (dF T n) h k 0))))])
  (Exit.exit 4)
  (VS.mk
        [AV.any, AV.any, AV.ptr 2 0 0, AV.ptr 3 0 0, AV.ptr 4 0 0, AV.any, AV.ptr 6 0 0, AV.any, AV.ptr 8 0 0,
          AV.lit (Value.int IntKind.i64 (↑h : Int)), AV.lit (Value.int IntKind.i64 (↑k : Int)),
          AV.lit (Value.int IntKind.i64 (↑T.c.toNat : Int)), AV.any, AV.any, AV.any, AV.any, AV.any, AV.any, AV.any, AV.any,
          AV.any, AV.any, AV.any, AV.any, AV.any, AV.any, AV.any, AV.any, AV.any, AV.any, AV.any, AV.any, AV.any, AV.any,
          AV.any, AV.any, AV.any, AV.any, AV.any, AV.any, AV.any, AV.any, AV.any, AV.any, AV.any, AV.any, AV.any, AV.any,
          AV.any, AV.any, AV.any, AV.any, AV.any, AV.any, AV.any, AV.any, AV.any, AV.any, AV.any, AV.any]
        [(2,
            Blk.var
              [AV.lit (Value.int IntKind.i64 T.h), AV.lit (Value.int IntKind.i64 T.x), AV.lit (Value.int IntKind.i64 T.c),
                AV.sl 1 (List.map (row1 IntKind.i8) T.d)]),
          (3,
            Blk.var
              [AV.lit (Value.int IntKind.i64 n.kd), AV.lit (Value.int IntKind.i64 n.na),
                AV.lit (Value.int IntKind.i64 n.nb), AV.lit (Value.int IntKind.i64 n.nk),
                AV.lit (Value.int IntKind.i64 n.ns), AV.lit (Value.int IntKind.i64 n.np),
                AV.lit (Value.int IntKind.i64 n.no), AV.lit (Value.int IntKind.i8 n.za), AV.lit (Value.int IntKind.i8 n.zb),
                AV.sl 1 (List.map (row1 IntKind.i8) n.w), AV.sl 1 (List.map (row1 IntKind.i32) n.b),
                AV.lit (Value.int IntKind.i32 n.qm), AV.lit (Value.int IntKind.i64 n.qs),
                AV.lit (Value.int IntKind.i8 n.qz), AV.lit (Value.int IntKind.i32 n.rm),
                AV.lit (Value.int IntKind.i64 n.rs), AV.lit (Value.int IntKind.i8 n.rz), AV.lit (Value.int IntKind.i8 n.lo),
                AV.lit (Value.int IntKind.i8 n.hi)]),
          (4,
            Blk.var
              [AV.lit (Value.int IntKind.i64 0), AV.lit (Value.int IntKind.i64 0), AV.lit (Value.int IntKind.i64 0),
                AV.lit (Value.slice none 0 0)]),
          (6,
            Blk.var
              [AV.lit (Value.int IntKind.i64 (depthE (Shp.mk T.h T.x T.c) n).fst.h),
                AV.lit (Value.int IntKind.i64 (depthE (Shp.mk T.h T.x T.c) n).fst.x), AV.lit (Value.int IntKind.i64 T.c)]),
          (8,
            Blk.var
              [AV.lit (Value.int IntKind.i64 (depthE (Shp.mk T.h T.x T.c) n).fst.h),
                AV.lit (Value.int IntKind.i64 (depthE (Shp.mk T.h T.x T.c) n).fst.x), AV.lit (Value.int IntKind.i64 T.c),
                AV.own 900]),
          (900,
            Blk.slc 21 1
              (List.map (row1 IntKind.i32)
                (gH (dF T n) T.c.toNat (depthE (Shp.mk T.h T.x T.c) n).fst.x.toNat h ++
                  (gW (dF T n) T.c.toNat h k ++ gO (dF T n) h k T.c.toNat))))]),
        IntKind.i64.wrap ((↑k : Int) + 1) = (↑k : Int) + 1,
        Weak (AV.lit (Value.int IntKind.i64 ((↑k : Int) + 1))) (AV.lit (Value.int IntKind.i64 (↑(k + 1) : Int))),
        BlkW
  (Blk.slc 21 1
        (List.map (row1 IntKind.i32)
          (gH (dF T n) T.c.toNat (depthE (Shp.mk T.h T.x T.c) n).fst.x.toNat h ++
            (gW (dF T n) T.c.toNat h k ++ gO (dF T n) h k T.c.toNat))))
  (Blk.slc 21 1
        (List.map (row1 IntKind.i32)
          (gH (dF T n) T.c.toNat (depthE (Shp.mk T.h T.x T.c) n).fst.x.toNat h ++ gW (dF T n) T.c.toNat h (k + 1))))]) (by kernel_rfl) ?_
  exact ⟨(by (refine decide_eq_true ?_; omega)),
          (Weak.int (show ((0) : Int) = ((↑0 : Int)) from (by omega))),
          (BlkW.rows (rows_to (row1
    IntKind.i32) (l := gH (dF T n) T.c.toNat (depthE (Shp.mk T.h T.x T.c) n).fst.x.toNat h ++
    gW (dF T n) T.c.toNat h
          k) (m := gH (dF T n) T.c.toNat (depthE (Shp.mk T.h T.x T.c) n).fst.x.toNat h ++
    (gW (dF T n) T.c.toNat h k ++
          gO (dF T n) h k
            0)) rfl (show (gH (dF T n) T.c.toNat (depthE (Shp.mk T.h T.x T.c) n).fst.x.toNat h ++
    gW (dF T n) T.c.toNat h
          k) = (gH (dF T n) T.c.toNat (depthE (Shp.mk T.h T.x T.c) n).fst.x.toNat h ++
    (gW (dF T n) T.c.toNat h k ++ gO (dF T n) h k 0)) from (by (simp [gO]; done))))),
          (@rdOf_o (T) (n) (h) (k) (by with_reducible assumption) (by with_reducible assumption) (by with_reducible assumption)),
          (by exact IntWalk.i64_in _ (by omega)),
          (Weak.int (show (((↑k : Int) + 1) : Int) = ((↑(k + 1) : Int)) from (by omega))),
          (BlkW.rows (rows_to (row1
    IntKind.i32) (l := gH (dF T n) T.c.toNat (depthE (Shp.mk T.h T.x T.c) n).fst.x.toNat h ++
    (gW (dF T n) T.c.toNat h k ++
          gO (dF T n) h k
            T.c.toNat)) (m := gH (dF T n) T.c.toNat (depthE (Shp.mk T.h T.x T.c) n).fst.x.toNat h ++
    gW (dF T n) T.c.toNat h
          (k +
            1)) rfl (show (gH (dF T n) T.c.toNat (depthE (Shp.mk T.h T.x T.c) n).fst.x.toNat h ++
    (gW (dF T n) T.c.toNat h k ++
          gO (dF T n) h k
            T.c.toNat)) = (gH (dF T n) T.c.toNat (depthE (Shp.mk T.h T.x T.c) n).fst.x.toNat h ++
    gW (dF T n) T.c.toNat h (k + 1)) from (by rfl)))),
          trivial⟩
set_option maxRecDepth 100000 in
set_option maxHeartbeats 2000000 in
theorem rdOf_w_e (T : Ten) (n : Nod) (h : Nat) (ok : DpOk T n) (h1 : h < (depthE ⟨T.h, T.x, T.c⟩ n).1.h.toNat) : VT Try.prog (fnC Try.f28 [1, 1, 1, 1, 1, 0, 1, 0, 0, 1, 0, 0, 1, 0, 0]) (rdOf_w_I T n h ((depthE ⟨T.h, T.x, T.c⟩ n).1.x.toNat)) (.exit 2) (rdOf_w_Z T n h) := by
  have nn := ok.n
  have g1 := nn.he
  have g2 := nn.xe
  have g3 := nn.sc
  have g4 := nn.c1
  have g5 := nn.c2
  refine VT.run (W := [.r [] [], .br false]) (G := [GI.any [35, 36, 37, 38], GI.sort])
    (ob := [decide ((↑(depthE (Shp.mk T.h T.x T.c) n).fst.x.toNat : Int) < (depthE (Shp.mk T.h T.x T.c) n).fst.x) = false]) (by kernel_rfl) ?_
  exact ⟨(by (refine decide_eq_false ?_; omega)),
          trivial⟩
theorem rdOf_w (T : Ten) (n : Nod) (h : Nat) (ok : DpOk T n) (h1 : h < (depthE ⟨T.h, T.x, T.c⟩ n).1.h.toNat) : VT Try.prog (fnC Try.f28 [1, 1, 1, 1, 1, 0, 1, 0, 0, 1, 0, 0, 1, 0]) (rdOf_w_I T n h 0) (.exit 2) (rdOf_w_Z T n h) :=
  VT.loop (fun k => rdOf_w_I T n h k) ((depthE ⟨T.h, T.x, T.c⟩ n).1.x.toNat) (fun k hk => rdOf_w_s T n h ok h1 k hk) (rdOf_w_e T n h ok h1) (by intro h; cases h)

noncomputable def rdOf_h_I (T : Ten) (n : Nod) (k : Nat) : VS := stt 60 [(2, .ptr 2 0 0), (3, .ptr 3 0 0), (4, .ptr 4 0 0), (6, .ptr 6 0 0), (8, .ptr 8 0 0), (9, i64 k)] [(2, .var [i64 T.h, i64 T.x, i64 T.c, ints .i8 T.d]), (3, .var (nodC n)), (4, .var [i64 0, i64 0, i64 0, nilv]), (6, .var [i64 (depthE ⟨T.h, T.x, T.c⟩ n).1.h, i64 (depthE ⟨T.h, T.x, T.c⟩ n).1.x, i64 T.c]), (8, .var [i64 (depthE ⟨T.h, T.x, T.c⟩ n).1.h, i64 (depthE ⟨T.h, T.x, T.c⟩ n).1.x, i64 T.c, .own 900]), (900, .slc 21 1 ((gH (dF T n) T.c.toNat (depthE ⟨T.h, T.x, T.c⟩ n).1.x.toNat k).map (row1 .i32)))]
noncomputable def rdOf_h_Z (T : Ten) (n : Nod) : VS := rdOf_h_I T n ((depthE ⟨T.h, T.x, T.c⟩ n).1.h.toNat)
set_option maxRecDepth 100000 in
set_option maxHeartbeats 2000000 in
theorem rdOf_h_s (T : Ten) (n : Nod) (ok : DpOk T n) (k : Nat) (hk : k < (depthE ⟨T.h, T.x, T.c⟩ n).1.h.toNat) : VT Try.prog (fnC Try.f28 [1, 1, 1, 1, 1, 0, 1, 0, 0]) (rdOf_h_I T n k) .normal (rdOf_h_I T n (k + 1)) := by
  have nn := ok.n
  have g1 := nn.he
  have g2 := nn.xe
  have g3 := nn.sc
  have g4 := nn.c1
  have g5 := nn.c2
  refine VT.run (W := [.r [] [], .br true, .r [] [], .code [GI.any [29, 30, 31, 32],
  GI.weak 10 (AV.lit (Value.int IntKind.i64 (↑0 : Int))),
  GI.blk 900
    (Blk.slc 21 1
      (List.map (row1 IntKind.i32)
        (gH (dF T n) T.c.toNat (depthE (Shp.mk T.h T.x T.c) n).fst.x.toNat k ++ gW (dF T n) T.c.toNat k 0))),
  GI.sort] (Exit.exit
  2) (VS.mk
  [AV.any, AV.any, AV.ptr 2 0 0, AV.ptr 3 0 0, AV.ptr 4 0 0, AV.any, AV.ptr 6 0 0, AV.any, AV.ptr 8 0 0,
    AV.lit (Value.int IntKind.i64 (↑k : Int)),
    AV.lit (Value.int IntKind.i64 (↑(depthE (Shp.mk T.h T.x T.c) n).fst.x.toNat : Int)), AV.any, AV.any, AV.any, AV.any,
    AV.any, AV.any, AV.any, AV.any, AV.any, AV.any, AV.any, AV.any, AV.any, AV.any, AV.any, AV.any, AV.any, AV.any,
    AV.any, AV.any, AV.any, AV.any, AV.any, AV.any, AV.any, AV.any, AV.any, AV.any, AV.any, AV.any, AV.any, AV.any,
    AV.any, AV.any, AV.any, AV.any, AV.any, AV.any, AV.any, AV.any, AV.any, AV.any, AV.any, AV.any, AV.any, AV.any,
    AV.any, AV.any, AV.any]
  [(2,
      Blk.var
        [AV.lit (Value.int IntKind.i64 T.h), AV.lit (Value.int IntKind.i64 T.x), AV.lit (Value.int IntKind.i64 T.c),
          AV.sl 1 (List.map (row1 IntKind.i8) T.d)]),
    (3,
      Blk.var
        [AV.lit (Value.int IntKind.i64 n.kd), AV.lit (Value.int IntKind.i64 n.na), AV.lit (Value.int IntKind.i64 n.nb),
          AV.lit (Value.int IntKind.i64 n.nk), AV.lit (Value.int IntKind.i64 n.ns), AV.lit (Value.int IntKind.i64 n.np),
          AV.lit (Value.int IntKind.i64 n.no), AV.lit (Value.int IntKind.i8 n.za), AV.lit (Value.int IntKind.i8 n.zb),
          AV.sl 1 (List.map (row1 IntKind.i8) n.w), AV.sl 1 (List.map (row1 IntKind.i32) n.b),
          AV.lit (Value.int IntKind.i32 n.qm), AV.lit (Value.int IntKind.i64 n.qs), AV.lit (Value.int IntKind.i8 n.qz),
          AV.lit (Value.int IntKind.i32 n.rm), AV.lit (Value.int IntKind.i64 n.rs), AV.lit (Value.int IntKind.i8 n.rz),
          AV.lit (Value.int IntKind.i8 n.lo), AV.lit (Value.int IntKind.i8 n.hi)]),
    (4,
      Blk.var
        [AV.lit (Value.int IntKind.i64 0), AV.lit (Value.int IntKind.i64 0), AV.lit (Value.int IntKind.i64 0),
          AV.lit (Value.slice none 0 0)]),
    (6,
      Blk.var
        [AV.lit (Value.int IntKind.i64 (depthE (Shp.mk T.h T.x T.c) n).fst.h),
          AV.lit (Value.int IntKind.i64 (depthE (Shp.mk T.h T.x T.c) n).fst.x), AV.lit (Value.int IntKind.i64 T.c)]),
    (8,
      Blk.var
        [AV.lit (Value.int IntKind.i64 (depthE (Shp.mk T.h T.x T.c) n).fst.h),
          AV.lit (Value.int IntKind.i64 (depthE (Shp.mk T.h T.x T.c) n).fst.x), AV.lit (Value.int IntKind.i64 T.c),
          AV.own 900]),
    (900,
      Blk.slc 21 1
        (List.map (row1 IntKind.i32)
          (gH (dF T n) T.c.toNat (depthE (Shp.mk T.h T.x T.c) n).fst.x.toNat k ++
            gW (dF T n) T.c.toNat k (depthE (Shp.mk T.h T.x T.c) n).fst.x.toNat)))]), .r [] [PI.n ((↑k : Int) + 1)]]) (G := [GI.any [10, 33, 34], GI.weak 9 (AV.lit (Value.int IntKind.i64 (↑(k + 1) : Int))),
  GI.blk 900
    (Blk.slc 21 1
      (List.map (row1 IntKind.i32) (gH (dF T n) T.c.toNat (depthE (Shp.mk T.h T.x T.c) n).fst.x.toNat (k + 1)))),
  GI.sort])
    (ob := [decide ((↑k : Int) < (depthE (Shp.mk T.h T.x T.c) n).fst.h) = true,
        Weak (AV.lit (Value.int IntKind.i64 0)) (AV.lit (Value.int IntKind.i64 (↑0 : Int))),
        BlkW
  (Blk.slc 21 1 (List.map (row1 IntKind.i32) (gH (dF T n) T.c.toNat (depthE (Shp.mk T.h T.x T.c) n).fst.x.toNat k)))
  (Blk.slc 21 1
        (List.map (row1 IntKind.i32)
          (gH (dF T n) T.c.toNat (depthE (Shp.mk T.h T.x T.c) n).fst.x.toNat k ++ gW (dF T n) T.c.toNat k 0))),
        VT Try.prog (fnC Try.f28 [1, 1, 1, 1, 1, 0, 1, 0, 0, 1, 0, 0, 1, 0])
  (VS.mk
        [AV.any, AV.any, AV.ptr 2 0 0, AV.ptr 3 0 0, AV.ptr 4 0 0, AV.any, AV.ptr 6 0 0, AV.any, AV.ptr 8 0 0,
          AV.lit (Value.int IntKind.i64 (↑k : Int)), AV.lit (Value.int IntKind.i64 (↑0 : Int)), AV.any, AV.any, AV.any,
          AV.any, AV.any, AV.any, AV.any, AV.any, AV.any, AV.any, AV.any, AV.any, AV.any, AV.any, AV.any, AV.any, AV.any,
          AV.any, AV.any, AV.any, AV.any, AV.any, AV.any, AV.any, AV.any, AV.any, AV.any, AV.any, AV.any, AV.any, AV.any,
          AV.any, AV.any, AV.any, AV.any, AV.any, AV.any, AV.any, AV.any, AV.any, AV.any, AV.any, AV.any, AV.any, AV.any,
          AV.any, AV.any, AV.any, AV.any]
        [(2,
            Blk.var
              [AV.lit (Value.int IntKind.i64 T.h), AV.lit (Value.int IntKind.i64 T.x), AV.lit (Value.int IntKind.i64 T.c),
                AV.sl 1 (List.map (row1 IntKind.i8) T.d)]),
          (3,
            Blk.var
              [AV.lit (Value.int IntKind.i64 n.kd), AV.lit (Value.int IntKind.i64 n.na),
                AV.lit (Value.int IntKind.i64 n.nb), AV.lit (Value.int IntKind.i64 n.nk),
                AV.lit (Value.int IntKind.i64 n.ns), AV.lit (Value.int IntKind.i64 n.np),
                AV.lit (Value.int IntKind.i64 n.no), AV.lit (Value.int IntKind.i8 n.za), AV.lit (Value.int IntKind.i8 n.zb),
                AV.sl 1 (List.map (row1 IntKind.i8) n.w), AV.sl 1 (List.map (row1 IntKind.i32) n.b),
                AV.lit (Value.int IntKind.i32 n.qm), AV.lit (Value.int IntKind.i64 n.qs),
                AV.lit (Value.int IntKind.i8 n.qz), AV.lit (Value.int IntKind.i32 n.rm),
                AV.lit (Value.int IntKind.i64 n.rs), AV.lit (Value.int IntKind.i8 n.rz), AV.lit (Value.int IntKind.i8 n.lo),
                AV.lit (Value.int IntKind.i8 n.hi)]),
          (4,
            Blk.var
              [AV.lit (Value.int IntKind.i64 0), AV.lit (Value.int IntKind.i64 0), AV.lit (Value.int IntKind.i64 0),
                AV.lit (Value.slice none 0 0)]),
          (6,
            Blk.var
              [AV.lit (Value.int IntKind.i64 (depthE (Shp.mk T.h T.x T.c) n).fst.h),
                AV.lit (Value.int IntKind.i64 (depthE (Shp.mk T.h T.x T.c) n).fst.x), AV.lit (Value.int IntKind.i64 T.c)]),
          (8,
            Blk.var
              [AV.lit (Value.int IntKind.i64 (depthE (Shp.mk T.h T.x T.c) n).fst.h),
                AV.lit (Value.int IntKind.i64 (depthE (Shp.mk T.h T.x T.c) n).fst.x), AV.lit (Value.int IntKind.i64 T.c),
                AV.own 900]),
          (900,
            Blk.slc 21 1
              (List.map (row1 IntKind.i32)
                (gH (dF T n) T.c.toNat (depthE (Shp.mk T.h T.x T.c) n).fst.x.toNat k ++ gW (dF T n) T.c.toNat k 0)))])
  (Exit.exit 2)
  (VS.mk
        [AV.any, AV.any, AV.ptr 2 0 0, AV.ptr 3 0 0, AV.ptr 4 0 0, AV.any, AV.ptr 6 0 0, AV.any, AV.ptr 8 0 0,
          AV.lit (Value.int IntKind.i64 (↑k : Int)),
          AV.lit (Value.int IntKind.i64 (↑(depthE (Shp.mk T.h T.x T.c) n).fst.x.toNat : Int)), AV.any, AV.any, AV.any,
          AV.any, AV.any, AV.any, AV.any, AV.any, AV.any, AV.any, AV.any, AV.any, AV.any, AV.any, AV.any, AV.any, AV.any,
          AV.any, AV.any, AV.any, AV.any, AV.any, AV.any, AV.any, AV.any, AV.any, AV.any, AV.any, AV.any, AV.any, AV.any,
          AV.any, AV.any, AV.any, AV.any, AV.any, AV.any, AV.any, AV.any, AV.any, AV.any, AV.any, AV.any, AV.any, AV.any,
          AV.any, AV.any, AV.any, AV.any]
        [(2,
            Blk.var
              [AV.lit (Value.int IntKind.i64 T.h), AV.lit (Value.int IntKind.i64 T.x), AV.lit (Value.int IntKind.i64 T.c),
                AV.sl 1 (List.map (row1 IntKind.i8) T.d)]),
          (3,
            Blk.var
              [AV.lit (Value.int IntKind.i64 n.kd), AV.lit (Value.int IntKind.i64 n.na),
                AV.lit (Value.int IntKind.i64 n.nb), AV.lit (Value.int IntKind.i64 n.nk),
                AV.lit (Value.int IntKind.i64 n.ns), AV.lit (Value.int IntKind.i64 n.np),
                AV.lit (Value.int IntKind.i64 n.no), AV.lit (Value.int IntKind.i8 n.za), AV.lit (Value.int IntKind.i8 n.zb),
                AV.sl 1 (List.map (row1 IntKind.i8) n.w), AV.sl 1 (List.map (row1 IntKind.i32) n.b),
                AV.lit (Value.int IntKind.i32 n.qm), AV.lit (Value.int IntKind.i64 n.qs),
                AV.lit (Value.int IntKind.i8 n.qz), AV.lit (Value.int IntKind.i32 n.rm),
                AV.lit (Value.int IntKind.i64 n.rs), AV.lit (Value.int IntKind.i8 n.rz), AV.lit (Value.int IntKind.i8 n.lo),
                AV.lit (Value.int IntKind.i8 n.hi)]),
          (4,
            Blk.var
              [AV.lit (Value.int IntKind.i64 0), AV.lit (Value.int IntKind.i64 0), AV.lit (Value.int IntKind.i64 0),
                AV.lit (Value.slice none 0 0)]),
          (6,
            Blk.var
              [AV.lit (Value.int IntKind.i64 (depthE (Shp.mk T.h T.x T.c) n).fst.h),
                AV.lit (Value.int IntKind.i64 (depthE (Shp.mk T.h T.x T.c) n).fst.x), AV.lit (Value.int IntKind.i64 T.c)]),
          (8,
            Blk.var
              [AV.lit (Value.int IntKind.i64 (depthE (Shp.mk T.h T.x T.c) n).fst.h),
                AV.lit (Value.int IntKind.i64 (depthE (Shp.mk T.h T.x T.c) n).fst.x), AV.lit (Value.int IntKind.i64 T.c),
                AV.own 900]),
          (900,
            Blk.slc 21 1
              (List.map (row1 IntKind.i32)
                (gH (dF T n) T.c.toNat (depthE (Shp.mk T.h T.x T.c) n).fst.x.toNat k ++
                  gW (dF T n) T.c.toNat k (depthE (Shp.mk T.h T.x T.c) n).fst.x.toNat)))]),
        IntKind.i64.wrap ((↑k : Int) + 1) = (↑k : Int) + 1,
        Weak (AV.lit (Value.int IntKind.i64 ((↑k : Int) + 1))) (AV.lit (Value.int IntKind.i64 (↑(k + 1) : Int))),
        BlkW
  (Blk.slc 21 1
        (List.map (row1 IntKind.i32)
          (gH (dF T n) T.c.toNat (depthE (Shp.mk T.h T.x T.c) n).fst.x.toNat k ++
            gW (dF T n) T.c.toNat k (depthE (Shp.mk T.h T.x T.c) n).fst.x.toNat)))
  (Blk.slc 21 1
        (List.map (row1 IntKind.i32) (gH (dF T n) T.c.toNat (depthE (Shp.mk T.h T.x T.c) n).fst.x.toNat (k + 1))))]) (by kernel_rfl) ?_
  exact ⟨(by (refine decide_eq_true ?_; omega)),
          (Weak.int (show ((0) : Int) = ((↑0 : Int)) from (by omega))),
          (BlkW.rows (rows_to (row1
    IntKind.i32) (l := gH (dF T n) T.c.toNat (depthE (Shp.mk T.h T.x T.c) n).fst.x.toNat
    k) (m := gH (dF T n) T.c.toNat (depthE (Shp.mk T.h T.x T.c) n).fst.x.toNat k ++
    gW (dF T n) T.c.toNat k
          0) rfl (show (gH (dF T n) T.c.toNat (depthE (Shp.mk T.h T.x T.c) n).fst.x.toNat
    k) = (gH (dF T n) T.c.toNat (depthE (Shp.mk T.h T.x T.c) n).fst.x.toNat k ++ gW (dF T n) T.c.toNat k 0) from (by (simp [gW]; done))))),
          (@rdOf_w (T) (n) (k) (by with_reducible assumption) (by with_reducible assumption)),
          (by exact IntWalk.i64_in _ (by omega)),
          (Weak.int (show (((↑k : Int) + 1) : Int) = ((↑(k + 1) : Int)) from (by omega))),
          (BlkW.rows (rows_to (row1
    IntKind.i32) (l := gH (dF T n) T.c.toNat (depthE (Shp.mk T.h T.x T.c) n).fst.x.toNat k ++
    gW (dF T n) T.c.toNat k
          (depthE (Shp.mk T.h T.x T.c)
                  n).fst.x.toNat) (m := gH (dF T n) T.c.toNat (depthE (Shp.mk T.h T.x T.c) n).fst.x.toNat
    (k +
          1)) rfl (show (gH (dF T n) T.c.toNat (depthE (Shp.mk T.h T.x T.c) n).fst.x.toNat k ++
    gW (dF T n) T.c.toNat k
          (depthE (Shp.mk T.h T.x T.c)
                  n).fst.x.toNat) = (gH (dF T n) T.c.toNat (depthE (Shp.mk T.h T.x T.c) n).fst.x.toNat (k + 1)) from (by rfl)))),
          trivial⟩
set_option maxRecDepth 100000 in
set_option maxHeartbeats 2000000 in
theorem rdOf_h_e (T : Ten) (n : Nod) (ok : DpOk T n) : VT Try.prog (fnC Try.f28 [1, 1, 1, 1, 1, 0, 1, 0, 0]) (rdOf_h_I T n ((depthE ⟨T.h, T.x, T.c⟩ n).1.h.toNat)) (.exit 0) (rdOf_h_Z T n) := by
  have nn := ok.n
  have g1 := nn.he
  have g2 := nn.xe
  have g3 := nn.sc
  have g4 := nn.c1
  have g5 := nn.c2
  refine VT.run (W := [.r [] [], .br false]) (G := [GI.any [29, 30, 31, 32], GI.sort])
    (ob := [decide ((↑(depthE (Shp.mk T.h T.x T.c) n).fst.h.toNat : Int) < (depthE (Shp.mk T.h T.x T.c) n).fst.h) = false]) (by kernel_rfl) ?_
  exact ⟨(by (refine decide_eq_false ?_; omega)),
          trivial⟩
theorem rdOf_h (T : Ten) (n : Nod) (ok : DpOk T n) : VT Try.prog (fnC Try.f28 [1, 1, 1, 1, 1, 0, 1, 0]) (rdOf_h_I T n 0) (.exit 0) (rdOf_h_Z T n) :=
  VT.loop (fun k => rdOf_h_I T n k) ((depthE ⟨T.h, T.x, T.c⟩ n).1.h.toNat) (fun k hk => rdOf_h_s T n ok k hk) (rdOf_h_e T n ok) (by intro h; cases h)

set_option maxRecDepth 100000 in
set_option maxHeartbeats 2000000 in
theorem rdOf_x (T : Ten) (n : Nod) (ok : DpOk T n) : VC Try.prog 28 ([ten .i8 T, nod n]) (.tup [ten .i32 ⟨(depthE ⟨T.h, T.x, T.c⟩ n).1.h, (depthE ⟨T.h, T.x, T.c⟩ n).1.x, (depthE ⟨T.h, T.x, T.c⟩ n).1.c, gH (dF T n) T.c.toNat (depthE ⟨T.h, T.x, T.c⟩ n).1.x.toNat (depthE ⟨T.h, T.x, T.c⟩ n).1.h.toNat⟩, i64 0]) := by
  have ok1 := ok.ok
  have okn := ok.okn
  have q2 := ok.r
  have q3 := ok.e
  have g3 := ok.n.sc
  have hz : VC Try.prog 28 ([ten .i8 T, nod n]) (AV.tup
  [AV.agg
      [AV.lit (Value.int IntKind.i64 (depthE (Shp.mk T.h T.x T.c) n).fst.h),
        AV.lit (Value.int IntKind.i64 (depthE (Shp.mk T.h T.x T.c) n).fst.x), AV.lit (Value.int IntKind.i64 T.c),
        AV.sl 1
          (List.map (row1 IntKind.i32)
            (gH (dF T n) T.c.toNat (depthE (Shp.mk T.h T.x T.c) n).fst.x.toNat
              (depthE (Shp.mk T.h T.x T.c) n).fst.h.toNat))],
    AV.lit (Value.int IntKind.i64 0)]) := by
    refine VC.run (fn := Try.f28) Try.func28 (W := [.r [] [], .r [] [PI.callr
   (bv
     (tenRight
       T))], .br false, .r [] [PI.callr
   (AV.tup
     [shp (depthE (Shp.mk T.h T.x T.c) n).fst,
       i64
         (depthE (Shp.mk T.h T.x T.c)
             n).snd])], .r [] [], .br false, .r [] [], .r [] [], .code [GI.any
    [0, 1, 5, 7, 12, 13, 14, 16, 17, 18, 19, 20, 21, 22, 23, 24, 27, 28],
  GI.weak 9 (AV.lit (Value.int IntKind.i64 (↑0 : Int))), GI.nilc 900 21 1 8 3,
  GI.blk 6
    (Blk.var
      [AV.lit (Value.int IntKind.i64 (depthE (Shp.mk T.h T.x T.c) n).fst.h),
        AV.lit (Value.int IntKind.i64 (depthE (Shp.mk T.h T.x T.c) n).fst.x), AV.lit (Value.int IntKind.i64 T.c)]),
  GI.blk 8
    (Blk.var
      [AV.lit (Value.int IntKind.i64 (depthE (Shp.mk T.h T.x T.c) n).fst.h),
        AV.lit (Value.int IntKind.i64 (depthE (Shp.mk T.h T.x T.c) n).fst.x), AV.lit (Value.int IntKind.i64 T.c),
        AV.own 900]),
  GI.sort] (Exit.exit
  0) (VS.mk
  [AV.any, AV.any, AV.ptr 2 0 0, AV.ptr 3 0 0, AV.ptr 4 0 0, AV.any, AV.ptr 6 0 0, AV.any, AV.ptr 8 0 0,
    AV.lit (Value.int IntKind.i64 (↑(depthE (Shp.mk T.h T.x T.c) n).fst.h.toNat : Int)), AV.any, AV.any, AV.any, AV.any,
    AV.any, AV.any, AV.any, AV.any, AV.any, AV.any, AV.any, AV.any, AV.any, AV.any, AV.any, AV.any, AV.any, AV.any,
    AV.any, AV.any, AV.any, AV.any, AV.any, AV.any, AV.any, AV.any, AV.any, AV.any, AV.any, AV.any, AV.any, AV.any,
    AV.any, AV.any, AV.any, AV.any, AV.any, AV.any, AV.any, AV.any, AV.any, AV.any, AV.any, AV.any, AV.any, AV.any,
    AV.any, AV.any, AV.any, AV.any]
  [(2,
      Blk.var
        [AV.lit (Value.int IntKind.i64 T.h), AV.lit (Value.int IntKind.i64 T.x), AV.lit (Value.int IntKind.i64 T.c),
          AV.sl 1 (List.map (row1 IntKind.i8) T.d)]),
    (3,
      Blk.var
        [AV.lit (Value.int IntKind.i64 n.kd), AV.lit (Value.int IntKind.i64 n.na), AV.lit (Value.int IntKind.i64 n.nb),
          AV.lit (Value.int IntKind.i64 n.nk), AV.lit (Value.int IntKind.i64 n.ns), AV.lit (Value.int IntKind.i64 n.np),
          AV.lit (Value.int IntKind.i64 n.no), AV.lit (Value.int IntKind.i8 n.za), AV.lit (Value.int IntKind.i8 n.zb),
          AV.sl 1 (List.map (row1 IntKind.i8) n.w), AV.sl 1 (List.map (row1 IntKind.i32) n.b),
          AV.lit (Value.int IntKind.i32 n.qm), AV.lit (Value.int IntKind.i64 n.qs), AV.lit (Value.int IntKind.i8 n.qz),
          AV.lit (Value.int IntKind.i32 n.rm), AV.lit (Value.int IntKind.i64 n.rs), AV.lit (Value.int IntKind.i8 n.rz),
          AV.lit (Value.int IntKind.i8 n.lo), AV.lit (Value.int IntKind.i8 n.hi)]),
    (4,
      Blk.var
        [AV.lit (Value.int IntKind.i64 0), AV.lit (Value.int IntKind.i64 0), AV.lit (Value.int IntKind.i64 0),
          AV.lit (Value.slice none 0 0)]),
    (6,
      Blk.var
        [AV.lit (Value.int IntKind.i64 (depthE (Shp.mk T.h T.x T.c) n).fst.h),
          AV.lit (Value.int IntKind.i64 (depthE (Shp.mk T.h T.x T.c) n).fst.x), AV.lit (Value.int IntKind.i64 T.c)]),
    (8,
      Blk.var
        [AV.lit (Value.int IntKind.i64 (depthE (Shp.mk T.h T.x T.c) n).fst.h),
          AV.lit (Value.int IntKind.i64 (depthE (Shp.mk T.h T.x T.c) n).fst.x), AV.lit (Value.int IntKind.i64 T.c),
          AV.own 900]),
    (900,
      Blk.slc 21 1
        (List.map (row1 IntKind.i32)
          (gH (dF T n) T.c.toNat (depthE (Shp.mk T.h T.x T.c) n).fst.x.toNat
            (depthE (Shp.mk T.h T.x T.c) n).fst.h.toNat)))]), .r [] []])
      (ob := [VC Try.prog 32
  [AV.agg
          [AV.lit (Value.int IntKind.i64 T.h), AV.lit (Value.int IntKind.i64 T.x), AV.lit (Value.int IntKind.i64 T.c),
            AV.sl 1 (List.map (row1 IntKind.i8) T.d)]]
  (AV.lit (Value.bool (tenRight T))),
        (!tenRight T) = false,
        VC Try.prog 30
  [AV.agg [AV.lit (Value.int IntKind.i64 T.h), AV.lit (Value.int IntKind.i64 T.x), AV.lit (Value.int IntKind.i64 T.c)],
        AV.agg
          [AV.lit (Value.int IntKind.i64 n.kd), AV.lit (Value.int IntKind.i64 n.na), AV.lit (Value.int IntKind.i64 n.nb),
            AV.lit (Value.int IntKind.i64 n.nk), AV.lit (Value.int IntKind.i64 n.ns), AV.lit (Value.int IntKind.i64 n.np),
            AV.lit (Value.int IntKind.i64 n.no), AV.lit (Value.int IntKind.i8 n.za), AV.lit (Value.int IntKind.i8 n.zb),
            AV.sl 1 (List.map (row1 IntKind.i8) n.w), AV.sl 1 (List.map (row1 IntKind.i32) n.b),
            AV.lit (Value.int IntKind.i32 n.qm), AV.lit (Value.int IntKind.i64 n.qs), AV.lit (Value.int IntKind.i8 n.qz),
            AV.lit (Value.int IntKind.i32 n.rm), AV.lit (Value.int IntKind.i64 n.rs), AV.lit (Value.int IntKind.i8 n.rz),
            AV.lit (Value.int IntKind.i8 n.lo), AV.lit (Value.int IntKind.i8 n.hi)]]
  (AV.tup
        [AV.agg
            [AV.lit (Value.int IntKind.i64 (depthE (Shp.mk T.h T.x T.c) n).fst.h),
              AV.lit (Value.int IntKind.i64 (depthE (Shp.mk T.h T.x T.c) n).fst.x),
              AV.lit (Value.int IntKind.i64 (depthE (Shp.mk T.h T.x T.c) n).fst.c)],
          AV.lit (Value.int IntKind.i64 (depthE (Shp.mk T.h T.x T.c) n).snd)]),
        ((depthE (Shp.mk T.h T.x T.c) n).snd != 0) = false,
        Weak (AV.lit (Value.int IntKind.i64 0)) (AV.lit (Value.int IntKind.i64 (↑0 : Int))),
        BlkW
  (Blk.var
        [AV.lit (Value.int IntKind.i64 (depthE (Shp.mk T.h T.x T.c) n).fst.h),
          AV.lit (Value.int IntKind.i64 (depthE (Shp.mk T.h T.x T.c) n).fst.x),
          AV.lit (Value.int IntKind.i64 (depthE (Shp.mk T.h T.x T.c) n).fst.c)])
  (Blk.var
        [AV.lit (Value.int IntKind.i64 (depthE (Shp.mk T.h T.x T.c) n).fst.h),
          AV.lit (Value.int IntKind.i64 (depthE (Shp.mk T.h T.x T.c) n).fst.x), AV.lit (Value.int IntKind.i64 T.c)]),
        BlkW
  (Blk.var
        [AV.lit (Value.int IntKind.i64 (depthE (Shp.mk T.h T.x T.c) n).fst.h),
          AV.lit (Value.int IntKind.i64 (depthE (Shp.mk T.h T.x T.c) n).fst.x),
          AV.lit (Value.int IntKind.i64 (depthE (Shp.mk T.h T.x T.c) n).fst.c), AV.own 900])
  (Blk.var
        [AV.lit (Value.int IntKind.i64 (depthE (Shp.mk T.h T.x T.c) n).fst.h),
          AV.lit (Value.int IntKind.i64 (depthE (Shp.mk T.h T.x T.c) n).fst.x), AV.lit (Value.int IntKind.i64 T.c),
          AV.own 900]),
        VT Try.prog (fnC Try.f28 [1, 1, 1, 1, 1, 0, 1, 0])
  (VS.mk
        [AV.any, AV.any, AV.ptr 2 0 0, AV.ptr 3 0 0, AV.ptr 4 0 0, AV.any, AV.ptr 6 0 0, AV.any, AV.ptr 8 0 0,
          AV.lit (Value.int IntKind.i64 (↑0 : Int)), AV.any, AV.any, AV.any, AV.any, AV.any, AV.any, AV.any, AV.any, AV.any,
          AV.any, AV.any, AV.any, AV.any, AV.any, AV.any, AV.any, AV.any, AV.any, AV.any, AV.any, AV.any, AV.any, AV.any,
          AV.any, AV.any, AV.any, AV.any, AV.any, AV.any, AV.any, AV.any, AV.any, AV.any, AV.any, AV.any, AV.any, AV.any,
          AV.any, AV.any, AV.any, AV.any, AV.any, AV.any, AV.any, AV.any, AV.any, AV.any, AV.any, AV.any, AV.any]
        [(2,
            Blk.var
              [AV.lit (Value.int IntKind.i64 T.h), AV.lit (Value.int IntKind.i64 T.x), AV.lit (Value.int IntKind.i64 T.c),
                AV.sl 1 (List.map (row1 IntKind.i8) T.d)]),
          (3,
            Blk.var
              [AV.lit (Value.int IntKind.i64 n.kd), AV.lit (Value.int IntKind.i64 n.na),
                AV.lit (Value.int IntKind.i64 n.nb), AV.lit (Value.int IntKind.i64 n.nk),
                AV.lit (Value.int IntKind.i64 n.ns), AV.lit (Value.int IntKind.i64 n.np),
                AV.lit (Value.int IntKind.i64 n.no), AV.lit (Value.int IntKind.i8 n.za), AV.lit (Value.int IntKind.i8 n.zb),
                AV.sl 1 (List.map (row1 IntKind.i8) n.w), AV.sl 1 (List.map (row1 IntKind.i32) n.b),
                AV.lit (Value.int IntKind.i32 n.qm), AV.lit (Value.int IntKind.i64 n.qs),
                AV.lit (Value.int IntKind.i8 n.qz), AV.lit (Value.int IntKind.i32 n.rm),
                AV.lit (Value.int IntKind.i64 n.rs), AV.lit (Value.int IntKind.i8 n.rz), AV.lit (Value.int IntKind.i8 n.lo),
                AV.lit (Value.int IntKind.i8 n.hi)]),
          (4,
            Blk.var
              [AV.lit (Value.int IntKind.i64 0), AV.lit (Value.int IntKind.i64 0), AV.lit (Value.int IntKind.i64 0),
                AV.lit (Value.slice none 0 0)]),
          (6,
            Blk.var
              [AV.lit (Value.int IntKind.i64 (depthE (Shp.mk T.h T.x T.c) n).fst.h),
                AV.lit (Value.int IntKind.i64 (depthE (Shp.mk T.h T.x T.c) n).fst.x), AV.lit (Value.int IntKind.i64 T.c)]),
          (8,
            Blk.var
              [AV.lit (Value.int IntKind.i64 (depthE (Shp.mk T.h T.x T.c) n).fst.h),
                AV.lit (Value.int IntKind.i64 (depthE (Shp.mk T.h T.x T.c) n).fst.x), AV.lit (Value.int IntKind.i64 T.c),
                AV.own 900]),
          (900, Blk.slc 21 1 [])])
  (Exit.exit 0)
  (VS.mk
        [AV.any, AV.any, AV.ptr 2 0 0, AV.ptr 3 0 0, AV.ptr 4 0 0, AV.any, AV.ptr 6 0 0, AV.any, AV.ptr 8 0 0,
          AV.lit (Value.int IntKind.i64 (↑(depthE (Shp.mk T.h T.x T.c) n).fst.h.toNat : Int)), AV.any, AV.any, AV.any,
          AV.any, AV.any, AV.any, AV.any, AV.any, AV.any, AV.any, AV.any, AV.any, AV.any, AV.any, AV.any, AV.any, AV.any,
          AV.any, AV.any, AV.any, AV.any, AV.any, AV.any, AV.any, AV.any, AV.any, AV.any, AV.any, AV.any, AV.any, AV.any,
          AV.any, AV.any, AV.any, AV.any, AV.any, AV.any, AV.any, AV.any, AV.any, AV.any, AV.any, AV.any, AV.any, AV.any,
          AV.any, AV.any, AV.any, AV.any, AV.any]
        [(2,
            Blk.var
              [AV.lit (Value.int IntKind.i64 T.h), AV.lit (Value.int IntKind.i64 T.x), AV.lit (Value.int IntKind.i64 T.c),
                AV.sl 1 (List.map (row1 IntKind.i8) T.d)]),
          (3,
            Blk.var
              [AV.lit (Value.int IntKind.i64 n.kd), AV.lit (Value.int IntKind.i64 n.na),
                AV.lit (Value.int IntKind.i64 n.nb), AV.lit (Value.int IntKind.i64 n.nk),
                AV.lit (Value.int IntKind.i64 n.ns), AV.lit (Value.int IntKind.i64 n.np),
                AV.lit (Value.int IntKind.i64 n.no), AV.lit (Value.int IntKind.i8 n.za), AV.lit (Value.int IntKind.i8 n.zb),
                AV.sl 1 (List.map (row1 IntKind.i8) n.w), AV.sl 1 (List.map (row1 IntKind.i32) n.b),
                AV.lit (Value.int IntKind.i32 n.qm), AV.lit (Value.int IntKind.i64 n.qs),
                AV.lit (Value.int IntKind.i8 n.qz), AV.lit (Value.int IntKind.i32 n.rm),
                AV.lit (Value.int IntKind.i64 n.rs), AV.lit (Value.int IntKind.i8 n.rz), AV.lit (Value.int IntKind.i8 n.lo),
                AV.lit (Value.int IntKind.i8 n.hi)]),
          (4,
            Blk.var
              [AV.lit (Value.int IntKind.i64 0), AV.lit (Value.int IntKind.i64 0), AV.lit (Value.int IntKind.i64 0),
                AV.lit (Value.slice none 0 0)]),
          (6,
            Blk.var
              [AV.lit (Value.int IntKind.i64 (depthE (Shp.mk T.h T.x T.c) n).fst.h),
                AV.lit (Value.int IntKind.i64 (depthE (Shp.mk T.h T.x T.c) n).fst.x), AV.lit (Value.int IntKind.i64 T.c)]),
          (8,
            Blk.var
              [AV.lit (Value.int IntKind.i64 (depthE (Shp.mk T.h T.x T.c) n).fst.h),
                AV.lit (Value.int IntKind.i64 (depthE (Shp.mk T.h T.x T.c) n).fst.x), AV.lit (Value.int IntKind.i64 T.c),
                AV.own 900]),
          (900,
            Blk.slc 21 1
              (List.map (row1 IntKind.i32)
                (gH (dF T n) T.c.toNat (depthE (Shp.mk T.h T.x T.c) n).fst.x.toNat
                  (depthE (Shp.mk T.h T.x T.c) n).fst.h.toNat)))])]) (by kernel_rfl) ?_
    exact ⟨(@refTRight_v (T) (by with_reducible assumption)),
            (by (simp; omega)),
            (@refDepthShape_v (Shp.mk T.h T.x T.c) (n) (by (exact Shp.mk_ok ok1.h ok1.x ok1.c)) (by with_reducible assumption)),
            (by (simp; omega)),
            (Weak.int (show ((0) : Int) = ((↑0 : Int)) from (by omega))),
            (BlkW.var (.cons (.refl _) (.cons (.refl _) (.cons (Weak.int (show (((depthE (Shp.mk T.h T.x T.c)
              n).fst.c) : Int) = (T.c) from (by with_reducible assumption))) .nil)))),
            (BlkW.var (.cons (.refl _) (.cons (.refl _) (.cons (Weak.int (show (((depthE (Shp.mk T.h T.x T.c)
              n).fst.c) : Int) = (T.c) from (by with_reducible assumption))) (.cons (.refl _) .nil))))),
            (@rdOf_h (T) (n) (by with_reducible assumption)),
            trivial⟩
  exact hz.weak (WeakL.refl _) (Weak.tup (.cons (Weak.agg (.cons (.refl _) (.cons (.refl _) (.cons (Weak.int (show ((T.c) : Int) = ((depthE
      (Shp.mk T.h T.x T.c) n).fst.c) from (by omega))) (.cons (.refl _) .nil))))) (.cons (.refl _) .nil)))
end Go.Proofs.Ytcegfkmelcjdhaa

