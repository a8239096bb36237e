/- What a window makes, by the program. No condition. -/
import Derived.Test.YtcegfkmelcjdhaaCv
namespace Go.Proofs.Ytcegfkmelcjdhaa
open Go.RowKit
set_option linter.unusedSimpArgs false
set_option linter.unusedVariables false
set_option linter.unnecessarySimpa false

/-- The number at a place. -/
abbrev gt (l : List Int) (i : Int) : Int := l.getD i.toNat 0
theorem gt_of {P : Int → Prop} {l : List Int} (h : ∀ v ∈ l, P v) (h0 : P 0) (i : Nat) : P (l.getD i 0) := by
  rw [List.getD_eq_getElem?_getD]
  by_cases hi : i < l.length
  · rw [List.getElem?_eq_getElem hi]; exact h _ (List.getElem_mem hi)
  · rw [List.getElem?_eq_none (by omega)]; exact h0
theorem gt8 {l : List Int} (h : ∀ v ∈ l, In8 v) (i : Nat) : -128 ≤ l.getD i 0 ∧ l.getD i 0 ≤ 127 := gt_of h ⟨by decide, by decide⟩ i
theorem gt32 {l : List Int} (h : ∀ v ∈ l, In32 v) (i : Nat) : -2147483648 ≤ l.getD i 0 ∧ l.getD i 0 ≤ 2147483647 := gt_of h ⟨by decide, by decide⟩ i
theorem prod_bd {a b : Int} (h : -128 ≤ a ∧ a ≤ 127) (h' : -255 ≤ b ∧ b ≤ 255) : -32640 ≤ a * b ∧ a * b ≤ 32640 := by
  have h1 : (a + 128) * (255 - b) ≥ 0 := Int.mul_nonneg (by omega) (by omega)
  have h2 : (128 - a) * (255 + b) ≥ 0 := Int.mul_nonneg (by omega) (by omega)
  have h3 : (a + 128) * (255 + b) ≥ 0 := Int.mul_nonneg (by omega) (by omega)
  have h4 : (128 - a) * (255 - b) ≥ 0 := Int.mul_nonneg (by omega) (by omega)
  simp only [Int.add_mul, Int.sub_mul, Int.mul_add, Int.mul_sub] at h1 h2 h3 h4
  omega
abbrev win (T : Ten) (n : Nod) : AV := .agg ([i64 T.h, i64 T.x, i64 T.c, ints .i8 T.d] ++ nodC n)
/-- One product. -/
def cterm (T : Ten) (n : Nod) (a f : Int) (c : Nat) : Int := gt n.w (a + c) * (gt T.d (f + c) - n.za)
theorem cterm_bd {T : Ten} {n : Nod} (ok : T.Ok) (okn : n.Ok) (a f : Int) (c : Nat) : -32640 ≤ cterm T n a f c ∧ cterm T n a f c ≤ 32640 := by
  have h1 := gt8 okn.w (a + c).toNat
  have h2 := gt8 ok.d (f + c).toNat
  have h3 : -128 ≤ n.za ∧ n.za ≤ 127 := okn.za
  exact prod_bd h1 (b := T.d.getD (f + c).toNat 0 - n.za) (by omega)
/-- Sums of 32 bits. -/
def acc32 (v : Int) (f : Nat → Int) : Nat → Int
  | 0 => v
  | k + 1 => IntKind.i32.wrap (acc32 v f k + f k)
noncomputable def cvRow_c_I (T : Ten) (n : Nod) (h w a j f v : Int) (k : Nat) : VS := stt 100 [(3, i64 h), (4, i64 w), (5, .ptr 5 0 0), (11, .ptr 11 0 0), (12, i32 (acc32 v (cterm T n (a + j * T.c) f) k)), (13, i64 a), (14, i64 j), (16, i64 f), (62, i64 T.c), (63, i64 k)] [(5, .var ([i64 T.h, i64 T.x, i64 T.c, ints .i8 T.d] ++ nodC n)), (11, .var [i64 T.h, i64 T.x, i64 T.c])]
noncomputable def cvRow_c_Z (T : Ten) (n : Nod) (h w a j f v : Int) : VS := cvRow_c_I T n h w a j f v (T.c.toNat)
set_option maxRecDepth 100000 in
set_option maxHeartbeats 2000000 in
theorem cvRow_c_s (T : Ten) (n : Nod) (h w a j f v : Int) (ok : T.Ok) (okn : n.Ok) (c1 : 1 ≤ T.c) (a0 : 0 ≤ a) (j0 : 0 ≤ j * T.c) (aw : a + j * T.c + T.c ≤ n.w.length) (wl : n.w.length ≤ 16384) (f0 : 0 ≤ f) (fd : f + T.c ≤ T.d.length) (dl : T.d.length ≤ 1024) (k : Nat) (hk : k < T.c.toNat) : VT Try.prog (fnC Try.f98 [1, 0, 1, 1, 1, 1, 1, 0, 1, 1, 0, 1, 1, 0, 0]) (cvRow_c_I T n h w a j f v k) .normal (cvRow_c_I T n h w a j f v (k + 1)) := by
  have h1 := gt8 okn.w (a + j * T.c + (k : Int)).toNat
  have h2 := gt8 ok.d (f + (k : Int)).toNat
  have h3 : -128 ≤ n.za ∧ n.za ≤ 127 := okn.za
  have h4 := prod_bd h1 (b := T.d.getD (f + (k : Int)).toNat 0 - n.za) (by omega)
  refine VT.run (W := [.r [] [], .br true, .r [] [], .r [] [PI.n (j * T.c),
 PI.n (a + j * T.c),
 PI.n (a + j * T.c + (↑k : Int)),
 PI.row [AV.lit (Value.int IntKind.i8 (n.w.getD (a + j * T.c + (↑k : Int)).toNat 0))],
 PI.n (n.w.getD (a + j * T.c + (↑k : Int)).toNat 0),
 PI.n (f + (↑k : Int)),
 PI.row [AV.lit (Value.int IntKind.i8 (T.d.getD (f + (↑k : Int)).toNat 0))],
 PI.n (T.d.getD (f + (↑k : Int)).toNat 0),
 PI.n n.za,
 PI.n (T.d.getD (f + (↑k : Int)).toNat 0 - n.za),
 PI.n (n.w.getD (a + j * T.c + (↑k : Int)).toNat 0 * (T.d.getD (f + (↑k : Int)).toNat 0 - n.za)),
 PI.w], .r [] [PI.n ((↑k : Int) + 1)]]) (G := [GI.any
    [17, 64, 65, 66, 67, 68, 69, 70, 71, 72, 73, 74, 75, 76, 77, 78, 79, 80, 81, 82, 83, 84, 85, 86, 87, 88, 89, 90, 91,
      92, 93, 94, 95, 96, 97],
  GI.weak 12 (AV.lit (Value.int IntKind.i32 (acc32 v (cterm T n (a + j * T.c) f) (k + 1)))),
  GI.weak 63 (AV.lit (Value.int IntKind.i64 (↑(k + 1) : Int))), GI.sort])
    (ob := [decide ((↑k : Int) < T.c) = true,
        IntKind.i64.wrap (j * T.c) = j * T.c,
        IntKind.i64.wrap (a + j * T.c) = a + j * T.c,
        IntKind.i64.wrap (a + j * T.c + (↑k : Int)) = a + j * T.c + (↑k : Int),
        0 ≤ a + j * T.c + (↑k : Int),
        (List.map (row1 IntKind.i8) n.w)[(a + j * T.c + (↑k : Int)).toNat]? =
  some [AV.lit (Value.int IntKind.i8 (n.w.getD (a + j * T.c + (↑k : Int)).toNat 0))],
        IntKind.i32.wrap (n.w.getD (a + j * T.c + (↑k : Int)).toNat 0) = n.w.getD (a + j * T.c + (↑k : Int)).toNat 0,
        IntKind.i64.wrap (f + (↑k : Int)) = f + (↑k : Int),
        0 ≤ f + (↑k : Int),
        (List.map (row1 IntKind.i8) T.d)[(f + (↑k : Int)).toNat]? =
  some [AV.lit (Value.int IntKind.i8 (T.d.getD (f + (↑k : Int)).toNat 0))],
        IntKind.i32.wrap (T.d.getD (f + (↑k : Int)).toNat 0) = T.d.getD (f + (↑k : Int)).toNat 0,
        IntKind.i32.wrap n.za = n.za,
        IntKind.i32.wrap (T.d.getD (f + (↑k : Int)).toNat 0 - n.za) = T.d.getD (f + (↑k : Int)).toNat 0 - n.za,
        IntKind.i32.wrap (n.w.getD (a + j * T.c + (↑k : Int)).toNat 0 * (T.d.getD (f + (↑k : Int)).toNat 0 - n.za)) =
  n.w.getD (a + j * T.c + (↑k : Int)).toNat 0 * (T.d.getD (f + (↑k : Int)).toNat 0 - n.za),
        IntKind.i64.wrap ((↑k : Int) + 1) = (↑k : Int) + 1,
        Weak
  (AV.lit
        (Value.int IntKind.i32
          (IntKind.i32.wrap
            (acc32 v (cterm T n (a + j * T.c) f) k +
              n.w.getD (a + j * T.c + (↑k : Int)).toNat 0 * (T.d.getD (f + (↑k : Int)).toNat 0 - n.za)))))
  (AV.lit (Value.int IntKind.i32 (acc32 v (cterm T n (a + j * T.c) f) (k + 1)))),
        Weak (AV.lit (Value.int IntKind.i64 ((↑k : Int) + 1))) (AV.lit (Value.int IntKind.i64 (↑(k + 1) : Int)))]) (by kernel_rfl) ?_
  exact ⟨(by (refine decide_eq_true ?_; omega)),
          (by exact IntWalk.i64_in _ (by omega)),
          (by exact IntWalk.i64_in _ (by omega)),
          (by exact IntWalk.i64_in _ (by omega)),
          (by omega),
          (map_at (row1 IntKind.i8) (0) (l := n.w) (i := (a + j * T.c + (↑k : Int)).toNat) (by omega)),
          (by exact IntWalk.i32_in _ (by omega)),
          (by exact IntWalk.i64_in _ (by omega)),
          (by omega),
          (map_at (row1 IntKind.i8) (0) (l := T.d) (i := (f + (↑k : Int)).toNat) (by omega)),
          (by exact IntWalk.i32_in _ (by omega)),
          (by exact IntWalk.i32_in _ (by omega)),
          (by exact IntWalk.i32_in _ (by omega)),
          (by exact IntWalk.i32_in _ (by omega)),
          (by exact IntWalk.i64_in _ (by omega)),
          (Weak.int (show ((IntKind.i32.wrap
    (acc32 v (cterm T n (a + j * T.c) f) k +
          n.w.getD (a + j * T.c + (↑k : Int)).toNat 0 *
            (T.d.getD (f + (↑k : Int)).toNat 0 - n.za))) : Int) = (acc32 v (cterm T n (a + j * T.c) f) (k + 1)) from (by rfl))),
          (Weak.int (show (((↑k : Int) + 1) : Int) = ((↑(k + 1) : Int)) from (by omega))),
          trivial⟩
set_option maxRecDepth 100000 in
set_option maxHeartbeats 2000000 in
theorem cvRow_c_e (T : Ten) (n : Nod) (h w a j f v : Int) (ok : T.Ok) (okn : n.Ok) (c1 : 1 ≤ T.c) (a0 : 0 ≤ a) (j0 : 0 ≤ j * T.c) (aw : a + j * T.c + T.c ≤ n.w.length) (wl : n.w.length ≤ 16384) (f0 : 0 ≤ f) (fd : f + T.c ≤ T.d.length) (dl : T.d.length ≤ 1024) : VT Try.prog (fnC Try.f98 [1, 0, 1, 1, 1, 1, 1, 0, 1, 1, 0, 1, 1, 0, 0]) (cvRow_c_I T n h w a j f v (T.c.toNat)) (.exit 0) (cvRow_c_Z T n h w a j f v) := by
  refine VT.run (W := [.r [] [], .br false]) (G := [GI.any [64], GI.sort])
    (ob := [decide ((↑T.c.toNat : Int) < T.c) = false]) (by kernel_rfl) ?_
  exact ⟨(by (refine decide_eq_false ?_; omega)),
          trivial⟩
theorem cvRow_c (T : Ten) (n : Nod) (h w a j f v : Int) (ok : T.Ok) (okn : n.Ok) (c1 : 1 ≤ T.c) (a0 : 0 ≤ a) (j0 : 0 ≤ j * T.c) (aw : a + j * T.c + T.c ≤ n.w.length) (wl : n.w.length ≤ 16384) (f0 : 0 ≤ f) (fd : f + T.c ≤ T.d.length) (dl : T.d.length ≤ 1024) : VT Try.prog (fnC Try.f98 [1, 0, 1, 1, 1, 1, 1, 0, 1, 1, 0, 1, 1, 0]) (cvRow_c_I T n h w a j f v 0) (.exit 0) (cvRow_c_Z T n h w a j f v) :=
  VT.loop (fun k => cvRow_c_I T n h w a j f v k) (T.c.toNat) (fun k hk => cvRow_c_s T n h w a j f v ok okn c1 a0 j0 aw wl f0 fd dl k hk) (cvRow_c_e T n h w a j f v ok okn c1 a0 j0 aw wl f0 fd dl) (by intro h; cases h)
/-- What a row of a window makes. -/
def rowAcc (T : Ten) (n : Nod) (a h w : Int) : Nat → Int
  | 0 => 0
  | j + 1 => if 0 ≤ w + (j : Int) ∧ w + (j : Int) < T.x then acc32 (rowAcc T n a h w j) (cterm T n (a + (j : Int) * T.c) ((h * T.x + (w + (j : Int))) * T.c)) T.c.toNat else rowAcc T n a h w j
noncomputable def cvRow_j_I (T : Ten) (n : Nod) (o i h w : Int) (k : Nat) : VS := stt 100 [(3, i64 h), (4, i64 w), (5, .ptr 5 0 0), (11, .ptr 11 0 0), (12, i32 (rowAcc T n ((o * n.nk + i) * n.nk * T.c) h w k)), (13, i64 ((o * n.nk + i) * n.nk * T.c)), (14, i64 k)] [(5, .var ([i64 T.h, i64 T.x, i64 T.c, ints .i8 T.d] ++ nodC n)), (11, .var [i64 T.h, i64 T.x, i64 T.c])]
noncomputable def cvRow_j_Z (T : Ten) (n : Nod) (o i h w : Int) : VS := stt 100 [(10, i32 (rowAcc T n ((o * n.nk + i) * n.nk * T.c) h w n.nk.toNat))] []
noncomputable def cvRow_j_A (T : Ten) (n : Nod) (o i h w : Int) : VS := stt 100 [(1, i64 o), (2, i64 i), (3, i64 h), (4, i64 w), (5, .ptr 5 0 0)] [(5, .var ([i64 T.h, i64 T.x, i64 T.c, ints .i8 T.d] ++ nodC n))]
set_option maxRecDepth 100000 in
set_option maxHeartbeats 2000000 in
theorem cvRow_j_s (T : Ten) (n : Nod) (o i h w : Int) (ok : T.Ok) (okn : n.Ok) (c1 : 1 ≤ T.c) (x0 : 1 ≤ T.x) (x1 : T.x ≤ 16) (k1 : 1 ≤ n.nk) (k5 : n.nk ≤ 5) (o0 : 0 ≤ o * n.nk) (o1 : o * n.nk ≤ 16384) (i0 : 0 ≤ i) (i1 : i ≤ 5) (a0 : 0 ≤ (o * n.nk + i) * n.nk) (a1 : (o * n.nk + i) * n.nk ≤ 16384) (a2 : 0 ≤ (o * n.nk + i) * n.nk * T.c) (aw : (o * n.nk + i) * n.nk * T.c + n.nk * T.c ≤ n.w.length) (wl : n.w.length ≤ 16384) (h0 : 0 ≤ h * T.x) (fd : (h * T.x + T.x) * T.c ≤ T.d.length) (dl : T.d.length ≤ 1024) (w0 : -100 ≤ w) (w1 : w ≤ 10000) (k : Nat) (hk : k < n.nk.toNat) : VT Try.prog (behC 0 (fnC Try.f98 [1, 0])) (cvRow_j_I T n o i h w k) (.goto 0) (cvRow_j_I T n o i h w (k + 1)) := by
  have g0 : 0 ≤ (k : Int) * T.c := Int.mul_nonneg (by omega) (by omega)
  have g1 : ((k : Int) + 1) * T.c ≤ n.nk * T.c := Int.mul_le_mul_of_nonneg_right (by omega) (by omega)
  have g2 : ((k : Int) + 1) * T.c = (k : Int) * T.c + T.c := by rw [Int.add_mul, Int.one_mul]
  have g4 : (h * T.x + T.x) * 1 ≤ (h * T.x + T.x) * T.c := Int.mul_le_mul_of_nonneg_left (by omega) (by omega)
  have g3 : 0 ≤ w + (k : Int) → w + (k : Int) < T.x → 0 ≤ (h * T.x + (w + (k : Int))) * T.c ∧ (h * T.x + (w + (k : Int))) * T.c + T.c ≤ T.d.length := by
    intro x0 x1
    have := idx_bd (a := h * T.x + (w + (k : Int))) (m := h * T.x + T.x) (b := T.c - 1) (n := T.c) (by omega) (by omega) (by omega) (by omega)
    have := Int.mul_nonneg (show 0 ≤ h * T.x + (w + (k : Int)) by omega) (show 0 ≤ T.c by omega)
    omega
  rcases Bool.eq_false_or_eq_true (decide (w + (↑k : Int) ≥ 0)) with hc0 | hc0
  · have gc0 : w + (↑k : Int) ≥ 0 := of_decide_eq_true hc0
    rcases Bool.eq_false_or_eq_true (decide (w + (↑k : Int) < T.x)) with hc1 | hc1
    · have gc1 : w + (↑k : Int) < T.x := of_decide_eq_true hc1
      refine VT.run (W := [.r [] [], .br false, .r [] [PI.n
   (w +
     (↑k :
       Int))], .r [] [PI.br true,
 PI.br true,
 PI.br true,
 PI.br true,
 PI.br
   true], .br true, .r [] [PI.n (h * T.x),
 PI.n (h * T.x + (w + (↑k : Int))),
 PI.n
   ((h * T.x + (w + (↑k : Int))) *
     T.c)], .r [] [], .code [GI.any
    [15, 35, 36, 37, 38, 39, 41, 42, 43, 44, 45, 46, 47, 48, 49, 50, 51, 52, 53, 54, 55, 56, 57, 58, 59, 60, 61],
  GI.weak 63 (AV.lit (Value.int IntKind.i64 (↑0 : Int))),
  GI.sort] (Exit.exit
  0) (VS.mk
  [AV.any, AV.any, AV.any, AV.lit (Value.int IntKind.i64 h), AV.lit (Value.int IntKind.i64 w), AV.ptr 5 0 0, AV.any,
    AV.any, AV.any, AV.any, AV.any, AV.ptr 11 0 0,
    AV.lit
      (Value.int IntKind.i32
        (acc32 (rowAcc T n ((o * n.nk + i) * n.nk * T.c) h w k)
          (cterm T n ((o * n.nk + i) * n.nk * T.c + (↑k : Int) * T.c) ((h * T.x + (w + (↑k : Int))) * T.c)) T.c.toNat)),
    AV.lit (Value.int IntKind.i64 ((o * n.nk + i) * n.nk * T.c)), AV.lit (Value.int IntKind.i64 (↑k : Int)), AV.any,
    AV.lit (Value.int IntKind.i64 ((h * T.x + (w + (↑k : Int))) * T.c)), AV.any, AV.any, AV.any, AV.any, AV.any, AV.any,
    AV.any, AV.any, AV.any, AV.any, AV.any, AV.any, AV.any, AV.any, AV.any, AV.any, AV.any, AV.any, AV.any, AV.any,
    AV.any, AV.any, AV.any, AV.any, AV.any, AV.any, AV.any, AV.any, AV.any, AV.any, AV.any, AV.any, AV.any, AV.any,
    AV.any, AV.any, AV.any, AV.any, AV.any, AV.any, AV.any, AV.any, AV.any, AV.any, AV.any,
    AV.lit (Value.int IntKind.i64 T.c), AV.lit (Value.int IntKind.i64 (↑T.c.toNat : Int)), AV.any, AV.any, AV.any,
    AV.any, AV.any, AV.any, AV.any, AV.any, AV.any, AV.any, AV.any, AV.any, AV.any, AV.any, AV.any, AV.any, AV.any,
    AV.any, AV.any, AV.any, AV.any, AV.any, AV.any, AV.any, AV.any, AV.any, AV.any, AV.any, AV.any, AV.any, AV.any,
    AV.any, AV.any, AV.any, AV.any, AV.any]
  [(5,
      Blk.var
        [AV.lit (Value.int IntKind.i64 T.h), AV.lit (Value.int IntKind.i64 T.x), AV.lit (Value.int IntKind.i64 T.c),
          AV.sl 1 (List.map (row1 IntKind.i8) T.d), AV.lit (Value.int IntKind.i64 n.kd),
          AV.lit (Value.int IntKind.i64 n.na), AV.lit (Value.int IntKind.i64 n.nb), AV.lit (Value.int IntKind.i64 n.nk),
          AV.lit (Value.int IntKind.i64 n.ns), AV.lit (Value.int IntKind.i64 n.np), AV.lit (Value.int IntKind.i64 n.no),
          AV.lit (Value.int IntKind.i8 n.za), AV.lit (Value.int IntKind.i8 n.zb),
          AV.sl 1 (List.map (row1 IntKind.i8) n.w), AV.sl 1 (List.map (row1 IntKind.i32) n.b),
          AV.lit (Value.int IntKind.i32 n.qm), AV.lit (Value.int IntKind.i64 n.qs), AV.lit (Value.int IntKind.i8 n.qz),
          AV.lit (Value.int IntKind.i32 n.rm), AV.lit (Value.int IntKind.i64 n.rs), AV.lit (Value.int IntKind.i8 n.rz),
          AV.lit (Value.int IntKind.i8 n.lo), AV.lit (Value.int IntKind.i8 n.hi)]),
    (11,
      Blk.var
        [AV.lit (Value.int IntKind.i64 T.h), AV.lit (Value.int IntKind.i64 T.x),
          AV.lit (Value.int IntKind.i64 T.c)])]), .r [] [PI.n ((↑k : Int) + 1)]]) (G := [GI.any [16, 62, 63, 98, 99],
  GI.weak 12 (AV.lit (Value.int IntKind.i32 (rowAcc T n ((o * n.nk + i) * n.nk * T.c) h w (k + 1)))),
  GI.weak 14 (AV.lit (Value.int IntKind.i64 (↑(k + 1) : Int))), GI.sort])
        (ob := [((↑k : Int) == n.nk) = false,
            IntKind.i64.wrap (w + (↑k : Int)) = w + (↑k : Int),
            decide (w + (↑k : Int) ≥ 0) = true,
            decide (w + (↑k : Int) ≥ 0) = true,
            decide (w + (↑k : Int) ≥ 0) = true,
            decide (w + (↑k : Int) ≥ 0) = true,
            decide (w + (↑k : Int) ≥ 0) = true,
            decide (w + (↑k : Int) < T.x) = true,
            IntKind.i64.wrap (h * T.x) = h * T.x,
            IntKind.i64.wrap (h * T.x + (w + (↑k : Int))) = h * T.x + (w + (↑k : Int)),
            IntKind.i64.wrap ((h * T.x + (w + (↑k : Int))) * T.c) = (h * T.x + (w + (↑k : Int))) * T.c,
            Weak (AV.lit (Value.int IntKind.i64 0)) (AV.lit (Value.int IntKind.i64 (↑0 : Int))),
            VT Try.prog (fnC Try.f98 [1, 0, 1, 1, 1, 1, 1, 0, 1, 1, 0, 1, 1, 0])
  (VS.mk
            [AV.any, AV.any, AV.any, AV.lit (Value.int IntKind.i64 h), AV.lit (Value.int IntKind.i64 w), AV.ptr 5 0 0, AV.any,
              AV.any, AV.any, AV.any, AV.any, AV.ptr 11 0 0,
              AV.lit (Value.int IntKind.i32 (rowAcc T n ((o * n.nk + i) * n.nk * T.c) h w k)),
              AV.lit (Value.int IntKind.i64 ((o * n.nk + i) * n.nk * T.c)), AV.lit (Value.int IntKind.i64 (↑k : Int)), AV.any,
              AV.lit (Value.int IntKind.i64 ((h * T.x + (w + (↑k : Int))) * T.c)), AV.any, AV.any, AV.any, AV.any, AV.any,
              AV.any, AV.any, AV.any, AV.any, AV.any, AV.any, AV.any, AV.any, AV.any, AV.any, AV.any, AV.any, AV.any, AV.any,
              AV.any, AV.any, AV.any, AV.any, AV.any, AV.any, AV.any, AV.any, AV.any, AV.any, AV.any, AV.any, AV.any, AV.any,
              AV.any, AV.any, AV.any, AV.any, AV.any, AV.any, AV.any, AV.any, AV.any, AV.any, AV.any, AV.any,
              AV.lit (Value.int IntKind.i64 T.c), AV.lit (Value.int IntKind.i64 (↑0 : Int)), AV.any, AV.any, AV.any, AV.any,
              AV.any, AV.any, AV.any, AV.any, AV.any, AV.any, AV.any, AV.any, AV.any, AV.any, AV.any, AV.any, AV.any, AV.any,
              AV.any, AV.any, AV.any, AV.any, AV.any, AV.any, AV.any, AV.any, AV.any, AV.any, AV.any, AV.any, AV.any, AV.any,
              AV.any, AV.any, AV.any, AV.any]
            [(5,
                Blk.var
                  [AV.lit (Value.int IntKind.i64 T.h), AV.lit (Value.int IntKind.i64 T.x), AV.lit (Value.int IntKind.i64 T.c),
                    AV.sl 1 (List.map (row1 IntKind.i8) T.d), AV.lit (Value.int IntKind.i64 n.kd),
                    AV.lit (Value.int IntKind.i64 n.na), AV.lit (Value.int IntKind.i64 n.nb),
                    AV.lit (Value.int IntKind.i64 n.nk), AV.lit (Value.int IntKind.i64 n.ns),
                    AV.lit (Value.int IntKind.i64 n.np), AV.lit (Value.int IntKind.i64 n.no),
                    AV.lit (Value.int IntKind.i8 n.za), AV.lit (Value.int IntKind.i8 n.zb),
                    AV.sl 1 (List.map (row1 IntKind.i8) n.w), AV.sl 1 (List.map (row1 IntKind.i32) n.b),
                    AV.lit (Value.int IntKind.i32 n.qm), AV.lit (Value.int IntKind.i64 n.qs),
                    AV.lit (Value.int IntKind.i8 n.qz), AV.lit (Value.int IntKind.i32 n.rm),
                    AV.lit (Value.int IntKind.i64 n.rs), AV.lit (Value.int IntKind.i8 n.rz), AV.lit (Value.int IntKind.i8 n.lo),
                    AV.lit (Value.int IntKind.i8 n.hi)]),
              (11,
                Blk.var
                  [AV.lit (Value.int IntKind.i64 T.h), AV.lit (Value.int IntKind.i64 T.x),
                    AV.lit (Value.int IntKind.i64 T.c)])])
  (Exit.exit 0)
  (VS.mk
            [AV.any, AV.any, AV.any, AV.lit (Value.int IntKind.i64 h), AV.lit (Value.int IntKind.i64 w), AV.ptr 5 0 0, AV.any,
              AV.any, AV.any, AV.any, AV.any, AV.ptr 11 0 0,
              AV.lit
                (Value.int IntKind.i32
                  (acc32 (rowAcc T n ((o * n.nk + i) * n.nk * T.c) h w k)
                    (cterm T n ((o * n.nk + i) * n.nk * T.c + (↑k : Int) * T.c) ((h * T.x + (w + (↑k : Int))) * T.c))
                    T.c.toNat)),
              AV.lit (Value.int IntKind.i64 ((o * n.nk + i) * n.nk * T.c)), AV.lit (Value.int IntKind.i64 (↑k : Int)), AV.any,
              AV.lit (Value.int IntKind.i64 ((h * T.x + (w + (↑k : Int))) * T.c)), AV.any, AV.any, AV.any, AV.any, AV.any,
              AV.any, AV.any, AV.any, AV.any, AV.any, AV.any, AV.any, AV.any, AV.any, AV.any, AV.any, AV.any, AV.any, AV.any,
              AV.any, AV.any, AV.any, AV.any, AV.any, AV.any, AV.any, AV.any, AV.any, AV.any, AV.any, AV.any, AV.any, AV.any,
              AV.any, AV.any, AV.any, AV.any, AV.any, AV.any, AV.any, AV.any, AV.any, AV.any, AV.any, AV.any,
              AV.lit (Value.int IntKind.i64 T.c), AV.lit (Value.int IntKind.i64 (↑T.c.toNat : Int)), AV.any, AV.any, AV.any,
              AV.any, AV.any, AV.any, AV.any, AV.any, AV.any, AV.any, AV.any, AV.any, AV.any, AV.any, AV.any, AV.any, AV.any,
              AV.any, AV.any, AV.any, AV.any, AV.any, AV.any, AV.any, AV.any, AV.any, AV.any, AV.any, AV.any, AV.any, AV.any,
              AV.any, AV.any, AV.any, AV.any, AV.any]
            [(5,
                Blk.var
                  [AV.lit (Value.int IntKind.i64 T.h), AV.lit (Value.int IntKind.i64 T.x), AV.lit (Value.int IntKind.i64 T.c),
                    AV.sl 1 (List.map (row1 IntKind.i8) T.d), AV.lit (Value.int IntKind.i64 n.kd),
                    AV.lit (Value.int IntKind.i64 n.na), AV.lit (Value.int IntKind.i64 n.nb),
                    AV.lit (Value.int IntKind.i64 n.nk), AV.lit (Value.int IntKind.i64 n.ns),
                    AV.lit (Value.int IntKind.i64 n.np), AV.lit (Value.int IntKind.i64 n.no),
                    AV.lit (Value.int IntKind.i8 n.za), AV.lit (Value.int IntKind.i8 n.zb),
                    AV.sl 1 (List.map (row1 IntKind.i8) n.w), AV.sl 1 (List.map (row1 IntKind.i32) n.b),
                    AV.lit (Value.int IntKind.i32 n.qm), AV.lit (Value.int IntKind.i64 n.qs),
                    AV.lit (Value.int IntKind.i8 n.qz), AV.lit (Value.int IntKind.i32 n.rm),
                    AV.lit (Value.int IntKind.i64 n.rs), AV.lit (Value.int IntKind.i8 n.rz), AV.lit (Value.int IntKind.i8 n.lo),
                    AV.lit (Value.int IntKind.i8 n.hi)]),
              (11,
                Blk.var
                  [AV.lit (Value.int IntKind.i64 T.h), AV.lit (Value.int IntKind.i64 T.x),
                    AV.lit (Value.int IntKind.i64 T.c)])]),
            IntKind.i64.wrap ((↑k : Int) + 1) = (↑k : Int) + 1,
            Weak
  (AV.lit
            (Value.int IntKind.i32
              (acc32 (rowAcc T n ((o * n.nk + i) * n.nk * T.c) h w k)
                (cterm T n ((o * n.nk + i) * n.nk * T.c + (↑k : Int) * T.c) ((h * T.x + (w + (↑k : Int))) * T.c)) T.c.toNat)))
  (AV.lit (Value.int IntKind.i32 (rowAcc T n ((o * n.nk + i) * n.nk * T.c) h w (k + 1)))),
            Weak (AV.lit (Value.int IntKind.i64 ((↑k : Int) + 1))) (AV.lit (Value.int IntKind.i64 (↑(k + 1) : Int)))]) (by kernel_rfl) ?_
      exact ⟨(by (refine decide_eq_false ?_; omega)),
                  (by exact IntWalk.i64_in _ (by omega)),
                  (by with_reducible assumption),
                  (by with_reducible assumption),
                  (by with_reducible assumption),
                  (by with_reducible assumption),
                  (by with_reducible assumption),
                  (by with_reducible assumption),
                  (by exact IntWalk.i64_in _ (by omega)),
                  (by exact IntWalk.i64_in _ (by omega)),
                  (by exact IntWalk.i64_in _ (by omega)),
                  (Weak.int (show ((0) : Int) = ((↑0 : Int)) from (by omega))),
                  (@cvRow_c (T) (n) (h) (w) ((o * n.nk + i) * n.nk *
        T.c) ((↑k :
        Int)) ((h * T.x + (w + (↑k : Int))) *
        T.c) (rowAcc T n ((o * n.nk + i) * n.nk * T.c) h w
        k) (by with_reducible assumption) (by with_reducible assumption) (by with_reducible assumption) (by with_reducible assumption) (by with_reducible assumption) (by omega) (by with_reducible assumption) (by omega) (by omega) (by with_reducible assumption)),
                  (by exact IntWalk.i64_in _ (by omega)),
                  (Weak.int (show ((acc32 (rowAcc T n ((o * n.nk + i) * n.nk * T.c) h w k)
        (cterm T n ((o * n.nk + i) * n.nk * T.c + (↑k : Int) * T.c) ((h * T.x + (w + (↑k : Int))) * T.c))
        T.c.toNat) : Int) = (rowAcc T n ((o * n.nk + i) * n.nk * T.c) h w (k + 1)) from (by (rw [rowAcc, if_pos ⟨by omega, by omega⟩])))),
                  (Weak.int (show (((↑k : Int) + 1) : Int) = ((↑(k + 1) : Int)) from (by omega))),
                  trivial⟩
    · have gc1 : ¬w + (↑k : Int) < T.x := of_decide_eq_false hc1
      refine VT.run (W := [.r [] [], .br false, .r [] [PI.n
   (w +
     (↑k :
       Int))], .r [] [PI.br true,
 PI.br true,
 PI.br true,
 PI.br true,
 PI.br true], .br false, .r [] [PI.n ((↑k : Int) + 1)]]) (G := [GI.any [15, 35, 36, 37, 38, 39, 41, 42, 43, 44, 45, 46, 47, 48, 49, 50, 51, 98, 99],
  GI.weak 12 (AV.lit (Value.int IntKind.i32 (rowAcc T n ((o * n.nk + i) * n.nk * T.c) h w (k + 1)))),
  GI.weak 14 (AV.lit (Value.int IntKind.i64 (↑(k + 1) : Int))), GI.sort])
        (ob := [((↑k : Int) == n.nk) = false,
            IntKind.i64.wrap (w + (↑k : Int)) = w + (↑k : Int),
            decide (w + (↑k : Int) ≥ 0) = true,
            decide (w + (↑k : Int) ≥ 0) = true,
            decide (w + (↑k : Int) ≥ 0) = true,
            decide (w + (↑k : Int) ≥ 0) = true,
            decide (w + (↑k : Int) ≥ 0) = true,
            decide (w + (↑k : Int) < T.x) = false,
            IntKind.i64.wrap ((↑k : Int) + 1) = (↑k : Int) + 1,
            Weak (AV.lit (Value.int IntKind.i32 (rowAcc T n ((o * n.nk + i) * n.nk * T.c) h w k)))
  (AV.lit (Value.int IntKind.i32 (rowAcc T n ((o * n.nk + i) * n.nk * T.c) h w (k + 1)))),
            Weak (AV.lit (Value.int IntKind.i64 ((↑k : Int) + 1))) (AV.lit (Value.int IntKind.i64 (↑(k + 1) : Int)))]) (by kernel_rfl) ?_
      exact ⟨(by (refine decide_eq_false ?_; omega)),
                  (by exact IntWalk.i64_in _ (by omega)),
                  (by with_reducible assumption),
                  (by with_reducible assumption),
                  (by with_reducible assumption),
                  (by with_reducible assumption),
                  (by with_reducible assumption),
                  (by with_reducible assumption),
                  (by exact IntWalk.i64_in _ (by omega)),
                  (Weak.int (show ((rowAcc T n ((o * n.nk + i) * n.nk * T.c) h w
        k) : Int) = (rowAcc T n ((o * n.nk + i) * n.nk * T.c) h w (k + 1)) from (by (rw [rowAcc, if_neg (by omega)])))),
                  (Weak.int (show (((↑k : Int) + 1) : Int) = ((↑(k + 1) : Int)) from (by omega))),
                  trivial⟩
  · have gc0 : ¬w + (↑k : Int) ≥ 0 := of_decide_eq_false hc0
    refine VT.run (W := [.r [] [], .br false, .r [] [PI.n
   (w +
     (↑k :
       Int))], .r [] [PI.br false,
 PI.br false,
 PI.br false,
 PI.br false,
 PI.br false], .br false, .r [] [PI.n ((↑k : Int) + 1)]]) (G := [GI.any [15, 35, 36, 37, 38, 39, 41, 42, 43, 44, 45, 46, 47, 48, 49, 50, 51, 98, 99],
  GI.weak 12 (AV.lit (Value.int IntKind.i32 (rowAcc T n ((o * n.nk + i) * n.nk * T.c) h w (k + 1)))),
  GI.weak 14 (AV.lit (Value.int IntKind.i64 (↑(k + 1) : Int))), GI.sort])
      (ob := [((↑k : Int) == n.nk) = false,
          IntKind.i64.wrap (w + (↑k : Int)) = w + (↑k : Int),
          decide (w + (↑k : Int) ≥ 0) = !true,
          decide (w + (↑k : Int) ≥ 0) = !true,
          decide (w + (↑k : Int) ≥ 0) = !true,
          decide (w + (↑k : Int) ≥ 0) = !true,
          decide (w + (↑k : Int) ≥ 0) = false,
          false = false,
          IntKind.i64.wrap ((↑k : Int) + 1) = (↑k : Int) + 1,
          Weak (AV.lit (Value.int IntKind.i32 (rowAcc T n ((o * n.nk + i) * n.nk * T.c) h w k)))
  (AV.lit (Value.int IntKind.i32 (rowAcc T n ((o * n.nk + i) * n.nk * T.c) h w (k + 1)))),
          Weak (AV.lit (Value.int IntKind.i64 ((↑k : Int) + 1))) (AV.lit (Value.int IntKind.i64 (↑(k + 1) : Int)))]) (by kernel_rfl) ?_
    exact ⟨(by (refine decide_eq_false ?_; omega)),
              (by exact IntWalk.i64_in _ (by omega)),
              (by (refine decide_eq_false ?_; omega)),
              (by (refine decide_eq_false ?_; omega)),
              (by (refine decide_eq_false ?_; omega)),
              (by (refine decide_eq_false ?_; omega)),
              (by with_reducible assumption),
              (by with_reducible rfl),
              (by exact IntWalk.i64_in _ (by omega)),
              (Weak.int (show ((rowAcc T n ((o * n.nk + i) * n.nk * T.c) h w
      k) : Int) = (rowAcc T n ((o * n.nk + i) * n.nk * T.c) h w (k + 1)) from (by (rw [rowAcc, if_neg (by omega)])))),
              (Weak.int (show (((↑k : Int) + 1) : Int) = ((↑(k + 1) : Int)) from (by omega))),
              trivial⟩
set_option maxRecDepth 100000 in
set_option maxHeartbeats 2000000 in
theorem cvRow_j_e (T : Ten) (n : Nod) (o i h w : Int) (ok : T.Ok) (okn : n.Ok) (c1 : 1 ≤ T.c) (x0 : 1 ≤ T.x) (x1 : T.x ≤ 16) (k1 : 1 ≤ n.nk) (k5 : n.nk ≤ 5) (o0 : 0 ≤ o * n.nk) (o1 : o * n.nk ≤ 16384) (i0 : 0 ≤ i) (i1 : i ≤ 5) (a0 : 0 ≤ (o * n.nk + i) * n.nk) (a1 : (o * n.nk + i) * n.nk ≤ 16384) (a2 : 0 ≤ (o * n.nk + i) * n.nk * T.c) (aw : (o * n.nk + i) * n.nk * T.c + n.nk * T.c ≤ n.w.length) (wl : n.w.length ≤ 16384) (h0 : 0 ≤ h * T.x) (fd : (h * T.x + T.x) * T.c ≤ T.d.length) (dl : T.d.length ≤ 1024) (w0 : -100 ≤ w) (w1 : w ≤ 10000) : VT Try.prog (behC 0 (fnC Try.f98 [1, 0])) (cvRow_j_I T n o i h w (n.nk.toNat)) (.ret) (cvRow_j_Z T n o i h w) := by
  have g9 : 0 ≤ n.nk * T.c := Int.mul_nonneg (by omega) (by omega)
  refine VT.run (W := [.r [] [], .br true, .r [] []]) (G := [GI.any [3, 4, 5, 11, 12, 13, 14, 35, 36, 37, 38, 39, 40], GI.drop [5, 11], GI.sort])
    (ob := [((↑n.nk.toNat : Int) == n.nk) = true]) (by kernel_rfl) ?_
  exact ⟨(by (refine decide_eq_true ?_; omega)),
          trivial⟩
set_option maxRecDepth 100000 in
set_option maxHeartbeats 2000000 in
theorem cvRow_j (T : Ten) (n : Nod) (o i h w : Int) (ok : T.Ok) (okn : n.Ok) (c1 : 1 ≤ T.c) (x0 : 1 ≤ T.x) (x1 : T.x ≤ 16) (k1 : 1 ≤ n.nk) (k5 : n.nk ≤ 5) (o0 : 0 ≤ o * n.nk) (o1 : o * n.nk ≤ 16384) (i0 : 0 ≤ i) (i1 : i ≤ 5) (a0 : 0 ≤ (o * n.nk + i) * n.nk) (a1 : (o * n.nk + i) * n.nk ≤ 16384) (a2 : 0 ≤ (o * n.nk + i) * n.nk * T.c) (aw : (o * n.nk + i) * n.nk * T.c + n.nk * T.c ≤ n.w.length) (wl : n.w.length ≤ 16384) (h0 : 0 ≤ h * T.x) (fd : (h * T.x + T.x) * T.c ≤ T.d.length) (dl : T.d.length ≤ 1024) (w0 : -100 ≤ w) (w1 : w ≤ 10000) : VT Try.prog (fnC Try.f98 [1]) (cvRow_j_A T n o i h w) (.ret) (cvRow_j_Z T n o i h w) := by
  have g9 : 0 ≤ n.nk * T.c := Int.mul_nonneg (by omega) (by omega)
  refine VT.jumps2 (l := 0) (p := aheadC 0 (fnC Try.f98 [1, 0])) (r := behC 0 (fnC Try.f98 [1, 0])) (W := [.r [] [], .r [] [PI.n (o * n.nk),
 PI.n (o * n.nk + i),
 PI.n ((o * n.nk + i) * n.nk),
 PI.n ((o * n.nk + i) * n.nk * T.c)], .r [] []]) (G := [GI.any [1, 2, 18, 19, 20, 21, 22, 23, 24, 25, 26, 27, 28, 29, 30, 31, 32, 33, 34],
  GI.weak 12 (AV.lit (Value.int IntKind.i32 (rowAcc T n ((o * n.nk + i) * n.nk * T.c) h w 0))),
  GI.weak 14 (AV.lit (Value.int IntKind.i64 (↑0 : Int))), GI.sort])
    (ob := [IntKind.i64.wrap (o * n.nk) = o * n.nk,
    IntKind.i64.wrap (o * n.nk + i) = o * n.nk + i,
    IntKind.i64.wrap ((o * n.nk + i) * n.nk) = (o * n.nk + i) * n.nk,
    IntKind.i64.wrap ((o * n.nk + i) * n.nk * T.c) = (o * n.nk + i) * n.nk * T.c,
    Weak (AV.lit (Value.int IntKind.i32 0))
  (AV.lit (Value.int IntKind.i32 (rowAcc T n ((o * n.nk + i) * n.nk * T.c) h w 0))),
    Weak (AV.lit (Value.int IntKind.i64 0)) (AV.lit (Value.int IntKind.i64 (↑0 : Int)))]) (fun k => cvRow_j_I T n o i h w k) (n.nk.toNat) (by kernel_rfl) (by kernel_rfl) (by kernel_rfl) ?_ (fun k hk => cvRow_j_s T n o i h w ok okn c1 x0 x1 k1 k5 o0 o1 i0 i1 a0 a1 a2 aw wl h0 fd dl w0 w1 k hk) (cvRow_j_e T n o i h w ok okn c1 x0 x1 k1 k5 o0 o1 i0 i1 a0 a1 a2 aw wl h0 fd dl w0 w1) (by intro l h; cases h)
  exact ⟨(by exact IntWalk.i64_in _ (by omega)),
    (by exact IntWalk.i64_in _ (by omega)),
    (by exact IntWalk.i64_in _ (by omega)),
    (by exact IntWalk.i64_in _ (by omega)),
    (Weak.int (show ((0) : Int) = (rowAcc T n ((o * n.nk + i) * n.nk * T.c) h w 0) from (by rfl))),
    (Weak.int (show ((0) : Int) = ((↑0 : Int)) from (by omega))),
    trivial⟩
end Go.Proofs.Ytcegfkmelcjdhaa

