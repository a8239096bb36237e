/- All sums of a window, by the document. No condition. -/
import Derived.Test.YtcegfkmelcjdhaaCz
namespace Go.Proofs.Ytcegfkmelcjdhaa
open Go.RowKit
set_option linter.unusedSimpArgs false
set_option linter.unusedVariables false
set_option linter.unnecessarySimpa false

/-- A row of a window, over whole numbers. -/
def rowE (T : Ten) (n : Nod) (h w o : Int) (i : Nat) : Int := sumN (colE T n o i (h * n.ns + (i : Int) - n.np) (w * n.ns - n.np)) n.nk.toNat
theorem rowE_bd {T : Ten} {n : Nod} (ok : CvOk T n) (h w o : Int) (i : Nat) : -167116800 ≤ rowE T n h w o i ∧ rowE T n h w o i ≤ 167116800 := by
  have g15 := sumN_bd (B := 33423360) (f := colE T n o i (h * n.ns + i - n.np) (w * n.ns - n.np)) n.nk.toNat fun j _ => colE_bd ok _ _ _ _ j
  have g1 := ok.n.k5
  have g2 := ok.n.k1
  unfold rowE
  omega
/-- A window's sum, over whole numbers. -/
def sumE (T : Ten) (n : Nod) (h w o : Int) : Int := accN (n.b.getD o.toNat 0) (rowE T n h w o) n.nk.toNat
noncomputable def rcSum_i_I (T : Ten) (n : Nod) (h w o : Int) (k : Nat) : VS := stt 118 [(2, i64 h), (3, i64 w), (4, i64 o), (5, .ptr 5 0 0), (6, .ptr 6 0 0), (11, i64 (accN (n.b.getD o.toNat 0) (rowE T n h w o) k)), (12, i64 k)] [(5, .var [i64 T.h, i64 T.x, i64 T.c, ints .i8 T.d]), (6, .var (nodC n))]
noncomputable def rcSum_i_Z (T : Ten) (n : Nod) (h w o : Int) : VS := rcSum_i_I T n h w o (n.nk.toNat)
set_option maxRecDepth 100000 in
set_option maxHeartbeats 2000000 in
theorem rcSum_i_s (T : Ten) (n : Nod) (h w o : Int) (ok : CvOk T n) (o0 : 0 ≤ o) (o1 : o < n.no) (h0 : 0 ≤ h) (h1 : h ≤ 1000) (w0 : 0 ≤ w) (w1 : w ≤ 1000) (k : Nat) (hk : k < n.nk.toNat) : VT Try.prog (fnC Try.f36 [1, 1, 0, 1, 0, 0]) (rcSum_i_I T n h w o k) .normal (rcSum_i_I T n h w o (k + 1)) := by
  have nn := ok.n
  have g1 := nn.k1
  have g2 := nn.k5
  have g3 := gt32 ok.okn.b o.toNat
  have g4 := accN_eq (n.b.getD o.toNat 0) (rowE T n h w o) k
  have g5 := sumN_bd (B := 167116800) (f := rowE T n h w o) k fun i _ => rowE_bd ok _ _ _ i
  refine VT.run (W := [.r [] [], .br true, .r [] [], .code [GI.any [23, 24, 25, 26],
  GI.weak 13 (AV.lit (Value.int IntKind.i64 (↑0 : Int))),
  GI.sort] (Exit.exit
  2) (VS.mk
  [AV.any, AV.any, AV.lit (Value.int IntKind.i64 h), AV.lit (Value.int IntKind.i64 w), AV.lit (Value.int IntKind.i64 o),
    AV.ptr 5 0 0, AV.ptr 6 0 0, AV.any, AV.any, AV.any, AV.any,
    AV.lit
      (Value.int IntKind.i64
        (accN (accN (n.b.getD o.toNat 0) (rowE T n h w o) k)
          (colE T n o (↑k : Int) (h * n.ns + (↑k : Int) - n.np) (w * n.ns - n.np)) n.nk.toNat)),
    AV.lit (Value.int IntKind.i64 (↑k : Int)), AV.lit (Value.int IntKind.i64 (↑n.nk.toNat : Int)), AV.any, AV.any,
    AV.any, AV.any, AV.any, AV.any, AV.any, AV.any, AV.any, AV.any, AV.any, AV.any, AV.any, AV.any, AV.any, AV.any,
    AV.any, AV.any, AV.any, AV.any, AV.any, AV.any, AV.any, AV.any, AV.any, AV.any, AV.any, AV.any, AV.any, AV.any,
    AV.any, AV.any, AV.any, AV.any, AV.any, AV.any, AV.any, AV.any, AV.any, AV.any, AV.any, AV.any, AV.any, AV.any,
    AV.any, AV.any, AV.any, AV.any, AV.any, AV.any, AV.any, AV.any, AV.any, AV.any, AV.any, AV.any, AV.any, AV.any,
    AV.any, AV.any, AV.any, AV.any, AV.any, AV.any, AV.any, AV.any, AV.any, AV.any, AV.any, AV.any, AV.any, AV.any,
    AV.any, AV.any, AV.any, AV.any, AV.any, AV.any, AV.any, AV.any, AV.any, AV.any, AV.any, AV.any, AV.any, AV.any,
    AV.any, AV.any, AV.any, AV.any, AV.any, AV.any, AV.any, AV.any, AV.any, AV.any, AV.any, AV.any, AV.any, AV.any,
    AV.any, AV.any, AV.any, AV.any]
  [(5,
      Blk.var
        [AV.lit (Value.int IntKind.i64 T.h), AV.lit (Value.int IntKind.i64 T.x), AV.lit (Value.int IntKind.i64 T.c),
          AV.sl 1 (List.map (row1 IntKind.i8) T.d)]),
    (6,
      Blk.var
        [AV.lit (Value.int IntKind.i64 n.kd), AV.lit (Value.int IntKind.i64 n.na), AV.lit (Value.int IntKind.i64 n.nb),
          AV.lit (Value.int IntKind.i64 n.nk), AV.lit (Value.int IntKind.i64 n.ns), AV.lit (Value.int IntKind.i64 n.np),
          AV.lit (Value.int IntKind.i64 n.no), AV.lit (Value.int IntKind.i8 n.za), AV.lit (Value.int IntKind.i8 n.zb),
          AV.sl 1 (List.map (row1 IntKind.i8) n.w), AV.sl 1 (List.map (row1 IntKind.i32) n.b),
          AV.lit (Value.int IntKind.i32 n.qm), AV.lit (Value.int IntKind.i64 n.qs), AV.lit (Value.int IntKind.i8 n.qz),
          AV.lit (Value.int IntKind.i32 n.rm), AV.lit (Value.int IntKind.i64 n.rs), AV.lit (Value.int IntKind.i8 n.rz),
          AV.lit (Value.int IntKind.i8 n.lo), AV.lit (Value.int IntKind.i8 n.hi)])]), .r [] [PI.n ((↑k : Int) + 1)]]) (G := [GI.any [13, 27, 28],
  GI.weak 11 (AV.lit (Value.int IntKind.i64 (accN (n.b.getD o.toNat 0) (rowE T n h w o) (k + 1)))),
  GI.weak 12 (AV.lit (Value.int IntKind.i64 (↑(k + 1) : Int))), GI.sort])
    (ob := [decide ((↑k : Int) < n.nk) = true,
        Weak (AV.lit (Value.int IntKind.i64 0)) (AV.lit (Value.int IntKind.i64 (↑0 : Int))),
        VT Try.prog (fnC Try.f36 [1, 1, 0, 1, 0, 0, 1, 0, 0, 1, 0])
  (VS.mk
        [AV.any, AV.any, AV.lit (Value.int IntKind.i64 h), AV.lit (Value.int IntKind.i64 w),
          AV.lit (Value.int IntKind.i64 o), AV.ptr 5 0 0, AV.ptr 6 0 0, AV.any, AV.any, AV.any, AV.any,
          AV.lit (Value.int IntKind.i64 (accN (n.b.getD o.toNat 0) (rowE T n h w o) k)),
          AV.lit (Value.int IntKind.i64 (↑k : Int)), AV.lit (Value.int IntKind.i64 (↑0 : Int)), AV.any, AV.any, AV.any,
          AV.any, AV.any, AV.any, AV.any, AV.any, AV.any, AV.any, AV.any, AV.any, AV.any, AV.any, AV.any, AV.any, AV.any,
          AV.any, AV.any, AV.any, AV.any, AV.any, AV.any, AV.any, AV.any, AV.any, AV.any, AV.any, AV.any, AV.any, AV.any,
          AV.any, AV.any, AV.any, AV.any, AV.any, AV.any, AV.any, AV.any, AV.any, AV.any, AV.any, AV.any, AV.any, AV.any,
          AV.any, AV.any, AV.any, AV.any, AV.any, AV.any, AV.any, AV.any, AV.any, AV.any, AV.any, AV.any, AV.any, AV.any,
          AV.any, AV.any, AV.any, AV.any, AV.any, AV.any, AV.any, AV.any, AV.any, AV.any, AV.any, AV.any, AV.any, AV.any,
          AV.any, AV.any, AV.any, AV.any, AV.any, AV.any, AV.any, AV.any, AV.any, AV.any, AV.any, AV.any, AV.any, AV.any,
          AV.any, AV.any, AV.any, AV.any, AV.any, AV.any, AV.any, AV.any, AV.any, AV.any, AV.any, AV.any, AV.any, AV.any,
          AV.any, AV.any, AV.any]
        [(5,
            Blk.var
              [AV.lit (Value.int IntKind.i64 T.h), AV.lit (Value.int IntKind.i64 T.x), AV.lit (Value.int IntKind.i64 T.c),
                AV.sl 1 (List.map (row1 IntKind.i8) T.d)]),
          (6,
            Blk.var
              [AV.lit (Value.int IntKind.i64 n.kd), AV.lit (Value.int IntKind.i64 n.na),
                AV.lit (Value.int IntKind.i64 n.nb), AV.lit (Value.int IntKind.i64 n.nk),
                AV.lit (Value.int IntKind.i64 n.ns), AV.lit (Value.int IntKind.i64 n.np),
                AV.lit (Value.int IntKind.i64 n.no), AV.lit (Value.int IntKind.i8 n.za), AV.lit (Value.int IntKind.i8 n.zb),
                AV.sl 1 (List.map (row1 IntKind.i8) n.w), AV.sl 1 (List.map (row1 IntKind.i32) n.b),
                AV.lit (Value.int IntKind.i32 n.qm), AV.lit (Value.int IntKind.i64 n.qs),
                AV.lit (Value.int IntKind.i8 n.qz), AV.lit (Value.int IntKind.i32 n.rm),
                AV.lit (Value.int IntKind.i64 n.rs), AV.lit (Value.int IntKind.i8 n.rz), AV.lit (Value.int IntKind.i8 n.lo),
                AV.lit (Value.int IntKind.i8 n.hi)])])
  (Exit.exit 2)
  (VS.mk
        [AV.any, AV.any, AV.lit (Value.int IntKind.i64 h), AV.lit (Value.int IntKind.i64 w),
          AV.lit (Value.int IntKind.i64 o), AV.ptr 5 0 0, AV.ptr 6 0 0, AV.any, AV.any, AV.any, AV.any,
          AV.lit
            (Value.int IntKind.i64
              (accN (accN (n.b.getD o.toNat 0) (rowE T n h w o) k)
                (colE T n o (↑k : Int) (h * n.ns + (↑k : Int) - n.np) (w * n.ns - n.np)) n.nk.toNat)),
          AV.lit (Value.int IntKind.i64 (↑k : Int)), AV.lit (Value.int IntKind.i64 (↑n.nk.toNat : Int)), AV.any, AV.any,
          AV.any, AV.any, AV.any, AV.any, AV.any, AV.any, AV.any, AV.any, AV.any, AV.any, AV.any, AV.any, AV.any, AV.any,
          AV.any, AV.any, AV.any, AV.any, AV.any, AV.any, AV.any, AV.any, AV.any, AV.any, AV.any, AV.any, AV.any, AV.any,
          AV.any, AV.any, AV.any, AV.any, AV.any, AV.any, AV.any, AV.any, AV.any, AV.any, AV.any, AV.any, AV.any, AV.any,
          AV.any, AV.any, AV.any, AV.any, AV.any, AV.any, AV.any, AV.any, AV.any, AV.any, AV.any, AV.any, AV.any, AV.any,
          AV.any, AV.any, AV.any, AV.any, AV.any, AV.any, AV.any, AV.any, AV.any, AV.any, AV.any, AV.any, AV.any, AV.any,
          AV.any, AV.any, AV.any, AV.any, AV.any, AV.any, AV.any, AV.any, AV.any, AV.any, AV.any, AV.any, AV.any, AV.any,
          AV.any, AV.any, AV.any, AV.any, AV.any, AV.any, AV.any, AV.any, AV.any, AV.any, AV.any, AV.any, AV.any, AV.any,
          AV.any, AV.any, AV.any, AV.any]
        [(5,
            Blk.var
              [AV.lit (Value.int IntKind.i64 T.h), AV.lit (Value.int IntKind.i64 T.x), AV.lit (Value.int IntKind.i64 T.c),
                AV.sl 1 (List.map (row1 IntKind.i8) T.d)]),
          (6,
            Blk.var
              [AV.lit (Value.int IntKind.i64 n.kd), AV.lit (Value.int IntKind.i64 n.na),
                AV.lit (Value.int IntKind.i64 n.nb), AV.lit (Value.int IntKind.i64 n.nk),
                AV.lit (Value.int IntKind.i64 n.ns), AV.lit (Value.int IntKind.i64 n.np),
                AV.lit (Value.int IntKind.i64 n.no), AV.lit (Value.int IntKind.i8 n.za), AV.lit (Value.int IntKind.i8 n.zb),
                AV.sl 1 (List.map (row1 IntKind.i8) n.w), AV.sl 1 (List.map (row1 IntKind.i32) n.b),
                AV.lit (Value.int IntKind.i32 n.qm), AV.lit (Value.int IntKind.i64 n.qs),
                AV.lit (Value.int IntKind.i8 n.qz), AV.lit (Value.int IntKind.i32 n.rm),
                AV.lit (Value.int IntKind.i64 n.rs), AV.lit (Value.int IntKind.i8 n.rz), AV.lit (Value.int IntKind.i8 n.lo),
                AV.lit (Value.int IntKind.i8 n.hi)])]),
        IntKind.i64.wrap ((↑k : Int) + 1) = (↑k : Int) + 1,
        Weak
  (AV.lit
        (Value.int IntKind.i64
          (accN (accN (n.b.getD o.toNat 0) (rowE T n h w o) k)
            (colE T n o (↑k : Int) (h * n.ns + (↑k : Int) - n.np) (w * n.ns - n.np)) n.nk.toNat)))
  (AV.lit (Value.int IntKind.i64 (accN (n.b.getD o.toNat 0) (rowE T n h w o) (k + 1)))),
        Weak (AV.lit (Value.int IntKind.i64 ((↑k : Int) + 1))) (AV.lit (Value.int IntKind.i64 (↑(k + 1) : Int)))]) (by kernel_rfl) ?_
  exact ⟨(by (refine decide_eq_true ?_; omega)),
          (Weak.int (show ((0) : Int) = ((↑0 : Int)) from (by omega))),
          (@rcSum_j (T) (n) (h) (w) (o) ((↑k :
    Int)) (accN (n.b.getD o.toNat 0) (rowE T n h w o)
    k) (by with_reducible assumption) (by with_reducible assumption) (by with_reducible assumption) (by with_reducible assumption) (by with_reducible assumption) (by with_reducible assumption) (by with_reducible assumption) (by omega) (by omega) (by omega) (by omega)),
          (by exact IntWalk.i64_in _ (by omega)),
          (Weak.int (show ((accN (accN (n.b.getD o.toNat 0) (rowE T n h w o) k)
    (colE T n o (↑k : Int) (h * n.ns + (↑k : Int) - n.np) (w * n.ns - n.np))
    n.nk.toNat) : Int) = (accN (n.b.getD o.toNat 0) (rowE T n h w o) (k + 1)) from (by (rw [accN, rowE, accN_eq])))),
          (Weak.int (show (((↑k : Int) + 1) : Int) = ((↑(k + 1) : Int)) from (by omega))),
          trivial⟩
set_option maxRecDepth 100000 in
set_option maxHeartbeats 2000000 in
theorem rcSum_i_e (T : Ten) (n : Nod) (h w o : Int) (ok : CvOk T n) (o0 : 0 ≤ o) (o1 : o < n.no) (h0 : 0 ≤ h) (h1 : h ≤ 1000) (w0 : 0 ≤ w) (w1 : w ≤ 1000) : VT Try.prog (fnC Try.f36 [1, 1, 0, 1, 0, 0]) (rcSum_i_I T n h w o (n.nk.toNat)) (.exit 0) (rcSum_i_Z T n h w o) := by
  have nn := ok.n
  have g1 := nn.k1
  refine VT.run (W := [.r [] [], .br false]) (G := [GI.any [23, 24, 25, 26], GI.sort])
    (ob := [decide ((↑n.nk.toNat : Int) < n.nk) = false]) (by kernel_rfl) ?_
  exact ⟨(by (refine decide_eq_false ?_; omega)),
          trivial⟩
theorem rcSum_i (T : Ten) (n : Nod) (h w o : Int) (ok : CvOk T n) (o0 : 0 ≤ o) (o1 : o < n.no) (h0 : 0 ≤ h) (h1 : h ≤ 1000) (w0 : 0 ≤ w) (w1 : w ≤ 1000) : VT Try.prog (fnC Try.f36 [1, 1, 0, 1, 0]) (rcSum_i_I T n h w o 0) (.exit 0) (rcSum_i_Z T n h w o) :=
  VT.loop (fun k => rcSum_i_I T n h w o k) (n.nk.toNat) (fun k hk => rcSum_i_s T n h w o ok o0 o1 h0 h1 w0 w1 k hk) (rcSum_i_e T n h w o ok o0 o1 h0 h1 w0 w1) (by intro h; cases h)

set_option maxRecDepth 100000 in
set_option maxHeartbeats 2000000 in
theorem rcSum_v (T : Ten) (n : Nod) (h w o : Int) (ok : CvOk T n) (o0 : 0 ≤ o) (o1 : o < n.no) (h0 : 0 ≤ h) (h1 : h ≤ 1000) (w0 : 0 ≤ w) (w1 : w ≤ 1000) : VC Try.prog 36 ([ten .i8 T, nod n, i64 h, i64 w, i64 o]) (i64 (sumE T n h w o)) := by
  have g1 := ok.n.bl
  have g3 := gt32 ok.okn.b o.toNat
  have hz : VC Try.prog 36 ([ten .i8 T, nod n, i64 h, i64 w, i64 o]) (AV.lit (Value.int IntKind.i64 (accN (n.b.getD o.toNat 0) (rowE T n h w o) n.nk.toNat))) := by
    refine VC.run (fn := Try.f36) Try.func36 (W := [.r [] [], .r [] [PI.row [AV.lit (Value.int IntKind.i32 (n.b.getD o.toNat 0))],
 PI.n
   (n.b.getD o.toNat
     0)], .r [] [], .code [GI.any [0, 1, 10, 17, 18, 19, 20, 21, 22],
  GI.weak 11 (AV.lit (Value.int IntKind.i64 (accN (n.b.getD o.toNat 0) (rowE T n h w o) 0))),
  GI.weak 12 (AV.lit (Value.int IntKind.i64 (↑0 : Int))),
  GI.sort] (Exit.exit
  0) (VS.mk
  [AV.any, AV.any, AV.lit (Value.int IntKind.i64 h), AV.lit (Value.int IntKind.i64 w), AV.lit (Value.int IntKind.i64 o),
    AV.ptr 5 0 0, AV.ptr 6 0 0, AV.any, AV.any, AV.any, AV.any,
    AV.lit (Value.int IntKind.i64 (accN (n.b.getD o.toNat 0) (rowE T n h w o) n.nk.toNat)),
    AV.lit (Value.int IntKind.i64 (↑n.nk.toNat : Int)), AV.any, AV.any, AV.any, AV.any, AV.any, AV.any, AV.any, AV.any,
    AV.any, AV.any, AV.any, AV.any, AV.any, AV.any, AV.any, AV.any, AV.any, AV.any, AV.any, AV.any, AV.any, AV.any,
    AV.any, AV.any, AV.any, AV.any, AV.any, AV.any, AV.any, AV.any, AV.any, AV.any, AV.any, AV.any, AV.any, AV.any,
    AV.any, AV.any, AV.any, AV.any, AV.any, AV.any, AV.any, AV.any, AV.any, AV.any, AV.any, AV.any, AV.any, AV.any,
    AV.any, AV.any, AV.any, AV.any, AV.any, AV.any, AV.any, AV.any, AV.any, AV.any, AV.any, AV.any, AV.any, AV.any,
    AV.any, AV.any, AV.any, AV.any, AV.any, AV.any, AV.any, AV.any, AV.any, AV.any, AV.any, AV.any, AV.any, AV.any,
    AV.any, AV.any, AV.any, AV.any, AV.any, AV.any, AV.any, AV.any, AV.any, AV.any, AV.any, AV.any, AV.any, AV.any,
    AV.any, AV.any, AV.any, AV.any, AV.any, AV.any, AV.any, AV.any, AV.any, AV.any, AV.any, AV.any, AV.any]
  [(5,
      Blk.var
        [AV.lit (Value.int IntKind.i64 T.h), AV.lit (Value.int IntKind.i64 T.x), AV.lit (Value.int IntKind.i64 T.c),
          AV.sl 1 (List.map (row1 IntKind.i8) T.d)]),
    (6,
      Blk.var
        [AV.lit (Value.int IntKind.i64 n.kd), AV.lit (Value.int IntKind.i64 n.na), AV.lit (Value.int IntKind.i64 n.nb),
          AV.lit (Value.int IntKind.i64 n.nk), AV.lit (Value.int IntKind.i64 n.ns), AV.lit (Value.int IntKind.i64 n.np),
          AV.lit (Value.int IntKind.i64 n.no), AV.lit (Value.int IntKind.i8 n.za), AV.lit (Value.int IntKind.i8 n.zb),
          AV.sl 1 (List.map (row1 IntKind.i8) n.w), AV.sl 1 (List.map (row1 IntKind.i32) n.b),
          AV.lit (Value.int IntKind.i32 n.qm), AV.lit (Value.int IntKind.i64 n.qs), AV.lit (Value.int IntKind.i8 n.qz),
          AV.lit (Value.int IntKind.i32 n.rm), AV.lit (Value.int IntKind.i64 n.rs), AV.lit (Value.int IntKind.i8 n.rz),
          AV.lit (Value.int IntKind.i8 n.lo), AV.lit (Value.int IntKind.i8 n.hi)])]), .r [] []])
      (ob := [0 ≤ o,
        (List.map (row1 IntKind.i32) n.b)[o.toNat]? = some [AV.lit (Value.int IntKind.i32 (n.b.getD o.toNat 0))],
        IntKind.i64.wrap (n.b.getD o.toNat 0) = n.b.getD o.toNat 0,
        Weak (AV.lit (Value.int IntKind.i64 (n.b.getD o.toNat 0)))
  (AV.lit (Value.int IntKind.i64 (accN (n.b.getD o.toNat 0) (rowE T n h w o) 0))),
        Weak (AV.lit (Value.int IntKind.i64 0)) (AV.lit (Value.int IntKind.i64 (↑0 : Int))),
        VT Try.prog (fnC Try.f36 [1, 1, 0, 1, 0])
  (VS.mk
        [AV.any, AV.any, AV.lit (Value.int IntKind.i64 h), AV.lit (Value.int IntKind.i64 w),
          AV.lit (Value.int IntKind.i64 o), AV.ptr 5 0 0, AV.ptr 6 0 0, AV.any, AV.any, AV.any, AV.any,
          AV.lit (Value.int IntKind.i64 (accN (n.b.getD o.toNat 0) (rowE T n h w o) 0)),
          AV.lit (Value.int IntKind.i64 (↑0 : Int)), AV.any, AV.any, AV.any, AV.any, AV.any, AV.any, AV.any, AV.any, AV.any,
          AV.any, AV.any, AV.any, AV.any, AV.any, AV.any, AV.any, AV.any, AV.any, AV.any, AV.any, AV.any, AV.any, AV.any,
          AV.any, AV.any, AV.any, AV.any, AV.any, AV.any, AV.any, AV.any, AV.any, AV.any, AV.any, AV.any, AV.any, AV.any,
          AV.any, AV.any, AV.any, AV.any, AV.any, AV.any, AV.any, AV.any, AV.any, AV.any, AV.any, AV.any, AV.any, AV.any,
          AV.any, AV.any, AV.any, AV.any, AV.any, AV.any, AV.any, AV.any, AV.any, AV.any, AV.any, AV.any, AV.any, AV.any,
          AV.any, AV.any, AV.any, AV.any, AV.any, AV.any, AV.any, AV.any, AV.any, AV.any, AV.any, AV.any, AV.any, AV.any,
          AV.any, AV.any, AV.any, AV.any, AV.any, AV.any, AV.any, AV.any, AV.any, AV.any, AV.any, AV.any, AV.any, AV.any,
          AV.any, AV.any, AV.any, AV.any, AV.any, AV.any, AV.any, AV.any, AV.any, AV.any, AV.any, AV.any]
        [(5,
            Blk.var
              [AV.lit (Value.int IntKind.i64 T.h), AV.lit (Value.int IntKind.i64 T.x), AV.lit (Value.int IntKind.i64 T.c),
                AV.sl 1 (List.map (row1 IntKind.i8) T.d)]),
          (6,
            Blk.var
              [AV.lit (Value.int IntKind.i64 n.kd), AV.lit (Value.int IntKind.i64 n.na),
                AV.lit (Value.int IntKind.i64 n.nb), AV.lit (Value.int IntKind.i64 n.nk),
                AV.lit (Value.int IntKind.i64 n.ns), AV.lit (Value.int IntKind.i64 n.np),
                AV.lit (Value.int IntKind.i64 n.no), AV.lit (Value.int IntKind.i8 n.za), AV.lit (Value.int IntKind.i8 n.zb),
                AV.sl 1 (List.map (row1 IntKind.i8) n.w), AV.sl 1 (List.map (row1 IntKind.i32) n.b),
                AV.lit (Value.int IntKind.i32 n.qm), AV.lit (Value.int IntKind.i64 n.qs),
                AV.lit (Value.int IntKind.i8 n.qz), AV.lit (Value.int IntKind.i32 n.rm),
                AV.lit (Value.int IntKind.i64 n.rs), AV.lit (Value.int IntKind.i8 n.rz), AV.lit (Value.int IntKind.i8 n.lo),
                AV.lit (Value.int IntKind.i8 n.hi)])])
  (Exit.exit 0)
  (VS.mk
        [AV.any, AV.any, AV.lit (Value.int IntKind.i64 h), AV.lit (Value.int IntKind.i64 w),
          AV.lit (Value.int IntKind.i64 o), AV.ptr 5 0 0, AV.ptr 6 0 0, AV.any, AV.any, AV.any, AV.any,
          AV.lit (Value.int IntKind.i64 (accN (n.b.getD o.toNat 0) (rowE T n h w o) n.nk.toNat)),
          AV.lit (Value.int IntKind.i64 (↑n.nk.toNat : Int)), AV.any, AV.any, AV.any, AV.any, AV.any, AV.any, AV.any,
          AV.any, AV.any, AV.any, AV.any, AV.any, AV.any, AV.any, AV.any, AV.any, AV.any, AV.any, AV.any, AV.any, AV.any,
          AV.any, AV.any, AV.any, AV.any, AV.any, AV.any, AV.any, AV.any, AV.any, AV.any, AV.any, AV.any, AV.any, AV.any,
          AV.any, AV.any, AV.any, AV.any, AV.any, AV.any, AV.any, AV.any, AV.any, AV.any, AV.any, AV.any, AV.any, AV.any,
          AV.any, AV.any, AV.any, AV.any, AV.any, AV.any, AV.any, AV.any, AV.any, AV.any, AV.any, AV.any, AV.any, AV.any,
          AV.any, AV.any, AV.any, AV.any, AV.any, AV.any, AV.any, AV.any, AV.any, AV.any, AV.any, AV.any, AV.any, AV.any,
          AV.any, AV.any, AV.any, AV.any, AV.any, AV.any, AV.any, AV.any, AV.any, AV.any, AV.any, AV.any, AV.any, AV.any,
          AV.any, AV.any, AV.any, AV.any, AV.any, AV.any, AV.any, AV.any, AV.any, AV.any, AV.any, AV.any, AV.any, AV.any]
        [(5,
            Blk.var
              [AV.lit (Value.int IntKind.i64 T.h), AV.lit (Value.int IntKind.i64 T.x), AV.lit (Value.int IntKind.i64 T.c),
                AV.sl 1 (List.map (row1 IntKind.i8) T.d)]),
          (6,
            Blk.var
              [AV.lit (Value.int IntKind.i64 n.kd), AV.lit (Value.int IntKind.i64 n.na),
                AV.lit (Value.int IntKind.i64 n.nb), AV.lit (Value.int IntKind.i64 n.nk),
                AV.lit (Value.int IntKind.i64 n.ns), AV.lit (Value.int IntKind.i64 n.np),
                AV.lit (Value.int IntKind.i64 n.no), AV.lit (Value.int IntKind.i8 n.za), AV.lit (Value.int IntKind.i8 n.zb),
                AV.sl 1 (List.map (row1 IntKind.i8) n.w), AV.sl 1 (List.map (row1 IntKind.i32) n.b),
                AV.lit (Value.int IntKind.i32 n.qm), AV.lit (Value.int IntKind.i64 n.qs),
                AV.lit (Value.int IntKind.i8 n.qz), AV.lit (Value.int IntKind.i32 n.rm),
                AV.lit (Value.int IntKind.i64 n.rs), AV.lit (Value.int IntKind.i8 n.rz), AV.lit (Value.int IntKind.i8 n.lo),
                AV.lit (Value.int IntKind.i8 n.hi)])])]) (by kernel_rfl) ?_
    exact ⟨(by with_reducible assumption),
            (map_at (row1 IntKind.i32) (0) (l := n.b) (i := o.toNat) (by omega)),
            (by exact IntWalk.i64_in _ (by omega)),
            (Weak.int (show ((n.b.getD o.toNat 0) : Int) = (accN (n.b.getD o.toNat 0) (rowE T n h w o) 0) from (by rfl))),
            (Weak.int (show ((0) : Int) = ((↑0 : Int)) from (by omega))),
            (@rcSum_i (T) (n) (h) (w) (o) (by with_reducible assumption) (by with_reducible assumption) (by with_reducible assumption) (by with_reducible assumption) (by with_reducible assumption) (by with_reducible assumption) (by with_reducible assumption)),
            trivial⟩
  exact hz.weak (WeakL.refl _) (Weak.int (show ((accN (n.b.getD o.toNat 0) (rowE T n h w o) n.nk.toNat) : Int) = (sumE T n h w o) from (by rfl)))
def refO (T : Ten) (n : Nod) (h w : Nat) (o : Nat) : List Int := (List.range o).map fun (o : Nat) => IntKind.i32.wrap (sumE T n h w o)
def refW (T : Ten) (n : Nod) (h : Nat) : Nat → List Int
  | 0 => []
  | w + 1 => refW T n h w ++ refO T n h w n.no.toNat
def refH (T : Ten) (n : Nod) : Nat → List Int
  | 0 => []
  | h + 1 => refH T n h ++ refW T n h (convE ⟨T.h, T.x, T.c⟩ n).1.x.toNat
theorem refW_len (T : Ten) (n : Nod) (h : Nat) : ∀ w, (refW T n h w).length = w * n.no.toNat
  | 0 => by simp [refW]
  | w + 1 => by rw [refW, List.length_append, refW_len T n h w, Nat.add_mul]; simp [refO]
theorem refH_len (T : Ten) (n : Nod) : ∀ h, (refH T n h).length = h * ((convE ⟨T.h, T.x, T.c⟩ n).1.x.toNat * n.no.toNat)
  | 0 => by simp [refH]
  | h + 1 => by rw [refH, List.length_append, refH_len T n h, refW_len, Nat.add_mul]; simp
theorem ref_bd {T : Ten} {n : Nod} (nn : CvN T n) {h w : Nat} (hh : h < (convE ⟨T.h, T.x, T.c⟩ n).1.h.toNat) (hw : w < (convE ⟨T.h, T.x, T.c⟩ n).1.x.toNat) : (refH T n h).length + (refW T n h w).length + n.no.toNat ≤ 40000 := by
  rw [refH_len, refW_len]
  have h1 := nn.he
  have h2 := nn.xe
  have h3 := nn.o1
  have h4 := nn.o2
  have a1 : (convE ⟨T.h, T.x, T.c⟩ n).1.x.toNat * n.no.toNat ≤ 16 * 1024 := Nat.mul_le_mul (by omega) (by omega)
  have h5 := nn.el
  have hx : ((convE ⟨T.h, T.x, T.c⟩ n).1.h.toNat * ((convE ⟨T.h, T.x, T.c⟩ n).1.x.toNat * n.no.toNat) : Nat) ≤ 1024 := by
    have : (((convE ⟨T.h, T.x, T.c⟩ n).1.h.toNat * ((convE ⟨T.h, T.x, T.c⟩ n).1.x.toNat * n.no.toNat) : Nat) : Int) = (convE ⟨T.h, T.x, T.c⟩ n).1.h * (convE ⟨T.h, T.x, T.c⟩ n).1.x * n.no := by
      rw [Int.natCast_mul, Int.natCast_mul, Int.toNat_of_nonneg (by omega), Int.toNat_of_nonneg (by omega), Int.toNat_of_nonneg (by omega), Int.mul_assoc]
    omega
  have a2 : h * ((convE ⟨T.h, T.x, T.c⟩ n).1.x.toNat * n.no.toNat) ≤ (convE ⟨T.h, T.x, T.c⟩ n).1.h.toNat * ((convE ⟨T.h, T.x, T.c⟩ n).1.x.toNat * n.no.toNat) := Nat.mul_le_mul_right _ (by omega)
  have a3 : w * n.no.toNat ≤ 16 * 1024 := Nat.mul_le_mul (by omega) (by omega)
  omega
noncomputable def rcOf_o_I (T : Ten) (n : Nod) (h w : Nat) (k : Nat) : VS := stt 60 [(2, .ptr 2 0 0), (3, .ptr 3 0 0), (4, .ptr 4 0 0), (6, .ptr 6 0 0), (8, .ptr 8 0 0), (9, i64 h), (10, i64 w), (11, i64 k)] [(2, .var [i64 T.h, i64 T.x, i64 T.c, ints .i8 T.d]), (3, .var (nodC n)), (4, .var [i64 0, i64 0, i64 0, nilv]), (6, .var [i64 (convE ⟨T.h, T.x, T.c⟩ n).1.h, i64 (convE ⟨T.h, T.x, T.c⟩ n).1.x, i64 (convE ⟨T.h, T.x, T.c⟩ n).1.c]), (8, .var [i64 (convE ⟨T.h, T.x, T.c⟩ n).1.h, i64 (convE ⟨T.h, T.x, T.c⟩ n).1.x, i64 (convE ⟨T.h, T.x, T.c⟩ n).1.c, .own 900]), (900, .slc 21 1 ((refH T n h ++ (refW T n h w ++ refO T n h w k)).map (row1 .i32)))]
noncomputable def rcOf_o_Z (T : Ten) (n : Nod) (h w : Nat) : VS := rcOf_o_I T n h w (n.no.toNat)
set_option maxRecDepth 100000 in
set_option maxHeartbeats 2000000 in
theorem rcOf_o_s (T : Ten) (n : Nod) (h w : Nat) (ok : CvOk T n) (h1 : h < (convE ⟨T.h, T.x, T.c⟩ n).1.h.toNat) (w1 : w < (convE ⟨T.h, T.x, T.c⟩ n).1.x.toNat) (k : Nat) (hk : k < n.no.toNat) : VT Try.prog (fnC Try.f22 [1, 1, 1, 1, 1, 0, 1, 0, 0, 1, 0, 0, 1, 0, 0, 1, 0, 0, 1, 0, 0]) (rcOf_o_I T n h w k) .normal (rcOf_o_I T n h w (k + 1)) := by
  have nn := ok.n
  have g1 := nn.he
  have g2 := nn.xe
  have g3 := nn.sc
  have g4 := nn.o1
  have g5 := nn.o2
  have g6 := ref_bd nn h1 w1
  have g7 : (refO T n h w k).length = k := by simp [refO]
  refine VT.run (W := [.r [] [], .br true, .r [] [PI.callr (i64 (sumE T n (↑h : Int) (↑w : Int) (↑k : Int))),
 PI.w], .r [] [PI.n ((↑k : Int) + 1)]]) (G := [GI.any [41, 42, 43, 44, 45, 46, 47, 48, 49, 50, 51, 52, 53, 54, 55, 56, 57, 58], GI.drop [56], GI.ren 57 900,
  GI.weak 11 (AV.lit (Value.int IntKind.i64 (↑(k + 1) : Int))),
  GI.blk 900 (Blk.slc 21 1 (List.map (row1 IntKind.i32) (refH T n h ++ (refW T n h w ++ refO T n h w (k + 1))))),
  GI.sort])
    (ob := [decide ((↑k : Int) < (convE (Shp.mk T.h T.x T.c) n).fst.c) = true,
        VC Try.prog 36
  [AV.agg
          [AV.lit (Value.int IntKind.i64 T.h), AV.lit (Value.int IntKind.i64 T.x), AV.lit (Value.int IntKind.i64 T.c),
            AV.sl 1 (List.map (row1 IntKind.i8) T.d)],
        AV.agg
          [AV.lit (Value.int IntKind.i64 n.kd), AV.lit (Value.int IntKind.i64 n.na), AV.lit (Value.int IntKind.i64 n.nb),
            AV.lit (Value.int IntKind.i64 n.nk), AV.lit (Value.int IntKind.i64 n.ns), AV.lit (Value.int IntKind.i64 n.np),
            AV.lit (Value.int IntKind.i64 n.no), AV.lit (Value.int IntKind.i8 n.za), AV.lit (Value.int IntKind.i8 n.zb),
            AV.sl 1 (List.map (row1 IntKind.i8) n.w), AV.sl 1 (List.map (row1 IntKind.i32) n.b),
            AV.lit (Value.int IntKind.i32 n.qm), AV.lit (Value.int IntKind.i64 n.qs), AV.lit (Value.int IntKind.i8 n.qz),
            AV.lit (Value.int IntKind.i32 n.rm), AV.lit (Value.int IntKind.i64 n.rs), AV.lit (Value.int IntKind.i8 n.rz),
            AV.lit (Value.int IntKind.i8 n.lo), AV.lit (Value.int IntKind.i8 n.hi)],
        AV.lit (Value.int IntKind.i64 (↑h : Int)), AV.lit (Value.int IntKind.i64 (↑w : Int)),
        AV.lit (Value.int IntKind.i64 (↑k : Int))]
  (AV.lit (Value.int IntKind.i64 (sumE T n (↑h : Int) (↑w : Int) (↑k : Int)))),
        ((List.map (row1 IntKind.i32) (refH T n h ++ (refW T n h w ++ refO T n h w k))).length + 1) * 4 ≤ 140737488355328,
        (List.map (row1 IntKind.i32) (refH T n h ++ (refW T n h w ++ refO T n h w k))).length + 1 ≤ 9223372036854775807,
        IntKind.i64.wrap ((↑k : Int) + 1) = (↑k : Int) + 1,
        Weak (AV.lit (Value.int IntKind.i64 ((↑k : Int) + 1))) (AV.lit (Value.int IntKind.i64 (↑(k + 1) : Int))),
        BlkW
  (Blk.slc 21 1
        (List.map (row1 IntKind.i32) (refH T n h ++ (refW T n h w ++ refO T n h w k)) ++
          [[AV.lit (Value.int IntKind.i32 (IntKind.i32.wrap (sumE T n (↑h : Int) (↑w : Int) (↑k : Int))))]]))
  (Blk.slc 21 1 (List.map (row1 IntKind.i32) (refH T n h ++ (refW T n h w ++ refO T n h w (k + 1)))))]) (by kernel_rfl) ?_
  exact ⟨(by (refine decide_eq_true ?_; omega)),
          (@rcSum_v (T) (n) ((↑h :
    Int)) ((↑w : Int)) ((↑k : Int)) (by with_reducible assumption) (by omega) (by omega) (by omega) (by omega) (by omega) (by omega)),
          (by (simp; omega)),
          (by (simp; omega)),
          (by exact IntWalk.i64_in _ (by omega)),
          (Weak.int (show (((↑k : Int) + 1) : Int) = ((↑(k + 1) : Int)) from (by omega))),
          (BlkW.rows (rows_to (row1
    IntKind.i32) (l := refH T n h ++ (refW T n h w ++ refO T n h w k) ++
    [IntKind.i32.wrap
            (sumE T n (↑h : Int) (↑w : Int)
              (↑k :
                Int))]) (m := refH T n h ++
    (refW T n h w ++
          refO T n h w
            (k +
              1))) (by simp only [List.map_append, List.map_cons, List.map_nil, List.map_set, List.map_replicate, List.map_take, List.map_drop]) (show (refH T n h ++ (refW T n h w ++ refO T n h w k) ++
    [IntKind.i32.wrap
            (sumE T n (↑h : Int) (↑w : Int)
              (↑k : Int))]) = (refH T n h ++ (refW T n h w ++ refO T n h w (k + 1))) from (by (rw [refO, refO, List.range_succ, List.map_append]; simp))))),
          trivial⟩
set_option maxRecDepth 100000 in
set_option maxHeartbeats 2000000 in
theorem rcOf_o_e (T : Ten) (n : Nod) (h w : Nat) (ok : CvOk T n) (h1 : h < (convE ⟨T.h, T.x, T.c⟩ n).1.h.toNat) (w1 : w < (convE ⟨T.h, T.x, T.c⟩ n).1.x.toNat) : VT Try.prog (fnC Try.f22 [1, 1, 1, 1, 1, 0, 1, 0, 0, 1, 0, 0, 1, 0, 0, 1, 0, 0, 1, 0, 0]) (rcOf_o_I T n h w (n.no.toNat)) (.exit 4) (rcOf_o_Z T n h w) := by
  have nn := ok.n
  have g1 := nn.he
  have g2 := nn.xe
  have g3 := nn.sc
  have g4 := nn.o1
  have g5 := nn.o2
  refine VT.run (W := [.r [] [], .br false]) (G := [GI.any [41, 42, 43, 44], GI.sort])
    (ob := [decide ((↑n.no.toNat : Int) < (convE (Shp.mk T.h T.x T.c) n).fst.c) = false]) (by kernel_rfl) ?_
  exact ⟨(by (refine decide_eq_false ?_; omega)),
          trivial⟩
theorem rcOf_o (T : Ten) (n : Nod) (h w : Nat) (ok : CvOk T n) (h1 : h < (convE ⟨T.h, T.x, T.c⟩ n).1.h.toNat) (w1 : w < (convE ⟨T.h, T.x, T.c⟩ n).1.x.toNat) : VT Try.prog (fnC Try.f22 [1, 1, 1, 1, 1, 0, 1, 0, 0, 1, 0, 0, 1, 0, 0, 1, 0, 0, 1, 0]) (rcOf_o_I T n h w 0) (.exit 4) (rcOf_o_Z T n h w) :=
  VT.loop (fun k => rcOf_o_I T n h w k) (n.no.toNat) (fun k hk => rcOf_o_s T n h w ok h1 w1 k hk) (rcOf_o_e T n h w ok h1 w1) (by intro h; cases h)

noncomputable def rcOf_w_I (T : Ten) (n : Nod) (h : Nat) (k : Nat) : VS := stt 60 [(2, .ptr 2 0 0), (3, .ptr 3 0 0), (4, .ptr 4 0 0), (6, .ptr 6 0 0), (8, .ptr 8 0 0), (9, i64 h), (10, i64 k)] [(2, .var [i64 T.h, i64 T.x, i64 T.c, ints .i8 T.d]), (3, .var (nodC n)), (4, .var [i64 0, i64 0, i64 0, nilv]), (6, .var [i64 (convE ⟨T.h, T.x, T.c⟩ n).1.h, i64 (convE ⟨T.h, T.x, T.c⟩ n).1.x, i64 (convE ⟨T.h, T.x, T.c⟩ n).1.c]), (8, .var [i64 (convE ⟨T.h, T.x, T.c⟩ n).1.h, i64 (convE ⟨T.h, T.x, T.c⟩ n).1.x, i64 (convE ⟨T.h, T.x, T.c⟩ n).1.c, .own 900]), (900, .slc 21 1 ((refH T n h ++ refW T n h k).map (row1 .i32)))]
noncomputable def rcOf_w_Z (T : Ten) (n : Nod) (h : Nat) : VS := rcOf_w_I T n h ((convE ⟨T.h, T.x, T.c⟩ n).1.x.toNat)
set_option maxRecDepth 100000 in
set_option maxHeartbeats 2000000 in
theorem rcOf_w_s (T : Ten) (n : Nod) (h : Nat) (ok : CvOk T n) (h1 : h < (convE ⟨T.h, T.x, T.c⟩ n).1.h.toNat) (k : Nat) (hk : k < (convE ⟨T.h, T.x, T.c⟩ n).1.x.toNat) : VT Try.prog (fnC Try.f22 [1, 1, 1, 1, 1, 0, 1, 0, 0, 1, 0, 0, 1, 0, 0]) (rcOf_w_I T n h k) .normal (rcOf_w_I T n h (k + 1)) := by
  have nn := ok.n
  have g1 := nn.he
  have g2 := nn.xe
  have g3 := nn.sc
  have g4 := nn.o1
  have g5 := nn.o2
  refine VT.run (W := [.r [] [], .br true, .r [] [], .code [GI.any [35, 36, 37, 38],
  GI.weak 11 (AV.lit (Value.int IntKind.i64 (↑0 : Int))),
  GI.blk 900 (Blk.slc 21 1 (List.map (row1 IntKind.i32) (refH T n h ++ (refW T n h k ++ refO T n h k 0)))),
  GI.sort] (Exit.exit
  4) (VS.mk
  [AV.any, AV.any, AV.ptr 2 0 0, AV.ptr 3 0 0, AV.ptr 4 0 0, AV.any, AV.ptr 6 0 0, AV.any, AV.ptr 8 0 0,
    AV.lit (Value.int IntKind.i64 (↑h : Int)), AV.lit (Value.int IntKind.i64 (↑k : Int)),
    AV.lit (Value.int IntKind.i64 (↑n.no.toNat : Int)), AV.any, AV.any, AV.any, AV.any, AV.any, AV.any, AV.any, AV.any,
    AV.any, AV.any, AV.any, AV.any, AV.any, AV.any, AV.any, AV.any, AV.any, AV.any, AV.any, AV.any, AV.any, AV.any,
    AV.any, AV.any, AV.any, AV.any, AV.any, AV.any, AV.any, AV.any, AV.any, AV.any, AV.any, AV.any, AV.any, AV.any,
    AV.any, AV.any, AV.any, AV.any, AV.any, AV.any, AV.any, AV.any, AV.any, AV.any, AV.any, AV.any]
  [(2,
      Blk.var
        [AV.lit (Value.int IntKind.i64 T.h), AV.lit (Value.int IntKind.i64 T.x), AV.lit (Value.int IntKind.i64 T.c),
          AV.sl 1 (List.map (row1 IntKind.i8) T.d)]),
    (3,
      Blk.var
        [AV.lit (Value.int IntKind.i64 n.kd), AV.lit (Value.int IntKind.i64 n.na), AV.lit (Value.int IntKind.i64 n.nb),
          AV.lit (Value.int IntKind.i64 n.nk), AV.lit (Value.int IntKind.i64 n.ns), AV.lit (Value.int IntKind.i64 n.np),
          AV.lit (Value.int IntKind.i64 n.no), AV.lit (Value.int IntKind.i8 n.za), AV.lit (Value.int IntKind.i8 n.zb),
          AV.sl 1 (List.map (row1 IntKind.i8) n.w), AV.sl 1 (List.map (row1 IntKind.i32) n.b),
          AV.lit (Value.int IntKind.i32 n.qm), AV.lit (Value.int IntKind.i64 n.qs), AV.lit (Value.int IntKind.i8 n.qz),
          AV.lit (Value.int IntKind.i32 n.rm), AV.lit (Value.int IntKind.i64 n.rs), AV.lit (Value.int IntKind.i8 n.rz),
          AV.lit (Value.int IntKind.i8 n.lo), AV.lit (Value.int IntKind.i8 n.hi)]),
    (4,
      Blk.var
        [AV.lit (Value.int IntKind.i64 0), AV.lit (Value.int IntKind.i64 0), AV.lit (Value.int IntKind.i64 0),
          AV.lit (Value.slice none 0 0)]),
    (6,
      Blk.var
        [AV.lit (Value.int IntKind.i64 (convE (Shp.mk T.h T.x T.c) n).fst.h),
          AV.lit (Value.int IntKind.i64 (convE (Shp.mk T.h T.x T.c) n).fst.x),
          AV.lit (Value.int IntKind.i64 (convE (Shp.mk T.h T.x T.c) n).fst.c)]),
    (8,
      Blk.var
        [AV.lit (Value.int IntKind.i64 (convE (Shp.mk T.h T.x T.c) n).fst.h),
          AV.lit (Value.int IntKind.i64 (convE (Shp.mk T.h T.x T.c) n).fst.x),
          AV.lit (Value.int IntKind.i64 (convE (Shp.mk T.h T.x T.c) n).fst.c), AV.own 900]),
    (900,
      Blk.slc 21 1
        (List.map (row1 IntKind.i32)
          (refH T n h ++ (refW T n h k ++ refO T n h k n.no.toNat))))]), .r [] [PI.n ((↑k : Int) + 1)]]) (G := [GI.any [11, 39, 40], GI.weak 10 (AV.lit (Value.int IntKind.i64 (↑(k + 1) : Int))),
  GI.blk 900 (Blk.slc 21 1 (List.map (row1 IntKind.i32) (refH T n h ++ refW T n h (k + 1)))), GI.sort])
    (ob := [decide ((↑k : Int) < (convE (Shp.mk T.h T.x T.c) n).fst.x) = true,
        Weak (AV.lit (Value.int IntKind.i64 0)) (AV.lit (Value.int IntKind.i64 (↑0 : Int))),
        BlkW (Blk.slc 21 1 (List.map (row1 IntKind.i32) (refH T n h ++ refW T n h k)))
  (Blk.slc 21 1 (List.map (row1 IntKind.i32) (refH T n h ++ (refW T n h k ++ refO T n h k 0)))),
        VT Try.prog (fnC Try.f22 [1, 1, 1, 1, 1, 0, 1, 0, 0, 1, 0, 0, 1, 0, 0, 1, 0, 0, 1, 0])
  (VS.mk
        [AV.any, AV.any, AV.ptr 2 0 0, AV.ptr 3 0 0, AV.ptr 4 0 0, AV.any, AV.ptr 6 0 0, AV.any, AV.ptr 8 0 0,
          AV.lit (Value.int IntKind.i64 (↑h : Int)), AV.lit (Value.int IntKind.i64 (↑k : Int)),
          AV.lit (Value.int IntKind.i64 (↑0 : Int)), AV.any, AV.any, AV.any, AV.any, AV.any, AV.any, AV.any, AV.any, AV.any,
          AV.any, AV.any, AV.any, AV.any, AV.any, AV.any, AV.any, AV.any, AV.any, AV.any, AV.any, AV.any, AV.any, AV.any,
          AV.any, AV.any, AV.any, AV.any, AV.any, AV.any, AV.any, AV.any, AV.any, AV.any, AV.any, AV.any, AV.any, AV.any,
          AV.any, AV.any, AV.any, AV.any, AV.any, AV.any, AV.any, AV.any, AV.any, AV.any, AV.any]
        [(2,
            Blk.var
              [AV.lit (Value.int IntKind.i64 T.h), AV.lit (Value.int IntKind.i64 T.x), AV.lit (Value.int IntKind.i64 T.c),
                AV.sl 1 (List.map (row1 IntKind.i8) T.d)]),
          (3,
            Blk.var
              [AV.lit (Value.int IntKind.i64 n.kd), AV.lit (Value.int IntKind.i64 n.na),
                AV.lit (Value.int IntKind.i64 n.nb), AV.lit (Value.int IntKind.i64 n.nk),
                AV.lit (Value.int IntKind.i64 n.ns), AV.lit (Value.int IntKind.i64 n.np),
                AV.lit (Value.int IntKind.i64 n.no), AV.lit (Value.int IntKind.i8 n.za), AV.lit (Value.int IntKind.i8 n.zb),
                AV.sl 1 (List.map (row1 IntKind.i8) n.w), AV.sl 1 (List.map (row1 IntKind.i32) n.b),
                AV.lit (Value.int IntKind.i32 n.qm), AV.lit (Value.int IntKind.i64 n.qs),
                AV.lit (Value.int IntKind.i8 n.qz), AV.lit (Value.int IntKind.i32 n.rm),
                AV.lit (Value.int IntKind.i64 n.rs), AV.lit (Value.int IntKind.i8 n.rz), AV.lit (Value.int IntKind.i8 n.lo),
                AV.lit (Value.int IntKind.i8 n.hi)]),
          (4,
            Blk.var
              [AV.lit (Value.int IntKind.i64 0), AV.lit (Value.int IntKind.i64 0), AV.lit (Value.int IntKind.i64 0),
                AV.lit (Value.slice none 0 0)]),
          (6,
            Blk.var
              [AV.lit (Value.int IntKind.i64 (convE (Shp.mk T.h T.x T.c) n).fst.h),
                AV.lit (Value.int IntKind.i64 (convE (Shp.mk T.h T.x T.c) n).fst.x),
                AV.lit (Value.int IntKind.i64 (convE (Shp.mk T.h T.x T.c) n).fst.c)]),
          (8,
            Blk.var
              [AV.lit (Value.int IntKind.i64 (convE (Shp.mk T.h T.x T.c) n).fst.h),
                AV.lit (Value.int IntKind.i64 (convE (Shp.mk T.h T.x T.c) n).fst.x),
                AV.lit (Value.int IntKind.i64 (convE (Shp.mk T.h T.x T.c) n).fst.c), AV.own 900]),
          (900, Blk.slc 21 1 (List.map (row1 IntKind.i32) (refH T n h ++ (refW T n h k ++ refO T n h k 0))))])
  (Exit.exit 4)
  (VS.mk
        [AV.any, AV.any, AV.ptr 2 0 0, AV.ptr 3 0 0, AV.ptr 4 0 0, AV.any, AV.ptr 6 0 0, AV.any, AV.ptr 8 0 0,
          AV.lit (Value.int IntKind.i64 (↑h : Int)), AV.lit (Value.int IntKind.i64 (↑k : Int)),
          AV.lit (Value.int IntKind.i64 (↑n.no.toNat : Int)), AV.any, AV.any, AV.any, AV.any, AV.any, AV.any, AV.any,
          AV.any, AV.any, AV.any, AV.any, AV.any, AV.any, AV.any, AV.any, AV.any, AV.any, AV.any, AV.any, AV.any, AV.any,
          AV.any, AV.any, AV.any, AV.any, AV.any, AV.any, AV.any, AV.any, AV.any, AV.any, AV.any, AV.any, AV.any, AV.any,
          AV.any, AV.any, AV.any, AV.any, AV.any, AV.any, AV.any, AV.any, AV.any, AV.any, AV.any, AV.any, AV.any]
        [(2,
            Blk.var
              [AV.lit (Value.int IntKind.i64 T.h), AV.lit (Value.int IntKind.i64 T.x), AV.lit (Value.int IntKind.i64 T.c),
                AV.sl 1 (List.map (row1 IntKind.i8) T.d)]),
          (3,
            Blk.var
              [AV.lit (Value.int IntKind.i64 n.kd), AV.lit (Value.int IntKind.i64 n.na),
                AV.lit (Value.int IntKind.i64 n.nb), AV.lit (Value.int IntKind.i64 n.nk),
                AV.lit (Value.int IntKind.i64 n.ns), AV.lit (Value.int IntKind.i64 n.np),
                AV.lit (Value.int IntKind.i64 n.no), AV.lit (Value.int IntKind.i8 n.za), AV.lit (Value.int IntKind.i8 n.zb),
                AV.sl 1 (List.map (row1 IntKind.i8) n.w), AV.sl 1 (List.map (row1 IntKind.i32) n.b),
                AV.lit (Value.int IntKind.i32 n.qm), AV.lit (Value.int IntKind.i64 n.qs),
                AV.lit (Value.int IntKind.i8 n.qz), AV.lit (Value.int IntKind.i32 n.rm),
                AV.lit (Value.int IntKind.i64 n.rs), AV.lit (Value.int IntKind.i8 n.rz), AV.lit (Value.int IntKind.i8 n.lo),
                AV.lit (Value.int IntKind.i8 n.hi)]),
          (4,
            Blk.var
              [AV.lit (Value.int IntKind.i64 0), AV.lit (Value.int IntKind.i64 0), AV.lit (Value.int IntKind.i64 0),
                AV.lit (Value.slice none 0 0)]),
          (6,
            Blk.var
              [AV.lit (Value.int IntKind.i64 (convE (Shp.mk T.h T.x T.c) n).fst.h),
                AV.lit (Value.int IntKind.i64 (convE (Shp.mk T.h T.x T.c) n).fst.x),
                AV.lit (Value.int IntKind.i64 (convE (Shp.mk T.h T.x T.c) n).fst.c)]),
          (8,
            Blk.var
              [AV.lit (Value.int IntKind.i64 (convE (Shp.mk T.h T.x T.c) n).fst.h),
                AV.lit (Value.int IntKind.i64 (convE (Shp.mk T.h T.x T.c) n).fst.x),
                AV.lit (Value.int IntKind.i64 (convE (Shp.mk T.h T.x T.c) n).fst.c), AV.own 900]),
          (900, Blk.slc 21 1 (List.map (row1 IntKind.i32) (refH T n h ++ (refW T n h k ++ refO T n h k n.no.toNat))))]),
        IntKind.i64.wrap ((↑k : Int) + 1) = (↑k : Int) + 1,
        Weak (AV.lit (Value.int IntKind.i64 ((↑k : Int) + 1))) (AV.lit (Value.int IntKind.i64 (↑(k + 1) : Int))),
        BlkW (Blk.slc 21 1 (List.map (row1 IntKind.i32) (refH T n h ++ (refW T n h k ++ refO T n h k n.no.toNat))))
  (Blk.slc 21 1 (List.map (row1 IntKind.i32) (refH T n h ++ refW T n h (k + 1))))]) (by kernel_rfl) ?_
  exact ⟨(by (refine decide_eq_true ?_; omega)),
          (Weak.int (show ((0) : Int) = ((↑0 : Int)) from (by omega))),
          (BlkW.rows (rows_to (row1
    IntKind.i32) (l := refH T n h ++
    refW T n h
          k) (m := refH T n h ++
    (refW T n h k ++
          refO T n h k
            0)) rfl (show (refH T n h ++ refW T n h k) = (refH T n h ++ (refW T n h k ++ refO T n h k 0)) from (by (simp [refO]; done))))),
          (@rcOf_o (T) (n) (h) (k) (by with_reducible assumption) (by with_reducible assumption) (by with_reducible assumption)),
          (by exact IntWalk.i64_in _ (by omega)),
          (Weak.int (show (((↑k : Int) + 1) : Int) = ((↑(k + 1) : Int)) from (by omega))),
          (BlkW.rows (rows_to (row1
    IntKind.i32) (l := refH T n h ++
    (refW T n h k ++
          refO T n h k
            n.no.toNat)) (m := refH T n h ++
    refW T n h
          (k +
            1)) rfl (show (refH T n h ++
    (refW T n h k ++ refO T n h k n.no.toNat)) = (refH T n h ++ refW T n h (k + 1)) from (by rfl)))),
          trivial⟩
set_option maxRecDepth 100000 in
set_option maxHeartbeats 2000000 in
theorem rcOf_w_e (T : Ten) (n : Nod) (h : Nat) (ok : CvOk T n) (h1 : h < (convE ⟨T.h, T.x, T.c⟩ n).1.h.toNat) : VT Try.prog (fnC Try.f22 [1, 1, 1, 1, 1, 0, 1, 0, 0, 1, 0, 0, 1, 0, 0]) (rcOf_w_I T n h ((convE ⟨T.h, T.x, T.c⟩ n).1.x.toNat)) (.exit 2) (rcOf_w_Z T n h) := by
  have nn := ok.n
  have g1 := nn.he
  have g2 := nn.xe
  have g3 := nn.sc
  have g4 := nn.o1
  have g5 := nn.o2
  refine VT.run (W := [.r [] [], .br false]) (G := [GI.any [35, 36, 37, 38], GI.sort])
    (ob := [decide ((↑(convE (Shp.mk T.h T.x T.c) n).fst.x.toNat : Int) < (convE (Shp.mk T.h T.x T.c) n).fst.x) = false]) (by kernel_rfl) ?_
  exact ⟨(by (refine decide_eq_false ?_; omega)),
          trivial⟩
theorem rcOf_w (T : Ten) (n : Nod) (h : Nat) (ok : CvOk T n) (h1 : h < (convE ⟨T.h, T.x, T.c⟩ n).1.h.toNat) : VT Try.prog (fnC Try.f22 [1, 1, 1, 1, 1, 0, 1, 0, 0, 1, 0, 0, 1, 0]) (rcOf_w_I T n h 0) (.exit 2) (rcOf_w_Z T n h) :=
  VT.loop (fun k => rcOf_w_I T n h k) ((convE ⟨T.h, T.x, T.c⟩ n).1.x.toNat) (fun k hk => rcOf_w_s T n h ok h1 k hk) (rcOf_w_e T n h ok h1) (by intro h; cases h)

noncomputable def rcOf_h_I (T : Ten) (n : Nod) (k : Nat) : VS := stt 60 [(2, .ptr 2 0 0), (3, .ptr 3 0 0), (4, .ptr 4 0 0), (6, .ptr 6 0 0), (8, .ptr 8 0 0), (9, i64 k)] [(2, .var [i64 T.h, i64 T.x, i64 T.c, ints .i8 T.d]), (3, .var (nodC n)), (4, .var [i64 0, i64 0, i64 0, nilv]), (6, .var [i64 (convE ⟨T.h, T.x, T.c⟩ n).1.h, i64 (convE ⟨T.h, T.x, T.c⟩ n).1.x, i64 (convE ⟨T.h, T.x, T.c⟩ n).1.c]), (8, .var [i64 (convE ⟨T.h, T.x, T.c⟩ n).1.h, i64 (convE ⟨T.h, T.x, T.c⟩ n).1.x, i64 (convE ⟨T.h, T.x, T.c⟩ n).1.c, .own 900]), (900, .slc 21 1 ((refH T n k).map (row1 .i32)))]
noncomputable def rcOf_h_Z (T : Ten) (n : Nod) : VS := rcOf_h_I T n ((convE ⟨T.h, T.x, T.c⟩ n).1.h.toNat)
set_option maxRecDepth 100000 in
set_option maxHeartbeats 2000000 in
theorem rcOf_h_s (T : Ten) (n : Nod) (ok : CvOk T n) (k : Nat) (hk : k < (convE ⟨T.h, T.x, T.c⟩ n).1.h.toNat) : VT Try.prog (fnC Try.f22 [1, 1, 1, 1, 1, 0, 1, 0, 0]) (rcOf_h_I T n k) .normal (rcOf_h_I T n (k + 1)) := by
  have nn := ok.n
  have g1 := nn.he
  have g2 := nn.xe
  have g3 := nn.sc
  have g4 := nn.o1
  have g5 := nn.o2
  refine VT.run (W := [.r [] [], .br true, .r [] [], .code [GI.any [29, 30, 31, 32],
  GI.weak 10 (AV.lit (Value.int IntKind.i64 (↑0 : Int))),
  GI.blk 900 (Blk.slc 21 1 (List.map (row1 IntKind.i32) (refH T n k ++ refW T n k 0))),
  GI.sort] (Exit.exit
  2) (VS.mk
  [AV.any, AV.any, AV.ptr 2 0 0, AV.ptr 3 0 0, AV.ptr 4 0 0, AV.any, AV.ptr 6 0 0, AV.any, AV.ptr 8 0 0,
    AV.lit (Value.int IntKind.i64 (↑k : Int)),
    AV.lit (Value.int IntKind.i64 (↑(convE (Shp.mk T.h T.x T.c) n).fst.x.toNat : Int)), AV.any, AV.any, AV.any, AV.any,
    AV.any, AV.any, AV.any, AV.any, AV.any, AV.any, AV.any, AV.any, AV.any, AV.any, AV.any, AV.any, AV.any, AV.any,
    AV.any, AV.any, AV.any, AV.any, AV.any, AV.any, AV.any, AV.any, AV.any, AV.any, AV.any, AV.any, AV.any, AV.any,
    AV.any, AV.any, AV.any, AV.any, AV.any, AV.any, AV.any, AV.any, AV.any, AV.any, AV.any, AV.any, AV.any, AV.any,
    AV.any, AV.any, AV.any]
  [(2,
      Blk.var
        [AV.lit (Value.int IntKind.i64 T.h), AV.lit (Value.int IntKind.i64 T.x), AV.lit (Value.int IntKind.i64 T.c),
          AV.sl 1 (List.map (row1 IntKind.i8) T.d)]),
    (3,
      Blk.var
        [AV.lit (Value.int IntKind.i64 n.kd), AV.lit (Value.int IntKind.i64 n.na), AV.lit (Value.int IntKind.i64 n.nb),
          AV.lit (Value.int IntKind.i64 n.nk), AV.lit (Value.int IntKind.i64 n.ns), AV.lit (Value.int IntKind.i64 n.np),
          AV.lit (Value.int IntKind.i64 n.no), AV.lit (Value.int IntKind.i8 n.za), AV.lit (Value.int IntKind.i8 n.zb),
          AV.sl 1 (List.map (row1 IntKind.i8) n.w), AV.sl 1 (List.map (row1 IntKind.i32) n.b),
          AV.lit (Value.int IntKind.i32 n.qm), AV.lit (Value.int IntKind.i64 n.qs), AV.lit (Value.int IntKind.i8 n.qz),
          AV.lit (Value.int IntKind.i32 n.rm), AV.lit (Value.int IntKind.i64 n.rs), AV.lit (Value.int IntKind.i8 n.rz),
          AV.lit (Value.int IntKind.i8 n.lo), AV.lit (Value.int IntKind.i8 n.hi)]),
    (4,
      Blk.var
        [AV.lit (Value.int IntKind.i64 0), AV.lit (Value.int IntKind.i64 0), AV.lit (Value.int IntKind.i64 0),
          AV.lit (Value.slice none 0 0)]),
    (6,
      Blk.var
        [AV.lit (Value.int IntKind.i64 (convE (Shp.mk T.h T.x T.c) n).fst.h),
          AV.lit (Value.int IntKind.i64 (convE (Shp.mk T.h T.x T.c) n).fst.x),
          AV.lit (Value.int IntKind.i64 (convE (Shp.mk T.h T.x T.c) n).fst.c)]),
    (8,
      Blk.var
        [AV.lit (Value.int IntKind.i64 (convE (Shp.mk T.h T.x T.c) n).fst.h),
          AV.lit (Value.int IntKind.i64 (convE (Shp.mk T.h T.x T.c) n).fst.x),
          AV.lit (Value.int IntKind.i64 (convE (Shp.mk T.h T.x T.c) n).fst.c), AV.own 900]),
    (900,
      Blk.slc 21 1
        (List.map (row1 IntKind.i32)
          (refH T n k ++ refW T n k (convE (Shp.mk T.h T.x T.c) n).fst.x.toNat)))]), .r [] [PI.n ((↑k : Int) + 1)]]) (G := [GI.any [10, 33, 34], GI.weak 9 (AV.lit (Value.int IntKind.i64 (↑(k + 1) : Int))),
  GI.blk 900 (Blk.slc 21 1 (List.map (row1 IntKind.i32) (refH T n (k + 1)))), GI.sort])
    (ob := [decide ((↑k : Int) < (convE (Shp.mk T.h T.x T.c) n).fst.h) = true,
        Weak (AV.lit (Value.int IntKind.i64 0)) (AV.lit (Value.int IntKind.i64 (↑0 : Int))),
        BlkW (Blk.slc 21 1 (List.map (row1 IntKind.i32) (refH T n k)))
  (Blk.slc 21 1 (List.map (row1 IntKind.i32) (refH T n k ++ refW T n k 0))),
        VT Try.prog (fnC Try.f22 [1, 1, 1, 1, 1, 0, 1, 0, 0, 1, 0, 0, 1, 0])
  (VS.mk
        [AV.any, AV.any, AV.ptr 2 0 0, AV.ptr 3 0 0, AV.ptr 4 0 0, AV.any, AV.ptr 6 0 0, AV.any, AV.ptr 8 0 0,
          AV.lit (Value.int IntKind.i64 (↑k : Int)), AV.lit (Value.int IntKind.i64 (↑0 : Int)), AV.any, AV.any, AV.any,
          AV.any, AV.any, AV.any, AV.any, AV.any, AV.any, AV.any, AV.any, AV.any, AV.any, AV.any, AV.any, AV.any, AV.any,
          AV.any, AV.any, AV.any, AV.any, AV.any, AV.any, AV.any, AV.any, AV.any, AV.any, AV.any, AV.any, AV.any, AV.any,
          AV.any, AV.any, AV.any, AV.any, AV.any, AV.any, AV.any, AV.any, AV.any, AV.any, AV.any, AV.any, AV.any, AV.any,
          AV.any, AV.any, AV.any, AV.any]
        [(2,
            Blk.var
              [AV.lit (Value.int IntKind.i64 T.h), AV.lit (Value.int IntKind.i64 T.x), AV.lit (Value.int IntKind.i64 T.c),
                AV.sl 1 (List.map (row1 IntKind.i8) T.d)]),
          (3,
            Blk.var
              [AV.lit (Value.int IntKind.i64 n.kd), AV.lit (Value.int IntKind.i64 n.na),
                AV.lit (Value.int IntKind.i64 n.nb), AV.lit (Value.int IntKind.i64 n.nk),
                AV.lit (Value.int IntKind.i64 n.ns), AV.lit (Value.int IntKind.i64 n.np),
                AV.lit (Value.int IntKind.i64 n.no), AV.lit (Value.int IntKind.i8 n.za), AV.lit (Value.int IntKind.i8 n.zb),
                AV.sl 1 (List.map (row1 IntKind.i8) n.w), AV.sl 1 (List.map (row1 IntKind.i32) n.b),
                AV.lit (Value.int IntKind.i32 n.qm), AV.lit (Value.int IntKind.i64 n.qs),
                AV.lit (Value.int IntKind.i8 n.qz), AV.lit (Value.int IntKind.i32 n.rm),
                AV.lit (Value.int IntKind.i64 n.rs), AV.lit (Value.int IntKind.i8 n.rz), AV.lit (Value.int IntKind.i8 n.lo),
                AV.lit (Value.int IntKind.i8 n.hi)]),
          (4,
            Blk.var
              [AV.lit (Value.int IntKind.i64 0), AV.lit (Value.int IntKind.i64 0), AV.lit (Value.int IntKind.i64 0),
                AV.lit (Value.slice none 0 0)]),
          (6,
            Blk.var
              [AV.lit (Value.int IntKind.i64 (convE (Shp.mk T.h T.x T.c) n).fst.h),
                AV.lit (Value.int IntKind.i64 (convE (Shp.mk T.h T.x T.c) n).fst.x),
                AV.lit (Value.int IntKind.i64 (convE (Shp.mk T.h T.x T.c) n).fst.c)]),
          (8,
            Blk.var
              [AV.lit (Value.int IntKind.i64 (convE (Shp.mk T.h T.x T.c) n).fst.h),
                AV.lit (Value.int IntKind.i64 (convE (Shp.mk T.h T.x T.c) n).fst.x),
                AV.lit (Value.int IntKind.i64 (convE (Shp.mk T.h T.x T.c) n).fst.c), AV.own 900]),
          (900, Blk.slc 21 1 (List.map (row1 IntKind.i32) (refH T n k ++ refW T n k 0)))])
  (Exit.exit 2)
  (VS.mk
        [AV.any, AV.any, AV.ptr 2 0 0, AV.ptr 3 0 0, AV.ptr 4 0 0, AV.any, AV.ptr 6 0 0, AV.any, AV.ptr 8 0 0,
          AV.lit (Value.int IntKind.i64 (↑k : Int)),
          AV.lit (Value.int IntKind.i64 (↑(convE (Shp.mk T.h T.x T.c) n).fst.x.toNat : Int)), AV.any, AV.any, AV.any,
          AV.any, AV.any, AV.any, AV.any, AV.any, AV.any, AV.any, AV.any, AV.any, AV.any, AV.any, AV.any, AV.any, AV.any,
          AV.any, AV.any, AV.any, AV.any, AV.any, AV.any, AV.any, AV.any, AV.any, AV.any, AV.any, AV.any, AV.any, AV.any,
          AV.any, AV.any, AV.any, AV.any, AV.any, AV.any, AV.any, AV.any, AV.any, AV.any, AV.any, AV.any, AV.any, AV.any,
          AV.any, AV.any, AV.any, AV.any]
        [(2,
            Blk.var
              [AV.lit (Value.int IntKind.i64 T.h), AV.lit (Value.int IntKind.i64 T.x), AV.lit (Value.int IntKind.i64 T.c),
                AV.sl 1 (List.map (row1 IntKind.i8) T.d)]),
          (3,
            Blk.var
              [AV.lit (Value.int IntKind.i64 n.kd), AV.lit (Value.int IntKind.i64 n.na),
                AV.lit (Value.int IntKind.i64 n.nb), AV.lit (Value.int IntKind.i64 n.nk),
                AV.lit (Value.int IntKind.i64 n.ns), AV.lit (Value.int IntKind.i64 n.np),
                AV.lit (Value.int IntKind.i64 n.no), AV.lit (Value.int IntKind.i8 n.za), AV.lit (Value.int IntKind.i8 n.zb),
                AV.sl 1 (List.map (row1 IntKind.i8) n.w), AV.sl 1 (List.map (row1 IntKind.i32) n.b),
                AV.lit (Value.int IntKind.i32 n.qm), AV.lit (Value.int IntKind.i64 n.qs),
                AV.lit (Value.int IntKind.i8 n.qz), AV.lit (Value.int IntKind.i32 n.rm),
                AV.lit (Value.int IntKind.i64 n.rs), AV.lit (Value.int IntKind.i8 n.rz), AV.lit (Value.int IntKind.i8 n.lo),
                AV.lit (Value.int IntKind.i8 n.hi)]),
          (4,
            Blk.var
              [AV.lit (Value.int IntKind.i64 0), AV.lit (Value.int IntKind.i64 0), AV.lit (Value.int IntKind.i64 0),
                AV.lit (Value.slice none 0 0)]),
          (6,
            Blk.var
              [AV.lit (Value.int IntKind.i64 (convE (Shp.mk T.h T.x T.c) n).fst.h),
                AV.lit (Value.int IntKind.i64 (convE (Shp.mk T.h T.x T.c) n).fst.x),
                AV.lit (Value.int IntKind.i64 (convE (Shp.mk T.h T.x T.c) n).fst.c)]),
          (8,
            Blk.var
              [AV.lit (Value.int IntKind.i64 (convE (Shp.mk T.h T.x T.c) n).fst.h),
                AV.lit (Value.int IntKind.i64 (convE (Shp.mk T.h T.x T.c) n).fst.x),
                AV.lit (Value.int IntKind.i64 (convE (Shp.mk T.h T.x T.c) n).fst.c), AV.own 900]),
          (900,
            Blk.slc 21 1
              (List.map (row1 IntKind.i32) (refH T n k ++ refW T n k (convE (Shp.mk T.h T.x T.c) n).fst.x.toNat)))]),
        IntKind.i64.wrap ((↑k : Int) + 1) = (↑k : Int) + 1,
        Weak (AV.lit (Value.int IntKind.i64 ((↑k : Int) + 1))) (AV.lit (Value.int IntKind.i64 (↑(k + 1) : Int))),
        BlkW
  (Blk.slc 21 1 (List.map (row1 IntKind.i32) (refH T n k ++ refW T n k (convE (Shp.mk T.h T.x T.c) n).fst.x.toNat)))
  (Blk.slc 21 1 (List.map (row1 IntKind.i32) (refH T n (k + 1))))]) (by kernel_rfl) ?_
  exact ⟨(by (refine decide_eq_true ?_; omega)),
          (Weak.int (show ((0) : Int) = ((↑0 : Int)) from (by omega))),
          (BlkW.rows (rows_to (row1
    IntKind.i32) (l := refH T n
    k) (m := refH T n k ++ refW T n k 0) rfl (show (refH T n k) = (refH T n k ++ refW T n k 0) from (by (simp [refW]; done))))),
          (@rcOf_w (T) (n) (k) (by with_reducible assumption) (by with_reducible assumption)),
          (by exact IntWalk.i64_in _ (by omega)),
          (Weak.int (show (((↑k : Int) + 1) : Int) = ((↑(k + 1) : Int)) from (by omega))),
          (BlkW.rows (rows_to (row1
    IntKind.i32) (l := refH T n k ++
    refW T n k
          (convE (Shp.mk T.h T.x T.c)
                  n).fst.x.toNat) (m := refH T n
    (k +
          1)) rfl (show (refH T n k ++
    refW T n k (convE (Shp.mk T.h T.x T.c) n).fst.x.toNat) = (refH T n (k + 1)) from (by rfl)))),
          trivial⟩
set_option maxRecDepth 100000 in
set_option maxHeartbeats 2000000 in
theorem rcOf_h_e (T : Ten) (n : Nod) (ok : CvOk T n) : VT Try.prog (fnC Try.f22 [1, 1, 1, 1, 1, 0, 1, 0, 0]) (rcOf_h_I T n ((convE ⟨T.h, T.x, T.c⟩ n).1.h.toNat)) (.exit 0) (rcOf_h_Z T n) := by
  have nn := ok.n
  have g1 := nn.he
  have g2 := nn.xe
  have g3 := nn.sc
  have g4 := nn.o1
  have g5 := nn.o2
  refine VT.run (W := [.r [] [], .br false]) (G := [GI.any [29, 30, 31, 32], GI.sort])
    (ob := [decide ((↑(convE (Shp.mk T.h T.x T.c) n).fst.h.toNat : Int) < (convE (Shp.mk T.h T.x T.c) n).fst.h) = false]) (by kernel_rfl) ?_
  exact ⟨(by (refine decide_eq_false ?_; omega)),
          trivial⟩
theorem rcOf_h (T : Ten) (n : Nod) (ok : CvOk T n) : VT Try.prog (fnC Try.f22 [1, 1, 1, 1, 1, 0, 1, 0]) (rcOf_h_I T n 0) (.exit 0) (rcOf_h_Z T n) :=
  VT.loop (fun k => rcOf_h_I T n k) ((convE ⟨T.h, T.x, T.c⟩ n).1.h.toNat) (fun k hk => rcOf_h_s T n ok k hk) (rcOf_h_e T n ok) (by intro h; cases h)

set_option maxRecDepth 100000 in
set_option maxHeartbeats 2000000 in
theorem rcOf_x (T : Ten) (n : Nod) (ok : CvOk T n) : VC Try.prog 22 ([ten .i8 T, nod n]) (.tup [ten .i32 ⟨(convE ⟨T.h, T.x, T.c⟩ n).1.h, (convE ⟨T.h, T.x, T.c⟩ n).1.x, (convE ⟨T.h, T.x, T.c⟩ n).1.c, refH T n (convE ⟨T.h, T.x, T.c⟩ n).1.h.toNat⟩, i64 0]) := by
  have ok1 := ok.ok
  have okn := ok.okn
  have q2 := ok.r
  have q3 := ok.e
  have hz : VC Try.prog 22 ([ten .i8 T, nod n]) (AV.tup
  [AV.agg
      [AV.lit (Value.int IntKind.i64 (convE (Shp.mk T.h T.x T.c) n).fst.h),
        AV.lit (Value.int IntKind.i64 (convE (Shp.mk T.h T.x T.c) n).fst.x),
        AV.lit (Value.int IntKind.i64 (convE (Shp.mk T.h T.x T.c) n).fst.c),
        AV.sl 1 (List.map (row1 IntKind.i32) (refH T n (convE (Shp.mk T.h T.x T.c) n).fst.h.toNat))],
    AV.lit (Value.int IntKind.i64 0)]) := by
    refine VC.run (fn := Try.f22) Try.func22 (W := [.r [] [], .r [] [PI.callr
   (bv
     (tenRight
       T))], .br false, .r [] [PI.callr
   (AV.tup
     [shp (convE (Shp.mk T.h T.x T.c) n).fst,
       i64
         (convE (Shp.mk T.h T.x T.c)
             n).snd])], .r [] [], .br false, .r [] [], .r [] [], .code [GI.any
    [0, 1, 5, 7, 12, 13, 14, 16, 17, 18, 19, 20, 21, 22, 23, 24, 27, 28],
  GI.weak 9 (AV.lit (Value.int IntKind.i64 (↑0 : Int))), GI.nilc 900 21 1 8 3,
  GI.sort] (Exit.exit
  0) (VS.mk
  [AV.any, AV.any, AV.ptr 2 0 0, AV.ptr 3 0 0, AV.ptr 4 0 0, AV.any, AV.ptr 6 0 0, AV.any, AV.ptr 8 0 0,
    AV.lit (Value.int IntKind.i64 (↑(convE (Shp.mk T.h T.x T.c) n).fst.h.toNat : Int)), AV.any, AV.any, AV.any, AV.any,
    AV.any, AV.any, AV.any, AV.any, AV.any, AV.any, AV.any, AV.any, AV.any, AV.any, AV.any, AV.any, AV.any, AV.any,
    AV.any, AV.any, AV.any, AV.any, AV.any, AV.any, AV.any, AV.any, AV.any, AV.any, AV.any, AV.any, AV.any, AV.any,
    AV.any, AV.any, AV.any, AV.any, AV.any, AV.any, AV.any, AV.any, AV.any, AV.any, AV.any, AV.any, AV.any, AV.any,
    AV.any, AV.any, AV.any, AV.any]
  [(2,
      Blk.var
        [AV.lit (Value.int IntKind.i64 T.h), AV.lit (Value.int IntKind.i64 T.x), AV.lit (Value.int IntKind.i64 T.c),
          AV.sl 1 (List.map (row1 IntKind.i8) T.d)]),
    (3,
      Blk.var
        [AV.lit (Value.int IntKind.i64 n.kd), AV.lit (Value.int IntKind.i64 n.na), AV.lit (Value.int IntKind.i64 n.nb),
          AV.lit (Value.int IntKind.i64 n.nk), AV.lit (Value.int IntKind.i64 n.ns), AV.lit (Value.int IntKind.i64 n.np),
          AV.lit (Value.int IntKind.i64 n.no), AV.lit (Value.int IntKind.i8 n.za), AV.lit (Value.int IntKind.i8 n.zb),
          AV.sl 1 (List.map (row1 IntKind.i8) n.w), AV.sl 1 (List.map (row1 IntKind.i32) n.b),
          AV.lit (Value.int IntKind.i32 n.qm), AV.lit (Value.int IntKind.i64 n.qs), AV.lit (Value.int IntKind.i8 n.qz),
          AV.lit (Value.int IntKind.i32 n.rm), AV.lit (Value.int IntKind.i64 n.rs), AV.lit (Value.int IntKind.i8 n.rz),
          AV.lit (Value.int IntKind.i8 n.lo), AV.lit (Value.int IntKind.i8 n.hi)]),
    (4,
      Blk.var
        [AV.lit (Value.int IntKind.i64 0), AV.lit (Value.int IntKind.i64 0), AV.lit (Value.int IntKind.i64 0),
          AV.lit (Value.slice none 0 0)]),
    (6,
      Blk.var
        [AV.lit (Value.int IntKind.i64 (convE (Shp.mk T.h T.x T.c) n).fst.h),
          AV.lit (Value.int IntKind.i64 (convE (Shp.mk T.h T.x T.c) n).fst.x),
          AV.lit (Value.int IntKind.i64 (convE (Shp.mk T.h T.x T.c) n).fst.c)]),
    (8,
      Blk.var
        [AV.lit (Value.int IntKind.i64 (convE (Shp.mk T.h T.x T.c) n).fst.h),
          AV.lit (Value.int IntKind.i64 (convE (Shp.mk T.h T.x T.c) n).fst.x),
          AV.lit (Value.int IntKind.i64 (convE (Shp.mk T.h T.x T.c) n).fst.c), AV.own 900]),
    (900, Blk.slc 21 1 (List.map (row1 IntKind.i32) (refH T n (convE (Shp.mk T.h T.x T.c) n).fst.h.toNat)))]), .r [] []])
      (ob := [VC Try.prog 32
  [AV.agg
          [AV.lit (Value.int IntKind.i64 T.h), AV.lit (Value.int IntKind.i64 T.x), AV.lit (Value.int IntKind.i64 T.c),
            AV.sl 1 (List.map (row1 IntKind.i8) T.d)]]
  (AV.lit (Value.bool (tenRight T))),
        (!tenRight T) = false,
        VC Try.prog 24
  [AV.agg [AV.lit (Value.int IntKind.i64 T.h), AV.lit (Value.int IntKind.i64 T.x), AV.lit (Value.int IntKind.i64 T.c)],
        AV.agg
          [AV.lit (Value.int IntKind.i64 n.kd), AV.lit (Value.int IntKind.i64 n.na), AV.lit (Value.int IntKind.i64 n.nb),
            AV.lit (Value.int IntKind.i64 n.nk), AV.lit (Value.int IntKind.i64 n.ns), AV.lit (Value.int IntKind.i64 n.np),
            AV.lit (Value.int IntKind.i64 n.no), AV.lit (Value.int IntKind.i8 n.za), AV.lit (Value.int IntKind.i8 n.zb),
            AV.sl 1 (List.map (row1 IntKind.i8) n.w), AV.sl 1 (List.map (row1 IntKind.i32) n.b),
            AV.lit (Value.int IntKind.i32 n.qm), AV.lit (Value.int IntKind.i64 n.qs), AV.lit (Value.int IntKind.i8 n.qz),
            AV.lit (Value.int IntKind.i32 n.rm), AV.lit (Value.int IntKind.i64 n.rs), AV.lit (Value.int IntKind.i8 n.rz),
            AV.lit (Value.int IntKind.i8 n.lo), AV.lit (Value.int IntKind.i8 n.hi)]]
  (AV.tup
        [AV.agg
            [AV.lit (Value.int IntKind.i64 (convE (Shp.mk T.h T.x T.c) n).fst.h),
              AV.lit (Value.int IntKind.i64 (convE (Shp.mk T.h T.x T.c) n).fst.x),
              AV.lit (Value.int IntKind.i64 (convE (Shp.mk T.h T.x T.c) n).fst.c)],
          AV.lit (Value.int IntKind.i64 (convE (Shp.mk T.h T.x T.c) n).snd)]),
        ((convE (Shp.mk T.h T.x T.c) n).snd != 0) = false,
        Weak (AV.lit (Value.int IntKind.i64 0)) (AV.lit (Value.int IntKind.i64 (↑0 : Int))),
        VT Try.prog (fnC Try.f22 [1, 1, 1, 1, 1, 0, 1, 0])
  (VS.mk
        [AV.any, AV.any, AV.ptr 2 0 0, AV.ptr 3 0 0, AV.ptr 4 0 0, AV.any, AV.ptr 6 0 0, AV.any, AV.ptr 8 0 0,
          AV.lit (Value.int IntKind.i64 (↑0 : Int)), AV.any, AV.any, AV.any, AV.any, AV.any, AV.any, AV.any, AV.any, AV.any,
          AV.any, AV.any, AV.any, AV.any, AV.any, AV.any, AV.any, AV.any, AV.any, AV.any, AV.any, AV.any, AV.any, AV.any,
          AV.any, AV.any, AV.any, AV.any, AV.any, AV.any, AV.any, AV.any, AV.any, AV.any, AV.any, AV.any, AV.any, AV.any,
          AV.any, AV.any, AV.any, AV.any, AV.any, AV.any, AV.any, AV.any, AV.any, AV.any, AV.any, AV.any, AV.any]
        [(2,
            Blk.var
              [AV.lit (Value.int IntKind.i64 T.h), AV.lit (Value.int IntKind.i64 T.x), AV.lit (Value.int IntKind.i64 T.c),
                AV.sl 1 (List.map (row1 IntKind.i8) T.d)]),
          (3,
            Blk.var
              [AV.lit (Value.int IntKind.i64 n.kd), AV.lit (Value.int IntKind.i64 n.na),
                AV.lit (Value.int IntKind.i64 n.nb), AV.lit (Value.int IntKind.i64 n.nk),
                AV.lit (Value.int IntKind.i64 n.ns), AV.lit (Value.int IntKind.i64 n.np),
                AV.lit (Value.int IntKind.i64 n.no), AV.lit (Value.int IntKind.i8 n.za), AV.lit (Value.int IntKind.i8 n.zb),
                AV.sl 1 (List.map (row1 IntKind.i8) n.w), AV.sl 1 (List.map (row1 IntKind.i32) n.b),
                AV.lit (Value.int IntKind.i32 n.qm), AV.lit (Value.int IntKind.i64 n.qs),
                AV.lit (Value.int IntKind.i8 n.qz), AV.lit (Value.int IntKind.i32 n.rm),
                AV.lit (Value.int IntKind.i64 n.rs), AV.lit (Value.int IntKind.i8 n.rz), AV.lit (Value.int IntKind.i8 n.lo),
                AV.lit (Value.int IntKind.i8 n.hi)]),
          (4,
            Blk.var
              [AV.lit (Value.int IntKind.i64 0), AV.lit (Value.int IntKind.i64 0), AV.lit (Value.int IntKind.i64 0),
                AV.lit (Value.slice none 0 0)]),
          (6,
            Blk.var
              [AV.lit (Value.int IntKind.i64 (convE (Shp.mk T.h T.x T.c) n).fst.h),
                AV.lit (Value.int IntKind.i64 (convE (Shp.mk T.h T.x T.c) n).fst.x),
                AV.lit (Value.int IntKind.i64 (convE (Shp.mk T.h T.x T.c) n).fst.c)]),
          (8,
            Blk.var
              [AV.lit (Value.int IntKind.i64 (convE (Shp.mk T.h T.x T.c) n).fst.h),
                AV.lit (Value.int IntKind.i64 (convE (Shp.mk T.h T.x T.c) n).fst.x),
                AV.lit (Value.int IntKind.i64 (convE (Shp.mk T.h T.x T.c) n).fst.c), AV.own 900]),
          (900, Blk.slc 21 1 [])])
  (Exit.exit 0)
  (VS.mk
        [AV.any, AV.any, AV.ptr 2 0 0, AV.ptr 3 0 0, AV.ptr 4 0 0, AV.any, AV.ptr 6 0 0, AV.any, AV.ptr 8 0 0,
          AV.lit (Value.int IntKind.i64 (↑(convE (Shp.mk T.h T.x T.c) n).fst.h.toNat : Int)), AV.any, AV.any, AV.any,
          AV.any, AV.any, AV.any, AV.any, AV.any, AV.any, AV.any, AV.any, AV.any, AV.any, AV.any, AV.any, AV.any, AV.any,
          AV.any, AV.any, AV.any, AV.any, AV.any, AV.any, AV.any, AV.any, AV.any, AV.any, AV.any, AV.any, AV.any, AV.any,
          AV.any, AV.any, AV.any, AV.any, AV.any, AV.any, AV.any, AV.any, AV.any, AV.any, AV.any, AV.any, AV.any, AV.any,
          AV.any, AV.any, AV.any, AV.any, AV.any]
        [(2,
            Blk.var
              [AV.lit (Value.int IntKind.i64 T.h), AV.lit (Value.int IntKind.i64 T.x), AV.lit (Value.int IntKind.i64 T.c),
                AV.sl 1 (List.map (row1 IntKind.i8) T.d)]),
          (3,
            Blk.var
              [AV.lit (Value.int IntKind.i64 n.kd), AV.lit (Value.int IntKind.i64 n.na),
                AV.lit (Value.int IntKind.i64 n.nb), AV.lit (Value.int IntKind.i64 n.nk),
                AV.lit (Value.int IntKind.i64 n.ns), AV.lit (Value.int IntKind.i64 n.np),
                AV.lit (Value.int IntKind.i64 n.no), AV.lit (Value.int IntKind.i8 n.za), AV.lit (Value.int IntKind.i8 n.zb),
                AV.sl 1 (List.map (row1 IntKind.i8) n.w), AV.sl 1 (List.map (row1 IntKind.i32) n.b),
                AV.lit (Value.int IntKind.i32 n.qm), AV.lit (Value.int IntKind.i64 n.qs),
                AV.lit (Value.int IntKind.i8 n.qz), AV.lit (Value.int IntKind.i32 n.rm),
                AV.lit (Value.int IntKind.i64 n.rs), AV.lit (Value.int IntKind.i8 n.rz), AV.lit (Value.int IntKind.i8 n.lo),
                AV.lit (Value.int IntKind.i8 n.hi)]),
          (4,
            Blk.var
              [AV.lit (Value.int IntKind.i64 0), AV.lit (Value.int IntKind.i64 0), AV.lit (Value.int IntKind.i64 0),
                AV.lit (Value.slice none 0 0)]),
          (6,
            Blk.var
              [AV.lit (Value.int IntKind.i64 (convE (Shp.mk T.h T.x T.c) n).fst.h),
                AV.lit (Value.int IntKind.i64 (convE (Shp.mk T.h T.x T.c) n).fst.x),
                AV.lit (Value.int IntKind.i64 (convE (Shp.mk T.h T.x T.c) n).fst.c)]),
          (8,
            Blk.var
              [AV.lit (Value.int IntKind.i64 (convE (Shp.mk T.h T.x T.c) n).fst.h),
                AV.lit (Value.int IntKind.i64 (convE (Shp.mk T.h T.x T.c) n).fst.x),
                AV.lit (Value.int IntKind.i64 (convE (Shp.mk T.h T.x T.c) n).fst.c), AV.own 900]),
          (900, Blk.slc 21 1 (List.map (row1 IntKind.i32) (refH T n (convE (Shp.mk T.h T.x T.c) n).fst.h.toNat)))])]) (by kernel_rfl) ?_
    exact ⟨(@refTRight_v (T) (by with_reducible assumption)),
            (by (simp; omega)),
            (@refConvShape_v (Shp.mk T.h T.x T.c) (n) (by (exact Shp.mk_ok ok1.h ok1.x ok1.c)) (by with_reducible assumption)),
            (by (simp; omega)),
            (Weak.int (show ((0) : Int) = ((↑0 : Int)) from (by omega))),
            (@rcOf_h (T) (n) (by with_reducible assumption)),
            trivial⟩
  exact hz
end Go.Proofs.Ytcegfkmelcjdhaa

