/- All sums of a window, by the program and by the document. No condition. -/
import Derived.Test.YtcegfkmelcjdhaaCx
namespace Go.Proofs.Ytcegfkmelcjdhaa
open Go.RowKit
set_option linter.unusedSimpArgs false
set_option linter.unusedVariables false
set_option linter.unnecessarySimpa false

abbrev cvS (T : Ten) (n : Nod) (h w o : Int) : Int := sumAcc T n h w o n.nk.toNat
def outL (T : Ten) (n : Nod) : Nat → List Int
  | 0 => []
  | i + 1 => outL T n i ++ (List.range n.no.toNat).map fun (o : Nat) => cvS T n ((i : Int) / (convE ⟨T.h, T.x, T.c⟩ n).1.x) ((i : Int) % (convE ⟨T.h, T.x, T.c⟩ n).1.x) (o : Int)
theorem outL_len (T : Ten) (n : Nod) : ∀ i, (outL T n i).length = i * n.no.toNat
  | 0 => by simp [outL]
  | i + 1 => by rw [outL, List.length_append, outL_len T n i, Nat.add_mul]; simp
theorem outL_bd {T : Ten} {n : Nod} (h : CvN T n) {k : Nat} (hk : k < ((convE ⟨T.h, T.x, T.c⟩ n).1.h * (convE ⟨T.h, T.x, T.c⟩ n).1.x).toNat) : (outL T n k).length + n.no.toNat ≤ 1024 := by
  have h1 := h.el
  have h2 := h.o1
  have h3 := h.he
  have h4 := h.xe
  rw [outL_len]
  have h5 : ((k : Int) + 1) * n.no ≤ (convE ⟨T.h, T.x, T.c⟩ n).1.h * (convE ⟨T.h, T.x, T.c⟩ n).1.x * n.no := Int.mul_le_mul_of_nonneg_right (by omega) (by omega)
  rw [Int.add_mul] at h5
  have h6 : ((k * n.no.toNat : Nat) : Int) = (k : Int) * n.no := by rw [Int.natCast_mul, Int.toNat_of_nonneg (by omega)]
  omega
theorem hx_bd {T : Ten} {n : Nod} (h : CvN T n) : 0 ≤ (convE ⟨T.h, T.x, T.c⟩ n).1.h * (convE ⟨T.h, T.x, T.c⟩ n).1.x ∧ (convE ⟨T.h, T.x, T.c⟩ n).1.h * (convE ⟨T.h, T.x, T.c⟩ n).1.x ≤ 256 := by
  have h3 := h.he
  have h4 := h.xe
  exact mul_bd (A := 16) (B := 16) (by omega) (by omega) (by omega) (by omega)
theorem at_bd {T : Ten} {n : Nod} (h : CvN T n) {k : Nat} (hk : k < ((convE ⟨T.h, T.x, T.c⟩ n).1.h * (convE ⟨T.h, T.x, T.c⟩ n).1.x).toNat) : 0 ≤ (k : Int) / (convE ⟨T.h, T.x, T.c⟩ n).1.x ∧ (k : Int) / (convE ⟨T.h, T.x, T.c⟩ n).1.x ≤ 256 ∧ 0 ≤ (k : Int) % (convE ⟨T.h, T.x, T.c⟩ n).1.x ∧ (k : Int) % (convE ⟨T.h, T.x, T.c⟩ n).1.x ≤ 16 := by
  have h3 := h.xe
  have h4 := hx_bd h
  have h5 := Int.ediv_nonneg (a := (k : Int)) (b := (convE ⟨T.h, T.x, T.c⟩ n).1.x) (by omega) (by omega)
  have h6 := Int.ediv_le_self (a := (k : Int)) (convE ⟨T.h, T.x, T.c⟩ n).1.x (by omega)
  have h7 := Int.emod_nonneg (k : Int) (b := (convE ⟨T.h, T.x, T.c⟩ n).1.x) (by omega)
  have h8 := Int.emod_lt_of_pos (k : Int) (b := (convE ⟨T.h, T.x, T.c⟩ n).1.x) (by omega)
  omega
noncomputable def cvOf_o_I (T : Ten) (n : Nod) (i : Nat) (k : Nat) : VS := stt 67 [(4, .ptr 4 0 0), (6, .ptr 6 0 0), (8, .ptr 8 0 0), (9, .ptr 9 0 0), (10, i64 i), (39, i64 ((convE ⟨T.h, T.x, T.c⟩ n).1.h * (convE ⟨T.h, T.x, T.c⟩ n).1.x)), (40, i64 i), (44, i64 (convE ⟨T.h, T.x, T.c⟩ n).1.c), (45, i64 k)] [(4, .var [i64 0, i64 0, i64 0, nilv]), (6, .var [i64 (convE ⟨T.h, T.x, T.c⟩ n).1.h, i64 (convE ⟨T.h, T.x, T.c⟩ n).1.x, i64 (convE ⟨T.h, T.x, T.c⟩ n).1.c]), (8, .var [i64 (convE ⟨T.h, T.x, T.c⟩ n).1.h, i64 (convE ⟨T.h, T.x, T.c⟩ n).1.x, i64 (convE ⟨T.h, T.x, T.c⟩ n).1.c, .own 900]), (9, .var ([i64 T.h, i64 T.x, i64 T.c, ints .i8 T.d] ++ nodC n)), (900, .slc 21 1 ((outL T n i ++ (List.range k).map fun (o : Nat) => cvS T n ((i : Int) / (convE ⟨T.h, T.x, T.c⟩ n).1.x) ((i : Int) % (convE ⟨T.h, T.x, T.c⟩ n).1.x) (o : Int)).map (row1 .i32)))]
noncomputable def cvOf_o_Z (T : Ten) (n : Nod) (i : Nat) : VS := cvOf_o_I T n i (n.no.toNat)
set_option maxRecDepth 100000 in
set_option maxHeartbeats 2000000 in
theorem cvOf_o_s (T : Ten) (n : Nod) (i : Nat) (ok : CvOk T n) (hi : i < ((convE ⟨T.h, T.x, T.c⟩ n).1.h * (convE ⟨T.h, T.x, T.c⟩ n).1.x).toNat) (k : Nat) (hk : k < n.no.toNat) : VT Try.prog (fnC Try.f21 [1, 1, 1, 1, 1, 1, 0, 1, 0, 0, 1, 1, 0, 0, 1, 1, 0, 0]) (cvOf_o_I T n i k) .normal (cvOf_o_I T n i (k + 1)) := by
  have nn := ok.n
  have g7 := nn.sc
  have g1 := at_bd nn hi
  have g2 := nn.o1
  have g3 := nn.o2
  have g4 := nn.xe
  have g5 := outL_bd nn hi
  have g6 := hx_bd nn
  refine VT.run (W := [.r [] [], .br true, .r [] [], .r [] [PI.n ((↑i : Int) / (convE (Shp.mk T.h T.x T.c) n).fst.x),
 PI.n ((↑i : Int) % (convE (Shp.mk T.h T.x T.c) n).fst.x),
 PI.callr
   (i32
     (sumAcc T n ((↑i : Int) / (convE (Shp.mk T.h T.x T.c) n).fst.x) ((↑i : Int) % (convE (Shp.mk T.h T.x T.c) n).fst.x)
       (↑k : Int) n.nk.toNat))], .r [] [PI.n ((↑k : Int) + 1)]]) (G := [GI.any [11, 46, 47, 48, 49, 50, 51, 52, 53, 54, 55, 56, 57, 58, 59, 60, 61, 62, 63, 64], GI.drop [61],
  GI.ren 62 900, GI.weak 45 (AV.lit (Value.int IntKind.i64 (↑(k + 1) : Int))),
  GI.blk 900
    (Blk.slc 21 1
      (List.map (row1 IntKind.i32)
        (outL T n i ++
          List.map
            (fun (o : Nat) =>
              cvS T n ((↑i : Int) / (convE (Shp.mk T.h T.x T.c) n).fst.x)
                ((↑i : Int) % (convE (Shp.mk T.h T.x T.c) n).fst.x) (↑o : Int))
            (List.range (k + 1))))),
  GI.sort])
    (ob := [decide ((↑k : Int) < (convE (Shp.mk T.h T.x T.c) n).fst.c) = true,
        (convE (Shp.mk T.h T.x T.c) n).fst.x ≠ 0,
        IntKind.i64.wrap ((↑i : Int).tdiv (convE (Shp.mk T.h T.x T.c) n).fst.x) =
  (↑i : Int) / (convE (Shp.mk T.h T.x T.c) n).fst.x,
        (convE (Shp.mk T.h T.x T.c) n).fst.x ≠ 0,
        (↑i : Int).tmod (convE (Shp.mk T.h T.x T.c) n).fst.x = (↑i : Int) % (convE (Shp.mk T.h T.x T.c) n).fst.x,
        VC Try.prog 66
  [AV.agg
          [AV.lit (Value.int IntKind.i64 T.h), AV.lit (Value.int IntKind.i64 T.x), AV.lit (Value.int IntKind.i64 T.c),
            AV.sl 1 (List.map (row1 IntKind.i8) T.d), AV.lit (Value.int IntKind.i64 n.kd),
            AV.lit (Value.int IntKind.i64 n.na), AV.lit (Value.int IntKind.i64 n.nb), AV.lit (Value.int IntKind.i64 n.nk),
            AV.lit (Value.int IntKind.i64 n.ns), AV.lit (Value.int IntKind.i64 n.np), AV.lit (Value.int IntKind.i64 n.no),
            AV.lit (Value.int IntKind.i8 n.za), AV.lit (Value.int IntKind.i8 n.zb),
            AV.sl 1 (List.map (row1 IntKind.i8) n.w), AV.sl 1 (List.map (row1 IntKind.i32) n.b),
            AV.lit (Value.int IntKind.i32 n.qm), AV.lit (Value.int IntKind.i64 n.qs), AV.lit (Value.int IntKind.i8 n.qz),
            AV.lit (Value.int IntKind.i32 n.rm), AV.lit (Value.int IntKind.i64 n.rs), AV.lit (Value.int IntKind.i8 n.rz),
            AV.lit (Value.int IntKind.i8 n.lo), AV.lit (Value.int IntKind.i8 n.hi)],
        AV.lit (Value.int IntKind.i64 ((↑i : Int) / (convE (Shp.mk T.h T.x T.c) n).fst.x)),
        AV.lit (Value.int IntKind.i64 ((↑i : Int) % (convE (Shp.mk T.h T.x T.c) n).fst.x)),
        AV.lit (Value.int IntKind.i64 (↑k : Int))]
  (AV.lit
        (Value.int IntKind.i32
          (sumAcc T n ((↑i : Int) / (convE (Shp.mk T.h T.x T.c) n).fst.x)
            ((↑i : Int) % (convE (Shp.mk T.h T.x T.c) n).fst.x) (↑k : Int) n.nk.toNat))),
        ((List.map (row1 IntKind.i32)
              (outL T n i ++
                List.map
                  (fun (o : Nat) =>
                    cvS T n ((↑i : Int) / (convE (Shp.mk T.h T.x T.c) n).fst.x)
                      ((↑i : Int) % (convE (Shp.mk T.h T.x T.c) n).fst.x) (↑o : Int))
                  (List.range k))).length +
          1) *
        4 ≤
  140737488355328,
        (List.map (row1 IntKind.i32)
            (outL T n i ++
              List.map
                (fun (o : Nat) =>
                  cvS T n ((↑i : Int) / (convE (Shp.mk T.h T.x T.c) n).fst.x)
                    ((↑i : Int) % (convE (Shp.mk T.h T.x T.c) n).fst.x) (↑o : Int))
                (List.range k))).length +
        1 ≤
  9223372036854775807,
        IntKind.i64.wrap ((↑k : Int) + 1) = (↑k : Int) + 1,
        Weak (AV.lit (Value.int IntKind.i64 ((↑k : Int) + 1))) (AV.lit (Value.int IntKind.i64 (↑(k + 1) : Int))),
        BlkW
  (Blk.slc 21 1
        (List.map (row1 IntKind.i32)
            (outL T n i ++
              List.map
                (fun (o : Nat) =>
                  cvS T n ((↑i : Int) / (convE (Shp.mk T.h T.x T.c) n).fst.x)
                    ((↑i : Int) % (convE (Shp.mk T.h T.x T.c) n).fst.x) (↑o : Int))
                (List.range k)) ++
          [[AV.lit
                (Value.int IntKind.i32
                  (sumAcc T n ((↑i : Int) / (convE (Shp.mk T.h T.x T.c) n).fst.x)
                    ((↑i : Int) % (convE (Shp.mk T.h T.x T.c) n).fst.x) (↑k : Int) n.nk.toNat))]]))
  (Blk.slc 21 1
        (List.map (row1 IntKind.i32)
          (outL T n i ++
            List.map
              (fun (o : Nat) =>
                cvS T n ((↑i : Int) / (convE (Shp.mk T.h T.x T.c) n).fst.x)
                  ((↑i : Int) % (convE (Shp.mk T.h T.x T.c) n).fst.x) (↑o : Int))
              (List.range (k + 1)))))]) (by kernel_rfl) ?_
  exact ⟨(by (refine decide_eq_true ?_; omega)),
          (by omega),
          (Eq.trans (congrArg _ (Int.tdiv_eq_ediv_of_nonneg (by omega))) (by exact IntWalk.i64_in _ (by omega))),
          (by omega),
          (Int.tmod_eq_emod_of_nonneg (by omega)),
          (@cvSum_v (T) (n) ((↑i : Int) /
    (convE (Shp.mk T.h T.x T.c)
              n).fst.x) ((↑i : Int) %
    (convE (Shp.mk T.h T.x T.c)
              n).fst.x) ((↑k : Int)) (by with_reducible assumption) (by omega) (by omega) (by omega) (by omega) (by omega) (by omega)),
          (by (simp; omega)),
          (by (simp; omega)),
          (by exact IntWalk.i64_in _ (by omega)),
          (Weak.int (show (((↑k : Int) + 1) : Int) = ((↑(k + 1) : Int)) from (by omega))),
          (BlkW.rows (rows_to (row1
    IntKind.i32) (l := outL T n i ++
          List.map
            (fun (o : Nat) =>
              cvS T n ((↑i : Int) / (convE (Shp.mk T.h T.x T.c) n).fst.x) ((↑i : Int) % (convE (Shp.mk T.h T.x T.c) n).fst.x)
                (↑o : Int))
            (List.range k) ++
    [sumAcc T n ((↑i : Int) / (convE (Shp.mk T.h T.x T.c) n).fst.x) ((↑i : Int) % (convE (Shp.mk T.h T.x T.c) n).fst.x)
            (↑k : Int)
            n.nk.toNat]) (m := outL T n i ++
    List.map
          (fun (o : Nat) =>
            cvS T n ((↑i : Int) / (convE (Shp.mk T.h T.x T.c) n).fst.x) ((↑i : Int) % (convE (Shp.mk T.h T.x T.c) n).fst.x)
              (↑o : Int))
          (List.range
            (k +
              1))) (by simp only [List.map_append, List.map_cons, List.map_nil, List.map_set, List.map_replicate, List.map_take, List.map_drop]) (show (outL T n i ++
          List.map
            (fun (o : Nat) =>
              cvS T n ((↑i : Int) / (convE (Shp.mk T.h T.x T.c) n).fst.x) ((↑i : Int) % (convE (Shp.mk T.h T.x T.c) n).fst.x)
                (↑o : Int))
            (List.range k) ++
    [sumAcc T n ((↑i : Int) / (convE (Shp.mk T.h T.x T.c) n).fst.x) ((↑i : Int) % (convE (Shp.mk T.h T.x T.c) n).fst.x)
            (↑k : Int)
            n.nk.toNat]) = (outL T n i ++
    List.map
          (fun (o : Nat) =>
            cvS T n ((↑i : Int) / (convE (Shp.mk T.h T.x T.c) n).fst.x) ((↑i : Int) % (convE (Shp.mk T.h T.x T.c) n).fst.x)
              (↑o : Int))
          (List.range (k + 1))) from (by (rw [List.range_succ, List.map_append]; simp))))),
          trivial⟩
set_option maxRecDepth 100000 in
set_option maxHeartbeats 2000000 in
theorem cvOf_o_e (T : Ten) (n : Nod) (i : Nat) (ok : CvOk T n) (hi : i < ((convE ⟨T.h, T.x, T.c⟩ n).1.h * (convE ⟨T.h, T.x, T.c⟩ n).1.x).toNat) : VT Try.prog (fnC Try.f21 [1, 1, 1, 1, 1, 1, 0, 1, 0, 0, 1, 1, 0, 0, 1, 1, 0, 0]) (cvOf_o_I T n i (n.no.toNat)) (.exit 2) (cvOf_o_Z T n i) := by
  have nn := ok.n
  have g7 := nn.sc
  have g2 := nn.o1
  refine VT.run (W := [.r [] [], .br false]) (G := [GI.any [46], GI.sort])
    (ob := [decide ((↑n.no.toNat : Int) < (convE (Shp.mk T.h T.x T.c) n).fst.c) = false]) (by kernel_rfl) ?_
  exact ⟨(by (refine decide_eq_false ?_; omega)),
          trivial⟩
theorem cvOf_o (T : Ten) (n : Nod) (i : Nat) (ok : CvOk T n) (hi : i < ((convE ⟨T.h, T.x, T.c⟩ n).1.h * (convE ⟨T.h, T.x, T.c⟩ n).1.x).toNat) : VT Try.prog (fnC Try.f21 [1, 1, 1, 1, 1, 1, 0, 1, 0, 0, 1, 1, 0, 0, 1, 1, 0]) (cvOf_o_I T n i 0) (.exit 2) (cvOf_o_Z T n i) :=
  VT.loop (fun k => cvOf_o_I T n i k) (n.no.toNat) (fun k hk => cvOf_o_s T n i ok hi k hk) (cvOf_o_e T n i ok hi) (by intro h; cases h)

noncomputable def cvOf_i_I (T : Ten) (n : Nod) (k : Nat) : VS := stt 67 [(4, .ptr 4 0 0), (6, .ptr 6 0 0), (8, .ptr 8 0 0), (9, .ptr 9 0 0), (39, i64 ((convE ⟨T.h, T.x, T.c⟩ n).1.h * (convE ⟨T.h, T.x, T.c⟩ n).1.x)), (40, i64 k)] [(4, .var [i64 0, i64 0, i64 0, nilv]), (6, .var [i64 (convE ⟨T.h, T.x, T.c⟩ n).1.h, i64 (convE ⟨T.h, T.x, T.c⟩ n).1.x, i64 (convE ⟨T.h, T.x, T.c⟩ n).1.c]), (8, .var [i64 (convE ⟨T.h, T.x, T.c⟩ n).1.h, i64 (convE ⟨T.h, T.x, T.c⟩ n).1.x, i64 (convE ⟨T.h, T.x, T.c⟩ n).1.c, .own 900]), (9, .var ([i64 T.h, i64 T.x, i64 T.c, ints .i8 T.d] ++ nodC n)), (900, .slc 21 1 ((outL T n k).map (row1 .i32)))]
noncomputable def cvOf_i_Z (T : Ten) (n : Nod) : VS := cvOf_i_I T n (((convE ⟨T.h, T.x, T.c⟩ n).1.h * (convE ⟨T.h, T.x, T.c⟩ n).1.x).toNat)
set_option maxRecDepth 100000 in
set_option maxHeartbeats 2000000 in
theorem cvOf_i_s (T : Ten) (n : Nod) (ok : CvOk T n) (k : Nat) (hk : k < ((convE ⟨T.h, T.x, T.c⟩ n).1.h * (convE ⟨T.h, T.x, T.c⟩ n).1.x).toNat) : VT Try.prog (fnC Try.f21 [1, 1, 1, 1, 1, 1, 0, 1, 0, 0]) (cvOf_i_I T n k) .normal (cvOf_i_I T n (k + 1)) := by
  have nn := ok.n
  have g6 := hx_bd nn
  have g2 := nn.o1
  have g7 := nn.sc
  refine VT.run (W := [.r [] [], .br true, .r [] [], .r [] [], .code [GI.any [41, 42, 43],
  GI.weak 45 (AV.lit (Value.int IntKind.i64 (↑0 : Int))),
  GI.blk 900
    (Blk.slc 21 1
      (List.map (row1 IntKind.i32)
        (outL T n k ++
          List.map
            (fun (o : Nat) =>
              cvS T n ((↑k : Int) / (convE (Shp.mk T.h T.x T.c) n).fst.x)
                ((↑k : Int) % (convE (Shp.mk T.h T.x T.c) n).fst.x) (↑o : Int))
            (List.range 0)))),
  GI.sort] (Exit.exit
  2) (VS.mk
  [AV.any, AV.any, AV.any, AV.any, AV.ptr 4 0 0, AV.any, AV.ptr 6 0 0, AV.any, AV.ptr 8 0 0, AV.ptr 9 0 0,
    AV.lit (Value.int IntKind.i64 (↑k : Int)), AV.any, AV.any, AV.any, AV.any, AV.any, AV.any, AV.any, AV.any, AV.any,
    AV.any, AV.any, AV.any, AV.any, AV.any, AV.any, AV.any, AV.any, AV.any, AV.any, AV.any, AV.any, AV.any, AV.any,
    AV.any, AV.any, AV.any, AV.any, AV.any,
    AV.lit (Value.int IntKind.i64 ((convE (Shp.mk T.h T.x T.c) n).fst.h * (convE (Shp.mk T.h T.x T.c) n).fst.x)),
    AV.lit (Value.int IntKind.i64 (↑k : Int)), AV.any, AV.any, AV.any,
    AV.lit (Value.int IntKind.i64 (convE (Shp.mk T.h T.x T.c) n).fst.c),
    AV.lit (Value.int IntKind.i64 (↑n.no.toNat : Int)), AV.any, AV.any, AV.any, AV.any, AV.any, AV.any, AV.any, AV.any,
    AV.any, AV.any, AV.any, AV.any, AV.any, AV.any, AV.any, AV.any, AV.any, AV.any, AV.any, AV.any, AV.any]
  [(4,
      Blk.var
        [AV.lit (Value.int IntKind.i64 0), AV.lit (Value.int IntKind.i64 0), AV.lit (Value.int IntKind.i64 0),
          AV.lit (Value.slice none 0 0)]),
    (6,
      Blk.var
        [AV.lit (Value.int IntKind.i64 (convE (Shp.mk T.h T.x T.c) n).fst.h),
          AV.lit (Value.int IntKind.i64 (convE (Shp.mk T.h T.x T.c) n).fst.x),
          AV.lit (Value.int IntKind.i64 (convE (Shp.mk T.h T.x T.c) n).fst.c)]),
    (8,
      Blk.var
        [AV.lit (Value.int IntKind.i64 (convE (Shp.mk T.h T.x T.c) n).fst.h),
          AV.lit (Value.int IntKind.i64 (convE (Shp.mk T.h T.x T.c) n).fst.x),
          AV.lit (Value.int IntKind.i64 (convE (Shp.mk T.h T.x T.c) n).fst.c), AV.own 900]),
    (9,
      Blk.var
        [AV.lit (Value.int IntKind.i64 T.h), AV.lit (Value.int IntKind.i64 T.x), AV.lit (Value.int IntKind.i64 T.c),
          AV.sl 1 (List.map (row1 IntKind.i8) T.d), AV.lit (Value.int IntKind.i64 n.kd),
          AV.lit (Value.int IntKind.i64 n.na), AV.lit (Value.int IntKind.i64 n.nb), AV.lit (Value.int IntKind.i64 n.nk),
          AV.lit (Value.int IntKind.i64 n.ns), AV.lit (Value.int IntKind.i64 n.np), AV.lit (Value.int IntKind.i64 n.no),
          AV.lit (Value.int IntKind.i8 n.za), AV.lit (Value.int IntKind.i8 n.zb),
          AV.sl 1 (List.map (row1 IntKind.i8) n.w), AV.sl 1 (List.map (row1 IntKind.i32) n.b),
          AV.lit (Value.int IntKind.i32 n.qm), AV.lit (Value.int IntKind.i64 n.qs), AV.lit (Value.int IntKind.i8 n.qz),
          AV.lit (Value.int IntKind.i32 n.rm), AV.lit (Value.int IntKind.i64 n.rs), AV.lit (Value.int IntKind.i8 n.rz),
          AV.lit (Value.int IntKind.i8 n.lo), AV.lit (Value.int IntKind.i8 n.hi)]),
    (900,
      Blk.slc 21 1
        (List.map (row1 IntKind.i32)
          (outL T n k ++
            List.map
              (fun (o : Nat) =>
                cvS T n ((↑k : Int) / (convE (Shp.mk T.h T.x T.c) n).fst.x)
                  ((↑k : Int) % (convE (Shp.mk T.h T.x T.c) n).fst.x) (↑o : Int))
              (List.range n.no.toNat))))]), .r [] [PI.n ((↑k : Int) + 1)]]) (G := [GI.any [10, 44, 45, 65], GI.weak 40 (AV.lit (Value.int IntKind.i64 (↑(k + 1) : Int))),
  GI.blk 900 (Blk.slc 21 1 (List.map (row1 IntKind.i32) (outL T n (k + 1)))), GI.sort])
    (ob := [decide ((↑k : Int) < (convE (Shp.mk T.h T.x T.c) n).fst.h * (convE (Shp.mk T.h T.x T.c) n).fst.x) = true,
        Weak (AV.lit (Value.int IntKind.i64 0)) (AV.lit (Value.int IntKind.i64 (↑0 : Int))),
        BlkW (Blk.slc 21 1 (List.map (row1 IntKind.i32) (outL T n k)))
  (Blk.slc 21 1
        (List.map (row1 IntKind.i32)
          (outL T n k ++
            List.map
              (fun (o : Nat) =>
                cvS T n ((↑k : Int) / (convE (Shp.mk T.h T.x T.c) n).fst.x)
                  ((↑k : Int) % (convE (Shp.mk T.h T.x T.c) n).fst.x) (↑o : Int))
              (List.range 0)))),
        VT Try.prog (fnC Try.f21 [1, 1, 1, 1, 1, 1, 0, 1, 0, 0, 1, 1, 0, 0, 1, 1, 0])
  (VS.mk
        [AV.any, AV.any, AV.any, AV.any, AV.ptr 4 0 0, AV.any, AV.ptr 6 0 0, AV.any, AV.ptr 8 0 0, AV.ptr 9 0 0,
          AV.lit (Value.int IntKind.i64 (↑k : Int)), AV.any, AV.any, AV.any, AV.any, AV.any, AV.any, AV.any, AV.any, AV.any,
          AV.any, AV.any, AV.any, AV.any, AV.any, AV.any, AV.any, AV.any, AV.any, AV.any, AV.any, AV.any, AV.any, AV.any,
          AV.any, AV.any, AV.any, AV.any, AV.any,
          AV.lit (Value.int IntKind.i64 ((convE (Shp.mk T.h T.x T.c) n).fst.h * (convE (Shp.mk T.h T.x T.c) n).fst.x)),
          AV.lit (Value.int IntKind.i64 (↑k : Int)), AV.any, AV.any, AV.any,
          AV.lit (Value.int IntKind.i64 (convE (Shp.mk T.h T.x T.c) n).fst.c), AV.lit (Value.int IntKind.i64 (↑0 : Int)),
          AV.any, AV.any, AV.any, AV.any, AV.any, AV.any, AV.any, AV.any, AV.any, AV.any, AV.any, AV.any, AV.any, AV.any,
          AV.any, AV.any, AV.any, AV.any, AV.any, AV.any, AV.any]
        [(4,
            Blk.var
              [AV.lit (Value.int IntKind.i64 0), AV.lit (Value.int IntKind.i64 0), AV.lit (Value.int IntKind.i64 0),
                AV.lit (Value.slice none 0 0)]),
          (6,
            Blk.var
              [AV.lit (Value.int IntKind.i64 (convE (Shp.mk T.h T.x T.c) n).fst.h),
                AV.lit (Value.int IntKind.i64 (convE (Shp.mk T.h T.x T.c) n).fst.x),
                AV.lit (Value.int IntKind.i64 (convE (Shp.mk T.h T.x T.c) n).fst.c)]),
          (8,
            Blk.var
              [AV.lit (Value.int IntKind.i64 (convE (Shp.mk T.h T.x T.c) n).fst.h),
                AV.lit (Value.int IntKind.i64 (convE (Shp.mk T.h T.x T.c) n).fst.x),
                AV.lit (Value.int IntKind.i64 (convE (Shp.mk T.h T.x T.c) n).fst.c), AV.own 900]),
          (9,
            Blk.var
              [AV.lit (Value.int IntKind.i64 T.h), AV.lit (Value.int IntKind.i64 T.x), AV.lit (Value.int IntKind.i64 T.c),
                AV.sl 1 (List.map (row1 IntKind.i8) T.d), AV.lit (Value.int IntKind.i64 n.kd),
                AV.lit (Value.int IntKind.i64 n.na), AV.lit (Value.int IntKind.i64 n.nb),
                AV.lit (Value.int IntKind.i64 n.nk), AV.lit (Value.int IntKind.i64 n.ns),
                AV.lit (Value.int IntKind.i64 n.np), AV.lit (Value.int IntKind.i64 n.no),
                AV.lit (Value.int IntKind.i8 n.za), AV.lit (Value.int IntKind.i8 n.zb),
                AV.sl 1 (List.map (row1 IntKind.i8) n.w), AV.sl 1 (List.map (row1 IntKind.i32) n.b),
                AV.lit (Value.int IntKind.i32 n.qm), AV.lit (Value.int IntKind.i64 n.qs),
                AV.lit (Value.int IntKind.i8 n.qz), AV.lit (Value.int IntKind.i32 n.rm),
                AV.lit (Value.int IntKind.i64 n.rs), AV.lit (Value.int IntKind.i8 n.rz), AV.lit (Value.int IntKind.i8 n.lo),
                AV.lit (Value.int IntKind.i8 n.hi)]),
          (900,
            Blk.slc 21 1
              (List.map (row1 IntKind.i32)
                (outL T n k ++
                  List.map
                    (fun (o : Nat) =>
                      cvS T n ((↑k : Int) / (convE (Shp.mk T.h T.x T.c) n).fst.x)
                        ((↑k : Int) % (convE (Shp.mk T.h T.x T.c) n).fst.x) (↑o : Int))
                    (List.range 0))))])
  (Exit.exit 2)
  (VS.mk
        [AV.any, AV.any, AV.any, AV.any, AV.ptr 4 0 0, AV.any, AV.ptr 6 0 0, AV.any, AV.ptr 8 0 0, AV.ptr 9 0 0,
          AV.lit (Value.int IntKind.i64 (↑k : Int)), AV.any, AV.any, AV.any, AV.any, AV.any, AV.any, AV.any, AV.any, AV.any,
          AV.any, AV.any, AV.any, AV.any, AV.any, AV.any, AV.any, AV.any, AV.any, AV.any, AV.any, AV.any, AV.any, AV.any,
          AV.any, AV.any, AV.any, AV.any, AV.any,
          AV.lit (Value.int IntKind.i64 ((convE (Shp.mk T.h T.x T.c) n).fst.h * (convE (Shp.mk T.h T.x T.c) n).fst.x)),
          AV.lit (Value.int IntKind.i64 (↑k : Int)), AV.any, AV.any, AV.any,
          AV.lit (Value.int IntKind.i64 (convE (Shp.mk T.h T.x T.c) n).fst.c),
          AV.lit (Value.int IntKind.i64 (↑n.no.toNat : Int)), AV.any, AV.any, AV.any, AV.any, AV.any, AV.any, AV.any,
          AV.any, AV.any, AV.any, AV.any, AV.any, AV.any, AV.any, AV.any, AV.any, AV.any, AV.any, AV.any, AV.any, AV.any]
        [(4,
            Blk.var
              [AV.lit (Value.int IntKind.i64 0), AV.lit (Value.int IntKind.i64 0), AV.lit (Value.int IntKind.i64 0),
                AV.lit (Value.slice none 0 0)]),
          (6,
            Blk.var
              [AV.lit (Value.int IntKind.i64 (convE (Shp.mk T.h T.x T.c) n).fst.h),
                AV.lit (Value.int IntKind.i64 (convE (Shp.mk T.h T.x T.c) n).fst.x),
                AV.lit (Value.int IntKind.i64 (convE (Shp.mk T.h T.x T.c) n).fst.c)]),
          (8,
            Blk.var
              [AV.lit (Value.int IntKind.i64 (convE (Shp.mk T.h T.x T.c) n).fst.h),
                AV.lit (Value.int IntKind.i64 (convE (Shp.mk T.h T.x T.c) n).fst.x),
                AV.lit (Value.int IntKind.i64 (convE (Shp.mk T.h T.x T.c) n).fst.c), AV.own 900]),
          (9,
            Blk.var
              [AV.lit (Value.int IntKind.i64 T.h), AV.lit (Value.int IntKind.i64 T.x), AV.lit (Value.int IntKind.i64 T.c),
                AV.sl 1 (List.map (row1 IntKind.i8) T.d), AV.lit (Value.int IntKind.i64 n.kd),
                AV.lit (Value.int IntKind.i64 n.na), AV.lit (Value.int IntKind.i64 n.nb),
                AV.lit (Value.int IntKind.i64 n.nk), AV.lit (Value.int IntKind.i64 n.ns),
                AV.lit (Value.int IntKind.i64 n.np), AV.lit (Value.int IntKind.i64 n.no),
                AV.lit (Value.int IntKind.i8 n.za), AV.lit (Value.int IntKind.i8 n.zb),
                AV.sl 1 (List.map (row1 IntKind.i8) n.w), AV.sl 1 (List.map (row1 IntKind.i32) n.b),
                AV.lit (Value.int IntKind.i32 n.qm), AV.lit (Value.int IntKind.i64 n.qs),
                AV.lit (Value.int IntKind.i8 n.qz), AV.lit (Value.int IntKind.i32 n.rm),
                AV.lit (Value.int IntKind.i64 n.rs), AV.lit (Value.int IntKind.i8 n.rz), AV.lit (Value.int IntKind.i8 n.lo),
                AV.lit (Value.int IntKind.i8 n.hi)]),
          (900,
            Blk.slc 21 1
              (List.map (row1 IntKind.i32)
                (outL T n k ++
                  List.map
                    (fun (o : Nat) =>
                      cvS T n ((↑k : Int) / (convE (Shp.mk T.h T.x T.c) n).fst.x)
                        ((↑k : Int) % (convE (Shp.mk T.h T.x T.c) n).fst.x) (↑o : Int))
                    (List.range n.no.toNat))))]),
        IntKind.i64.wrap ((↑k : Int) + 1) = (↑k : Int) + 1,
        Weak (AV.lit (Value.int IntKind.i64 ((↑k : Int) + 1))) (AV.lit (Value.int IntKind.i64 (↑(k + 1) : Int))),
        BlkW
  (Blk.slc 21 1
        (List.map (row1 IntKind.i32)
          (outL T n k ++
            List.map
              (fun (o : Nat) =>
                cvS T n ((↑k : Int) / (convE (Shp.mk T.h T.x T.c) n).fst.x)
                  ((↑k : Int) % (convE (Shp.mk T.h T.x T.c) n).fst.x) (↑o : Int))
              (List.range n.no.toNat))))
  (Blk.slc 21 1 (List.map (row1 IntKind.i32) (outL T n (k + 1))))]) (by kernel_rfl) ?_
  exact ⟨(by (refine decide_eq_true ?_; omega)),
          (Weak.int (show ((0) : Int) = ((↑0 : Int)) from (by omega))),
          (BlkW.rows (rows_to (row1
    IntKind.i32) (l := outL T n
    k) (m := outL T n k ++
    List.map
          (fun (o : Nat) =>
            cvS T n ((↑k : Int) / (convE (Shp.mk T.h T.x T.c) n).fst.x) ((↑k : Int) % (convE (Shp.mk T.h T.x T.c) n).fst.x)
              (↑o : Int))
          (List.range
            0)) rfl (show (outL T n
    k) = (outL T n k ++
    List.map
          (fun (o : Nat) =>
            cvS T n ((↑k : Int) / (convE (Shp.mk T.h T.x T.c) n).fst.x) ((↑k : Int) % (convE (Shp.mk T.h T.x T.c) n).fst.x)
              (↑o : Int))
          (List.range 0)) from (by (simp; done))))),
          (@cvOf_o (T) (n) (k) (by with_reducible assumption) (by with_reducible assumption)),
          (by exact IntWalk.i64_in _ (by omega)),
          (Weak.int (show (((↑k : Int) + 1) : Int) = ((↑(k + 1) : Int)) from (by omega))),
          (BlkW.rows (rows_to (row1
    IntKind.i32) (l := outL T n k ++
    List.map
          (fun (o : Nat) =>
            cvS T n ((↑k : Int) / (convE (Shp.mk T.h T.x T.c) n).fst.x) ((↑k : Int) % (convE (Shp.mk T.h T.x T.c) n).fst.x)
              (↑o : Int))
          (List.range
            n.no.toNat)) (m := outL T n
    (k +
          1)) rfl (show (outL T n k ++
    List.map
          (fun (o : Nat) =>
            cvS T n ((↑k : Int) / (convE (Shp.mk T.h T.x T.c) n).fst.x) ((↑k : Int) % (convE (Shp.mk T.h T.x T.c) n).fst.x)
              (↑o : Int))
          (List.range n.no.toNat)) = (outL T n (k + 1)) from (by rfl)))),
          trivial⟩
set_option maxRecDepth 100000 in
set_option maxHeartbeats 2000000 in
theorem cvOf_i_e (T : Ten) (n : Nod) (ok : CvOk T n) : VT Try.prog (fnC Try.f21 [1, 1, 1, 1, 1, 1, 0, 1, 0, 0]) (cvOf_i_I T n (((convE ⟨T.h, T.x, T.c⟩ n).1.h * (convE ⟨T.h, T.x, T.c⟩ n).1.x).toNat)) (.exit 0) (cvOf_i_Z T n) := by
  have nn := ok.n
  have g6 := hx_bd nn
  refine VT.run (W := [.r [] [], .br false]) (G := [GI.any [41], GI.sort])
    (ob := [decide
        ((↑((convE (Shp.mk T.h T.x T.c) n).fst.h * (convE (Shp.mk T.h T.x T.c) n).fst.x).toNat : Int) <
          (convE (Shp.mk T.h T.x T.c) n).fst.h * (convE (Shp.mk T.h T.x T.c) n).fst.x) =
  false]) (by kernel_rfl) ?_
  exact ⟨(by (refine decide_eq_false ?_; omega)),
          trivial⟩
theorem cvOf_i (T : Ten) (n : Nod) (ok : CvOk T n) : VT Try.prog (fnC Try.f21 [1, 1, 1, 1, 1, 1, 0, 1, 0]) (cvOf_i_I T n 0) (.exit 0) (cvOf_i_Z T n) :=
  VT.loop (fun k => cvOf_i_I T n k) (((convE ⟨T.h, T.x, T.c⟩ n).1.h * (convE ⟨T.h, T.x, T.c⟩ n).1.x).toNat) (fun k hk => cvOf_i_s T n ok k hk) (cvOf_i_e T n ok) (by intro h; cases h)
/-- What comes of it, or why nothing. -/
def convOf (T : Ten) (n : Nod) : Ten × Int := if tenRight T = false then (⟨0, 0, 0, []⟩, 5) else if (convE ⟨T.h, T.x, T.c⟩ n).2 ≠ 0 then (⟨0, 0, 0, []⟩, (convE ⟨T.h, T.x, T.c⟩ n).2) else (⟨(convE ⟨T.h, T.x, T.c⟩ n).1.h, (convE ⟨T.h, T.x, T.c⟩ n).1.x, (convE ⟨T.h, T.x, T.c⟩ n).1.c, outL T n ((convE ⟨T.h, T.x, T.c⟩ n).1.h * (convE ⟨T.h, T.x, T.c⟩ n).1.x).toNat⟩, 0)
set_option maxRecDepth 100000 in
set_option maxHeartbeats 2000000 in
theorem cvOf_v (T : Ten) (n : Nod) (ok : T.Ok) (okn : n.Ok) : VC Try.prog 21 ([ten .i8 T, nod n]) (.tup [ten .i32 (convOf T n).1, i64 (convOf T n).2]) := by
  have q9 := elems_bd (convE ⟨T.h, T.x, T.c⟩ n).1.h (convE ⟨T.h, T.x, T.c⟩ n).1.x (convE ⟨T.h, T.x, T.c⟩ n).1.c
  rcases Bool.eq_false_or_eq_true (!tenRight T) with hc0 | hc0
  · have gc0 : tenRight T = false := by first | exact hc0 | exact of_decide_eq_true hc0 | exact of_decide_eq_false hc0 | simpa [eqNums] using hc0 | (simp [eqNums] at hc0 ⊢; first | done | assumption | omega)
    have hz : VC Try.prog 21 ([ten .i8 T, nod n]) (AV.tup
  [AV.agg
      [AV.lit (Value.int IntKind.i64 0), AV.lit (Value.int IntKind.i64 0), AV.lit (Value.int IntKind.i64 0),
        AV.lit (Value.slice none 0 0)],
    AV.lit (Value.int IntKind.i64 5)]) := by
      refine VC.run (fn := Try.f21) Try.func21 (W := [.r [] [], .r [] [PI.callr (bv (tenRight T))], .br true, .r [] []])
        (ob := [VC Try.prog 60
  [AV.agg
            [AV.lit (Value.int IntKind.i64 T.h), AV.lit (Value.int IntKind.i64 T.x), AV.lit (Value.int IntKind.i64 T.c),
              AV.sl 1 (List.map (row1 IntKind.i8) T.d)]]
  (AV.lit (Value.bool (tenRight T))),
          (!tenRight T) = true]) (by kernel_rfl) ?_
      exact ⟨(@tRight_v (T) (by with_reducible assumption)),
                (by with_reducible assumption),
                trivial⟩
    exact hz.weak (WeakL.refl _) (Weak.tup (.cons (Weak.agg (.cons (Weak.int (show ((0) : Int) = ((convOf T
      n).fst.h) from (by (simp only [convOf]; rw [if_pos (by simp_all)]; first | done | rfl)))) (.cons (Weak.int (show ((0) : Int) = ((convOf T
      n).fst.x) from (by (simp only [convOf]; rw [if_pos (by simp_all)]; first | done | rfl)))) (.cons (Weak.int (show ((0) : Int) = ((convOf T
      n).fst.c) from (by (simp only [convOf]; rw [if_pos (by simp_all)]; first | done | rfl)))) (.cons (Weak.nilr (show [] = (List.map (row1 IntKind.i32)
  (convOf T
        n).fst.d) from (by (simp only [convOf]; rw [if_pos (by simp_all)]; first | done | rfl)))) .nil))))) (.cons (Weak.int (show ((5) : Int) = ((convOf T n).snd) from (by (simp only [convOf]; rw [if_pos (by simp_all)]; first | done | rfl)))) .nil)))
  · have gc0 : tenRight T = true := by first | exact hc0 | exact of_decide_eq_true hc0 | exact of_decide_eq_false hc0 | simpa [eqNums] using hc0 | (simp [eqNums] at hc0 ⊢; first | done | assumption | omega)
    rcases Bool.eq_false_or_eq_true ((convE (Shp.mk T.h T.x T.c) n).snd != 0) with hc1 | hc1
    · have gc1 : ¬(convE (Shp.mk T.h T.x T.c) n).snd = 0 := by first | exact hc1 | exact of_decide_eq_true hc1 | exact of_decide_eq_false hc1 | simpa [eqNums] using hc1 | (simp [eqNums] at hc1 ⊢; first | done | assumption | omega)
      have hz : VC Try.prog 21 ([ten .i8 T, nod n]) (AV.tup
  [AV.agg
      [AV.lit (Value.int IntKind.i64 0), AV.lit (Value.int IntKind.i64 0), AV.lit (Value.int IntKind.i64 0),
        AV.lit (Value.slice none 0 0)],
    AV.lit (Value.int IntKind.i64 (convE (Shp.mk T.h T.x T.c) n).snd)]) := by
        refine VC.run (fn := Try.f21) Try.func21 (W := [.r [] [], .r [] [PI.callr
   (bv
     (tenRight
       T))], .br false, .r [] [PI.callr
   (AV.tup
     [shp (convE (Shp.mk T.h T.x T.c) n).fst, i64 (convE (Shp.mk T.h T.x T.c) n).snd])], .r [] [], .br true, .r [] []])
          (ob := [VC Try.prog 60
  [AV.agg
              [AV.lit (Value.int IntKind.i64 T.h), AV.lit (Value.int IntKind.i64 T.x), AV.lit (Value.int IntKind.i64 T.c),
                AV.sl 1 (List.map (row1 IntKind.i8) T.d)]]
  (AV.lit (Value.bool (tenRight T))),
            (!tenRight T) = false,
            VC Try.prog 23
  [AV.agg [AV.lit (Value.int IntKind.i64 T.h), AV.lit (Value.int IntKind.i64 T.x), AV.lit (Value.int IntKind.i64 T.c)],
            AV.agg
              [AV.lit (Value.int IntKind.i64 n.kd), AV.lit (Value.int IntKind.i64 n.na), AV.lit (Value.int IntKind.i64 n.nb),
                AV.lit (Value.int IntKind.i64 n.nk), AV.lit (Value.int IntKind.i64 n.ns), AV.lit (Value.int IntKind.i64 n.np),
                AV.lit (Value.int IntKind.i64 n.no), AV.lit (Value.int IntKind.i8 n.za), AV.lit (Value.int IntKind.i8 n.zb),
                AV.sl 1 (List.map (row1 IntKind.i8) n.w), AV.sl 1 (List.map (row1 IntKind.i32) n.b),
                AV.lit (Value.int IntKind.i32 n.qm), AV.lit (Value.int IntKind.i64 n.qs), AV.lit (Value.int IntKind.i8 n.qz),
                AV.lit (Value.int IntKind.i32 n.rm), AV.lit (Value.int IntKind.i64 n.rs), AV.lit (Value.int IntKind.i8 n.rz),
                AV.lit (Value.int IntKind.i8 n.lo), AV.lit (Value.int IntKind.i8 n.hi)]]
  (AV.tup
            [AV.agg
                [AV.lit (Value.int IntKind.i64 (convE (Shp.mk T.h T.x T.c) n).fst.h),
                  AV.lit (Value.int IntKind.i64 (convE (Shp.mk T.h T.x T.c) n).fst.x),
                  AV.lit (Value.int IntKind.i64 (convE (Shp.mk T.h T.x T.c) n).fst.c)],
              AV.lit (Value.int IntKind.i64 (convE (Shp.mk T.h T.x T.c) n).snd)]),
            ((convE (Shp.mk T.h T.x T.c) n).snd != 0) = true]) (by kernel_rfl) ?_
        exact ⟨(@tRight_v (T) (by with_reducible assumption)),
                    (by with_reducible assumption),
                    (@convShape_v (Shp.mk T.h T.x T.c) (n) (by (exact Shp.mk_ok ok.h ok.x ok.c)) (by with_reducible assumption)),
                    (by with_reducible assumption),
                    trivial⟩
      exact hz.weak (WeakL.refl _) (Weak.tup (.cons (Weak.agg (.cons (Weak.int (show ((0) : Int) = ((convOf T
      n).fst.h) from (by (simp only [convOf]; rw [if_neg (by simp_all), if_pos (by assumption)]; first | done | rfl)))) (.cons (Weak.int (show ((0) : Int) = ((convOf T
      n).fst.x) from (by (simp only [convOf]; rw [if_neg (by simp_all), if_pos (by assumption)]; first | done | rfl)))) (.cons (Weak.int (show ((0) : Int) = ((convOf T
      n).fst.c) from (by (simp only [convOf]; rw [if_neg (by simp_all), if_pos (by assumption)]; first | done | rfl)))) (.cons (Weak.nilr (show [] = (List.map (row1 IntKind.i32)
  (convOf T
        n).fst.d) from (by (simp only [convOf]; rw [if_neg (by simp_all), if_pos (by assumption)]; first | done | rfl)))) .nil))))) (.cons (Weak.int (show (((convE (Shp.mk T.h T.x T.c)
    n).snd) : Int) = ((convOf T n).snd) from (by (simp only [convOf]; rw [if_neg (by simp_all), if_pos (by assumption)]; first | done | rfl)))) .nil)))
    · have gc1 : (convE (Shp.mk T.h T.x T.c) n).snd = 0 := by first | exact hc1 | exact of_decide_eq_true hc1 | exact of_decide_eq_false hc1 | simpa [eqNums] using hc1 | (simp [eqNums] at hc1 ⊢; first | done | assumption | omega)
      have hz : VC Try.prog 21 ([ten .i8 T, nod n]) (AV.tup
  [AV.agg
      [AV.lit (Value.int IntKind.i64 (convE (Shp.mk T.h T.x T.c) n).fst.h),
        AV.lit (Value.int IntKind.i64 (convE (Shp.mk T.h T.x T.c) n).fst.x),
        AV.lit (Value.int IntKind.i64 (convE (Shp.mk T.h T.x T.c) n).fst.c),
        AV.sl 1
          (List.map (row1 IntKind.i32)
            (outL T n ((convE (Shp.mk T.h T.x T.c) n).fst.h * (convE (Shp.mk T.h T.x T.c) n).fst.x).toNat))],
    AV.lit (Value.int IntKind.i64 0)]) := by
        refine VC.run (fn := Try.f21) Try.func21 (W := [.r [] [], .r [] [PI.callr
   (bv
     (tenRight
       T))], .br false, .r [] [PI.callr
   (AV.tup
     [shp (convE (Shp.mk T.h T.x T.c) n).fst,
       i64
         (convE (Shp.mk T.h T.x T.c)
             n).snd])], .r [] [], .br false, .r [] [PI.callr
   (i64
     (elems (convE (Shp.mk T.h T.x T.c) n).fst.h (convE (Shp.mk T.h T.x T.c) n).fst.x
       (convE (Shp.mk T.h T.x T.c) n).fst.c)),
 PI.nats 0
   (elems (convE (Shp.mk T.h T.x T.c) n).fst.h (convE (Shp.mk T.h T.x T.c) n).fst.x
       (convE (Shp.mk T.h T.x T.c)
             n).fst.c).toNat], .r [] [], .r [] [PI.n
   ((convE (Shp.mk T.h T.x T.c) n).fst.h *
     (convE (Shp.mk T.h T.x T.c)
           n).fst.x)], .code [GI.any
    [0, 1, 2, 3, 5, 7, 12, 13, 14, 16, 17, 18, 19, 20, 21, 22, 23, 24, 27, 28, 29, 30, 31, 32, 33, 34, 35, 36, 37, 38],
  GI.drop [2, 3], GI.ren 30 900, GI.weak 40 (AV.lit (Value.int IntKind.i64 (↑0 : Int))),
  GI.sort] (Exit.exit
  0) (VS.mk
  [AV.any, AV.any, AV.any, AV.any, AV.ptr 4 0 0, AV.any, AV.ptr 6 0 0, AV.any, AV.ptr 8 0 0, AV.ptr 9 0 0, AV.any,
    AV.any, AV.any, AV.any, AV.any, AV.any, AV.any, AV.any, AV.any, AV.any, AV.any, AV.any, AV.any, AV.any, AV.any,
    AV.any, AV.any, AV.any, AV.any, AV.any, AV.any, AV.any, AV.any, AV.any, AV.any, AV.any, AV.any, AV.any, AV.any,
    AV.lit (Value.int IntKind.i64 ((convE (Shp.mk T.h T.x T.c) n).fst.h * (convE (Shp.mk T.h T.x T.c) n).fst.x)),
    AV.lit
      (Value.int IntKind.i64
        (↑((convE (Shp.mk T.h T.x T.c) n).fst.h * (convE (Shp.mk T.h T.x T.c) n).fst.x).toNat : Int)),
    AV.any, AV.any, AV.any, AV.any, AV.any, AV.any, AV.any, AV.any, AV.any, AV.any, AV.any, AV.any, AV.any, AV.any,
    AV.any, AV.any, AV.any, AV.any, AV.any, AV.any, AV.any, AV.any, AV.any, AV.any, AV.any, AV.any]
  [(4,
      Blk.var
        [AV.lit (Value.int IntKind.i64 0), AV.lit (Value.int IntKind.i64 0), AV.lit (Value.int IntKind.i64 0),
          AV.lit (Value.slice none 0 0)]),
    (6,
      Blk.var
        [AV.lit (Value.int IntKind.i64 (convE (Shp.mk T.h T.x T.c) n).fst.h),
          AV.lit (Value.int IntKind.i64 (convE (Shp.mk T.h T.x T.c) n).fst.x),
          AV.lit (Value.int IntKind.i64 (convE (Shp.mk T.h T.x T.c) n).fst.c)]),
    (8,
      Blk.var
        [AV.lit (Value.int IntKind.i64 (convE (Shp.mk T.h T.x T.c) n).fst.h),
          AV.lit (Value.int IntKind.i64 (convE (Shp.mk T.h T.x T.c) n).fst.x),
          AV.lit (Value.int IntKind.i64 (convE (Shp.mk T.h T.x T.c) n).fst.c), AV.own 900]),
    (9,
      Blk.var
        [AV.lit (Value.int IntKind.i64 T.h), AV.lit (Value.int IntKind.i64 T.x), AV.lit (Value.int IntKind.i64 T.c),
          AV.sl 1 (List.map (row1 IntKind.i8) T.d), AV.lit (Value.int IntKind.i64 n.kd),
          AV.lit (Value.int IntKind.i64 n.na), AV.lit (Value.int IntKind.i64 n.nb), AV.lit (Value.int IntKind.i64 n.nk),
          AV.lit (Value.int IntKind.i64 n.ns), AV.lit (Value.int IntKind.i64 n.np), AV.lit (Value.int IntKind.i64 n.no),
          AV.lit (Value.int IntKind.i8 n.za), AV.lit (Value.int IntKind.i8 n.zb),
          AV.sl 1 (List.map (row1 IntKind.i8) n.w), AV.sl 1 (List.map (row1 IntKind.i32) n.b),
          AV.lit (Value.int IntKind.i32 n.qm), AV.lit (Value.int IntKind.i64 n.qs), AV.lit (Value.int IntKind.i8 n.qz),
          AV.lit (Value.int IntKind.i32 n.rm), AV.lit (Value.int IntKind.i64 n.rs), AV.lit (Value.int IntKind.i8 n.rz),
          AV.lit (Value.int IntKind.i8 n.lo), AV.lit (Value.int IntKind.i8 n.hi)]),
    (900,
      Blk.slc 21 1
        (List.map (row1 IntKind.i32)
          (outL T n ((convE (Shp.mk T.h T.x T.c) n).fst.h * (convE (Shp.mk T.h T.x T.c) n).fst.x).toNat)))]), .r [] []])
          (ob := [VC Try.prog 60
  [AV.agg
              [AV.lit (Value.int IntKind.i64 T.h), AV.lit (Value.int IntKind.i64 T.x), AV.lit (Value.int IntKind.i64 T.c),
                AV.sl 1 (List.map (row1 IntKind.i8) T.d)]]
  (AV.lit (Value.bool (tenRight T))),
            (!tenRight T) = false,
            VC Try.prog 23
  [AV.agg [AV.lit (Value.int IntKind.i64 T.h), AV.lit (Value.int IntKind.i64 T.x), AV.lit (Value.int IntKind.i64 T.c)],
            AV.agg
              [AV.lit (Value.int IntKind.i64 n.kd), AV.lit (Value.int IntKind.i64 n.na), AV.lit (Value.int IntKind.i64 n.nb),
                AV.lit (Value.int IntKind.i64 n.nk), AV.lit (Value.int IntKind.i64 n.ns), AV.lit (Value.int IntKind.i64 n.np),
                AV.lit (Value.int IntKind.i64 n.no), AV.lit (Value.int IntKind.i8 n.za), AV.lit (Value.int IntKind.i8 n.zb),
                AV.sl 1 (List.map (row1 IntKind.i8) n.w), AV.sl 1 (List.map (row1 IntKind.i32) n.b),
                AV.lit (Value.int IntKind.i32 n.qm), AV.lit (Value.int IntKind.i64 n.qs), AV.lit (Value.int IntKind.i8 n.qz),
                AV.lit (Value.int IntKind.i32 n.rm), AV.lit (Value.int IntKind.i64 n.rs), AV.lit (Value.int IntKind.i8 n.rz),
                AV.lit (Value.int IntKind.i8 n.lo), AV.lit (Value.int IntKind.i8 n.hi)]]
  (AV.tup
            [AV.agg
                [AV.lit (Value.int IntKind.i64 (convE (Shp.mk T.h T.x T.c) n).fst.h),
                  AV.lit (Value.int IntKind.i64 (convE (Shp.mk T.h T.x T.c) n).fst.x),
                  AV.lit (Value.int IntKind.i64 (convE (Shp.mk T.h T.x T.c) n).fst.c)],
              AV.lit (Value.int IntKind.i64 (convE (Shp.mk T.h T.x T.c) n).snd)]),
            ((convE (Shp.mk T.h T.x T.c) n).snd != 0) = false,
            VC Try.prog 65
  [AV.agg
              [AV.lit (Value.int IntKind.i64 (convE (Shp.mk T.h T.x T.c) n).fst.h),
                AV.lit (Value.int IntKind.i64 (convE (Shp.mk T.h T.x T.c) n).fst.x),
                AV.lit (Value.int IntKind.i64 (convE (Shp.mk T.h T.x T.c) n).fst.c)]]
  (AV.lit
            (Value.int IntKind.i64
              (elems (convE (Shp.mk T.h T.x T.c) n).fst.h (convE (Shp.mk T.h T.x T.c) n).fst.x
                (convE (Shp.mk T.h T.x T.c) n).fst.c))),
            (0 : Int) = (↑(0 : Nat) : Int),
            elems (convE (Shp.mk T.h T.x T.c) n).fst.h (convE (Shp.mk T.h T.x T.c) n).fst.x
            (convE (Shp.mk T.h T.x T.c) n).fst.c =
  (↑(elems (convE (Shp.mk T.h T.x T.c) n).fst.h (convE (Shp.mk T.h T.x T.c) n).fst.x
                  (convE (Shp.mk T.h T.x T.c) n).fst.c).toNat :
            Int),
            0 ≤
  (elems (convE (Shp.mk T.h T.x T.c) n).fst.h (convE (Shp.mk T.h T.x T.c) n).fst.x
              (convE (Shp.mk T.h T.x T.c) n).fst.c).toNat,
            4 *
            (elems (convE (Shp.mk T.h T.x T.c) n).fst.h (convE (Shp.mk T.h T.x T.c) n).fst.x
                (convE (Shp.mk T.h T.x T.c) n).fst.c).toNat ≤
  281474976710656,
            (elems (convE (Shp.mk T.h T.x T.c) n).fst.h (convE (Shp.mk T.h T.x T.c) n).fst.x
              (convE (Shp.mk T.h T.x T.c) n).fst.c).toNat ≤
  9223372036854775807,
            IntKind.i64.wrap ((convE (Shp.mk T.h T.x T.c) n).fst.h * (convE (Shp.mk T.h T.x T.c) n).fst.x) =
  (convE (Shp.mk T.h T.x T.c) n).fst.h * (convE (Shp.mk T.h T.x T.c) n).fst.x,
            Weak (AV.lit (Value.int IntKind.i64 0)) (AV.lit (Value.int IntKind.i64 (↑0 : Int))),
            VT Try.prog (fnC Try.f21 [1, 1, 1, 1, 1, 1, 0, 1, 0])
  (VS.mk
            [AV.any, AV.any, AV.any, AV.any, AV.ptr 4 0 0, AV.any, AV.ptr 6 0 0, AV.any, AV.ptr 8 0 0, AV.ptr 9 0 0, AV.any,
              AV.any, AV.any, AV.any, AV.any, AV.any, AV.any, AV.any, AV.any, AV.any, AV.any, AV.any, AV.any, AV.any, AV.any,
              AV.any, AV.any, AV.any, AV.any, AV.any, AV.any, AV.any, AV.any, AV.any, AV.any, AV.any, AV.any, AV.any, AV.any,
              AV.lit (Value.int IntKind.i64 ((convE (Shp.mk T.h T.x T.c) n).fst.h * (convE (Shp.mk T.h T.x T.c) n).fst.x)),
              AV.lit (Value.int IntKind.i64 (↑0 : Int)), AV.any, AV.any, AV.any, AV.any, AV.any, AV.any, AV.any, AV.any, AV.any,
              AV.any, AV.any, AV.any, AV.any, AV.any, AV.any, AV.any, AV.any, AV.any, AV.any, AV.any, AV.any, AV.any, AV.any,
              AV.any, AV.any, AV.any]
            [(4,
                Blk.var
                  [AV.lit (Value.int IntKind.i64 0), AV.lit (Value.int IntKind.i64 0), AV.lit (Value.int IntKind.i64 0),
                    AV.lit (Value.slice none 0 0)]),
              (6,
                Blk.var
                  [AV.lit (Value.int IntKind.i64 (convE (Shp.mk T.h T.x T.c) n).fst.h),
                    AV.lit (Value.int IntKind.i64 (convE (Shp.mk T.h T.x T.c) n).fst.x),
                    AV.lit (Value.int IntKind.i64 (convE (Shp.mk T.h T.x T.c) n).fst.c)]),
              (8,
                Blk.var
                  [AV.lit (Value.int IntKind.i64 (convE (Shp.mk T.h T.x T.c) n).fst.h),
                    AV.lit (Value.int IntKind.i64 (convE (Shp.mk T.h T.x T.c) n).fst.x),
                    AV.lit (Value.int IntKind.i64 (convE (Shp.mk T.h T.x T.c) n).fst.c), AV.own 900]),
              (9,
                Blk.var
                  [AV.lit (Value.int IntKind.i64 T.h), AV.lit (Value.int IntKind.i64 T.x), AV.lit (Value.int IntKind.i64 T.c),
                    AV.sl 1 (List.map (row1 IntKind.i8) T.d), AV.lit (Value.int IntKind.i64 n.kd),
                    AV.lit (Value.int IntKind.i64 n.na), AV.lit (Value.int IntKind.i64 n.nb),
                    AV.lit (Value.int IntKind.i64 n.nk), AV.lit (Value.int IntKind.i64 n.ns),
                    AV.lit (Value.int IntKind.i64 n.np), AV.lit (Value.int IntKind.i64 n.no),
                    AV.lit (Value.int IntKind.i8 n.za), AV.lit (Value.int IntKind.i8 n.zb),
                    AV.sl 1 (List.map (row1 IntKind.i8) n.w), AV.sl 1 (List.map (row1 IntKind.i32) n.b),
                    AV.lit (Value.int IntKind.i32 n.qm), AV.lit (Value.int IntKind.i64 n.qs),
                    AV.lit (Value.int IntKind.i8 n.qz), AV.lit (Value.int IntKind.i32 n.rm),
                    AV.lit (Value.int IntKind.i64 n.rs), AV.lit (Value.int IntKind.i8 n.rz), AV.lit (Value.int IntKind.i8 n.lo),
                    AV.lit (Value.int IntKind.i8 n.hi)]),
              (900, Blk.slc 21 1 [])])
  (Exit.exit 0)
  (VS.mk
            [AV.any, AV.any, AV.any, AV.any, AV.ptr 4 0 0, AV.any, AV.ptr 6 0 0, AV.any, AV.ptr 8 0 0, AV.ptr 9 0 0, AV.any,
              AV.any, AV.any, AV.any, AV.any, AV.any, AV.any, AV.any, AV.any, AV.any, AV.any, AV.any, AV.any, AV.any, AV.any,
              AV.any, AV.any, AV.any, AV.any, AV.any, AV.any, AV.any, AV.any, AV.any, AV.any, AV.any, AV.any, AV.any, AV.any,
              AV.lit (Value.int IntKind.i64 ((convE (Shp.mk T.h T.x T.c) n).fst.h * (convE (Shp.mk T.h T.x T.c) n).fst.x)),
              AV.lit
                (Value.int IntKind.i64
                  (↑((convE (Shp.mk T.h T.x T.c) n).fst.h * (convE (Shp.mk T.h T.x T.c) n).fst.x).toNat : Int)),
              AV.any, AV.any, AV.any, AV.any, AV.any, AV.any, AV.any, AV.any, AV.any, AV.any, AV.any, AV.any, AV.any, AV.any,
              AV.any, AV.any, AV.any, AV.any, AV.any, AV.any, AV.any, AV.any, AV.any, AV.any, AV.any, AV.any]
            [(4,
                Blk.var
                  [AV.lit (Value.int IntKind.i64 0), AV.lit (Value.int IntKind.i64 0), AV.lit (Value.int IntKind.i64 0),
                    AV.lit (Value.slice none 0 0)]),
              (6,
                Blk.var
                  [AV.lit (Value.int IntKind.i64 (convE (Shp.mk T.h T.x T.c) n).fst.h),
                    AV.lit (Value.int IntKind.i64 (convE (Shp.mk T.h T.x T.c) n).fst.x),
                    AV.lit (Value.int IntKind.i64 (convE (Shp.mk T.h T.x T.c) n).fst.c)]),
              (8,
                Blk.var
                  [AV.lit (Value.int IntKind.i64 (convE (Shp.mk T.h T.x T.c) n).fst.h),
                    AV.lit (Value.int IntKind.i64 (convE (Shp.mk T.h T.x T.c) n).fst.x),
                    AV.lit (Value.int IntKind.i64 (convE (Shp.mk T.h T.x T.c) n).fst.c), AV.own 900]),
              (9,
                Blk.var
                  [AV.lit (Value.int IntKind.i64 T.h), AV.lit (Value.int IntKind.i64 T.x), AV.lit (Value.int IntKind.i64 T.c),
                    AV.sl 1 (List.map (row1 IntKind.i8) T.d), AV.lit (Value.int IntKind.i64 n.kd),
                    AV.lit (Value.int IntKind.i64 n.na), AV.lit (Value.int IntKind.i64 n.nb),
                    AV.lit (Value.int IntKind.i64 n.nk), AV.lit (Value.int IntKind.i64 n.ns),
                    AV.lit (Value.int IntKind.i64 n.np), AV.lit (Value.int IntKind.i64 n.no),
                    AV.lit (Value.int IntKind.i8 n.za), AV.lit (Value.int IntKind.i8 n.zb),
                    AV.sl 1 (List.map (row1 IntKind.i8) n.w), AV.sl 1 (List.map (row1 IntKind.i32) n.b),
                    AV.lit (Value.int IntKind.i32 n.qm), AV.lit (Value.int IntKind.i64 n.qs),
                    AV.lit (Value.int IntKind.i8 n.qz), AV.lit (Value.int IntKind.i32 n.rm),
                    AV.lit (Value.int IntKind.i64 n.rs), AV.lit (Value.int IntKind.i8 n.rz), AV.lit (Value.int IntKind.i8 n.lo),
                    AV.lit (Value.int IntKind.i8 n.hi)]),
              (900,
                Blk.slc 21 1
                  (List.map (row1 IntKind.i32)
                    (outL T n ((convE (Shp.mk T.h T.x T.c) n).fst.h * (convE (Shp.mk T.h T.x T.c) n).fst.x).toNat)))])]) (by kernel_rfl) ?_
        exact ⟨(@tRight_v (T) (by with_reducible assumption)),
                    (by with_reducible assumption),
                    (@convShape_v (Shp.mk T.h T.x T.c) (n) (by (exact Shp.mk_ok ok.h ok.x ok.c)) (by with_reducible assumption)),
                    (by with_reducible assumption),
                    (@elems_v ((convE (Shp.mk T.h T.x T.c)
                      n).fst.h) ((convE (Shp.mk T.h T.x T.c)
                      n).fst.x) ((convE (Shp.mk T.h T.x T.c) n).fst.c) (by (have nn := CvOk.n (T := T) (n := n) ⟨ok, okn, by assumption, by assumption⟩; have g1 := hx_bd nn; have g2 := nn.en; have g3 := nn.el; have g4 := nn.sc; have g5 := nn.o2; have g6 := nn.o1; have g7 := nn.he; have g8 := nn.xe; first | omega | (refine ⟨?_, ?_⟩ <;> omega) | exact IntWalk.i64_in _ (by omega))) (by (have nn := CvOk.n (T := T) (n := n) ⟨ok, okn, by assumption, by assumption⟩; have g1 := hx_bd nn; have g2 := nn.en; have g3 := nn.el; have g4 := nn.sc; have g5 := nn.o2; have g6 := nn.o1; have g7 := nn.he; have g8 := nn.xe; first | omega | (refine ⟨?_, ?_⟩ <;> omega) | exact IntWalk.i64_in _ (by omega))) (by (have nn := CvOk.n (T := T) (n := n) ⟨ok, okn, by assumption, by assumption⟩; have g1 := hx_bd nn; have g2 := nn.en; have g3 := nn.el; have g4 := nn.sc; have g5 := nn.o2; have g6 := nn.o1; have g7 := nn.he; have g8 := nn.xe; first | omega | (refine ⟨?_, ?_⟩ <;> omega) | exact IntWalk.i64_in _ (by omega)))),
                    (by omega),
                    (by omega),
                    (by omega),
                    (by omega),
                    (by omega),
                    (by (have nn := CvOk.n (T := T) (n := n) ⟨ok, okn, by assumption, by assumption⟩; have g1 := hx_bd nn; have g2 := nn.en; have g3 := nn.el; have g4 := nn.sc; have g5 := nn.o2; have g6 := nn.o1; have g7 := nn.he; have g8 := nn.xe; first | omega | (refine ⟨?_, ?_⟩ <;> omega) | exact IntWalk.i64_in _ (by omega))),
                    (Weak.int (show ((0) : Int) = ((↑0 : Int)) from (by omega))),
                    (@cvOf_i (T) (n) (by (exact ⟨ok, okn, by assumption, by assumption⟩))),
                    trivial⟩
      exact hz.weak (WeakL.refl _) (Weak.tup (.cons (Weak.agg (.cons (Weak.int (show (((convE (Shp.mk T.h T.x T.c)
      n).fst.h) : Int) = ((convOf T
      n).fst.h) from (by (simp only [convOf]; rw [if_neg (by simp_all), if_neg (by omega)]; first | done | rfl)))) (.cons (Weak.int (show (((convE (Shp.mk T.h T.x T.c)
      n).fst.x) : Int) = ((convOf T
      n).fst.x) from (by (simp only [convOf]; rw [if_neg (by simp_all), if_neg (by omega)]; first | done | rfl)))) (.cons (Weak.int (show (((convE (Shp.mk T.h T.x T.c)
      n).fst.c) : Int) = ((convOf T
      n).fst.c) from (by (simp only [convOf]; rw [if_neg (by simp_all), if_neg (by omega)]; first | done | rfl)))) (.cons (Weak.rows (rows_to (row1
  IntKind.i32) (l := outL T n
  ((convE (Shp.mk T.h T.x T.c) n).fst.h *
      (convE (Shp.mk T.h T.x T.c)
            n).fst.x).toNat) (m := (convOf T
      n).fst.d) rfl (show (outL T n
  ((convE (Shp.mk T.h T.x T.c) n).fst.h *
      (convE (Shp.mk T.h T.x T.c)
            n).fst.x).toNat) = ((convOf T
      n).fst.d) from (by (simp only [convOf]; rw [if_neg (by simp_all), if_neg (by omega)]; first | done | rfl))))) .nil))))) (.cons (Weak.int (show ((0) : Int) = ((convOf T n).snd) from (by (simp only [convOf]; rw [if_neg (by simp_all), if_neg (by omega)]; first | done | rfl)))) .nil)))
end Go.Proofs.Ytcegfkmelcjdhaa

