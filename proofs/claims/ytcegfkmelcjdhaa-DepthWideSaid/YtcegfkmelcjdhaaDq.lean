/- All sums of windows of one channel each, by the program. No condition. -/
import Derived.Test.YtcegfkmelcjdhaaDp
namespace Go.Proofs.Ytcegfkmelcjdhaa
open Go.RowKit
set_option linter.unusedSimpArgs false
set_option linter.unusedVariables false
set_option linter.unnecessarySimpa false

abbrev dpO (T : Ten) (n : Nod) : Shp := (depthE ⟨T.h, T.x, T.c⟩ n).1
/-- How many there are. -/
def dN (T : Ten) (n : Nod) : Nat := ((depthE ⟨T.h, T.x, T.c⟩ n).1.h * (depthE ⟨T.h, T.x, T.c⟩ n).1.x * T.c).toNat
def dL (T : Ten) (n : Nod) : List Int := (List.range (dN T n)).map fun (i : Nat) => dAcc T n ((i : Int) / T.c / (depthE ⟨T.h, T.x, T.c⟩ n).1.x) ((i : Int) / T.c % (depthE ⟨T.h, T.x, T.c⟩ n).1.x) ((i : Int) % T.c) (n.nk * n.nk).toNat
theorem dL_len (T : Ten) (n : Nod) : (dL T n).length = dN T n := by simp [dL]
theorem dL_get {T : Ten} {n : Nod} {k : Nat} (hk : k < dN T n) : (dL T n)[k]? = some (dAcc T n ((k : Int) / T.c / (depthE ⟨T.h, T.x, T.c⟩ n).1.x) ((k : Int) / T.c % (depthE ⟨T.h, T.x, T.c⟩ n).1.x) ((k : Int) % T.c) (n.nk * n.nk).toNat) := by
  unfold dL; rw [List.getElem?_map, List.getElem?_range hk]; rfl
/-- Filled from the beginning, so far. -/
def fillTo (A : List Int) (k : Nat) : List Int := A.take k ++ List.replicate (A.length - k) 0
theorem fillTo_len (A : List Int) (k : Nat) (h : k ≤ A.length) : (fillTo A k).length = A.length := by simp [fillTo]; omega
theorem fillTo_all (A : List Int) : fillTo A A.length = A := by simp [fillTo]
theorem fillTo_zero (A : List Int) : fillTo A 0 = List.replicate A.length 0 := by simp [fillTo]
theorem fillTo_set (A : List Int) (k : Nat) (x : Int) (h : A[k]? = some x) : (fillTo A k).set k x = fillTo A (k + 1) := by
  obtain ⟨hk, he⟩ := List.getElem?_eq_some_iff.1 h
  unfold fillTo
  apply List.ext_getElem?
  intro i
  simp only [List.getElem?_set, List.getElem?_append, List.length_append, List.length_take, List.length_replicate, List.getElem?_take, List.getElem?_replicate]
  by_cases hik : k = i
  · subst hik
    rw [if_pos rfl, if_pos (by omega), if_pos (by omega), if_pos (by omega), h]
  · rw [if_neg hik]
    by_cases h1 : i < k
    · rw [if_pos (by omega), if_pos h1, if_pos (by omega), if_pos (by omega)]
    · rw [if_neg (by omega)]
      by_cases h2 : i < A.length
      · rw [if_pos (by omega), if_neg (by omega), if_pos (by omega)]
      · rw [if_neg (by omega), if_neg (by omega), if_neg (by omega)]
theorem at3_bd {T : Ten} {n : Nod} (nn : DpN T n) {k : Nat} (hk : k < dN T n) : (0 ≤ (k : Int) / T.c ∧ (k : Int) / T.c ≤ 1024) ∧ (0 ≤ (k : Int) / T.c / (depthE ⟨T.h, T.x, T.c⟩ n).1.x ∧ (k : Int) / T.c / (depthE ⟨T.h, T.x, T.c⟩ n).1.x ≤ 1000) ∧ (0 ≤ (k : Int) / T.c % (depthE ⟨T.h, T.x, T.c⟩ n).1.x ∧ (k : Int) / T.c % (depthE ⟨T.h, T.x, T.c⟩ n).1.x ≤ 1000) ∧ (0 ≤ (k : Int) % T.c ∧ (k : Int) % T.c < T.c) ∧ (k : Int) < 1024 := by
  have g1 := nn.he
  have g2 := nn.xe
  have g4 := nn.c1
  have g6 := nn.el
  have g7 : (k : Int) < 1024 := by unfold dN at hk; omega
  have h5 := Int.ediv_nonneg (a := (k : Int)) (b := T.c) (by omega) (by omega)
  have h6 := Int.ediv_le_self (a := (k : Int)) T.c (by omega)
  have h7 := Int.emod_nonneg (k : Int) (b := T.c) (by omega)
  have h8 := Int.emod_lt_of_pos (k : Int) (b := T.c) (by omega)
  have i6 : (k : Int) / T.c / (depthE ⟨T.h, T.x, T.c⟩ n).1.x ≤ 15 := by
    have : (k : Int) < (depthE ⟨T.h, T.x, T.c⟩ n).1.h * ((depthE ⟨T.h, T.x, T.c⟩ n).1.x * T.c) := by rw [← Int.mul_assoc]; unfold dN at hk; omega
    rw [Int.ediv_ediv_of_nonneg (by omega), Int.mul_comm T.c]
    have := Int.ediv_lt_of_lt_mul (Int.mul_pos (by omega) (by omega)) this
    omega
  have i5 := Int.ediv_nonneg h5 (b := (depthE ⟨T.h, T.x, T.c⟩ n).1.x) (by omega)
  have i7 := Int.emod_nonneg ((k : Int) / T.c) (b := (depthE ⟨T.h, T.x, T.c⟩ n).1.x) (by omega)
  have i8 := Int.emod_lt_of_pos ((k : Int) / T.c) (b := (depthE ⟨T.h, T.x, T.c⟩ n).1.x) (by omega)
  omega
noncomputable def dpOf_l_I (T : Ten) (n : Nod) (k : Nat) : VS := stt 63 [(2, .ptr 2 0 0), (3, .ptr 3 0 0), (4, .ptr 4 0 0), (6, .ptr 6 0 0), (8, .ptr 8 0 0), (32, i64 (dN T n)), (33, i64 k)] [(2, .var [i64 T.h, i64 T.x, i64 T.c, ints .i8 T.d]), (3, .var (nodC n)), (4, .var [i64 0, i64 0, i64 0, nilv]), (6, .var [i64 (depthE ⟨T.h, T.x, T.c⟩ n).1.h, i64 (depthE ⟨T.h, T.x, T.c⟩ n).1.x, i64 T.c]), (8, .var [i64 (depthE ⟨T.h, T.x, T.c⟩ n).1.h, i64 (depthE ⟨T.h, T.x, T.c⟩ n).1.x, i64 T.c, .own 900]), (900, .slc 21 1 ((fillTo (dL T n) k).map (row1 .i32)))]
noncomputable def dpOf_l_Z (T : Ten) (n : Nod) : VS := dpOf_l_I T n (dN T n)
set_option maxRecDepth 100000 in
set_option maxHeartbeats 2000000 in
theorem dpOf_l_s (T : Ten) (n : Nod) (ok : DpOk T n) (k : Nat) (hk : k < dN T n) : VT Try.prog (fnC Try.f27 [1, 1, 1, 1, 1, 0, 1, 0, 0]) (dpOf_l_I T n k) .normal (dpOf_l_I T n (k + 1)) := by
  have nn := ok.n
  have g1 := nn.he
  have g2 := nn.xe
  have g3 := nn.sc
  have g4 := nn.c1
  have g5 := nn.c2
  have g6 := nn.el
  have g7 := at3_bd nn hk
  have g8 := dL_len T n
  have g9 := fillTo_len (dL T n) k (by omega)
  have g10 := fillTo_set (dL T n) k _ (dL_get hk)
  refine VT.run (W := [.r [] [], .br true, .r [] [], .r [] [PI.n ((↑k : Int) / T.c),
 PI.n ((↑k : Int) / T.c / (depthE (Shp.mk T.h T.x T.c) n).fst.x),
 PI.n ((↑k : Int) / T.c),
 PI.n ((↑k : Int) / T.c % (depthE (Shp.mk T.h T.x T.c) n).fst.x),
 PI.n ((↑k : Int) % T.c),
 PI.callr
   (i32
     (dAcc T n ((↑k : Int) / T.c / (depthE (Shp.mk T.h T.x T.c) n).fst.x)
       ((↑k : Int) / T.c % (depthE (Shp.mk T.h T.x T.c) n).fst.x) ((↑k : Int) % T.c) (n.nk * n.nk).toNat)),
 PI.nat 0], .r [] [PI.n ((↑k : Int) + 1)]]) (G := [GI.any
    [9, 34, 35, 36, 37, 38, 39, 40, 41, 42, 43, 44, 45, 46, 47, 48, 49, 50, 51, 52, 53, 54, 55, 56, 57, 58, 59, 60, 61],
  GI.weak 33 (AV.lit (Value.int IntKind.i64 (↑(k + 1) : Int))),
  GI.blk 900 (Blk.slc 21 1 (List.map (row1 IntKind.i32) (fillTo (dL T n) (k + 1)))), GI.sort])
    (ob := [decide ((↑k : Int) < (↑(dN T n) : Int)) = true,
        T.c ≠ 0,
        IntKind.i64.wrap ((↑k : Int).tdiv T.c) = (↑k : Int) / T.c,
        (depthE (Shp.mk T.h T.x T.c) n).fst.x ≠ 0,
        IntKind.i64.wrap (((↑k : Int) / T.c).tdiv (depthE (Shp.mk T.h T.x T.c) n).fst.x) =
  (↑k : Int) / T.c / (depthE (Shp.mk T.h T.x T.c) n).fst.x,
        T.c ≠ 0,
        IntKind.i64.wrap ((↑k : Int).tdiv T.c) = (↑k : Int) / T.c,
        (depthE (Shp.mk T.h T.x T.c) n).fst.x ≠ 0,
        ((↑k : Int) / T.c).tmod (depthE (Shp.mk T.h T.x T.c) n).fst.x =
  (↑k : Int) / T.c % (depthE (Shp.mk T.h T.x T.c) n).fst.x,
        T.c ≠ 0,
        (↑k : Int).tmod T.c = (↑k : Int) % T.c,
        VC Try.prog 70
  [AV.agg
          [AV.lit (Value.int IntKind.i64 T.h), AV.lit (Value.int IntKind.i64 T.x), AV.lit (Value.int IntKind.i64 T.c),
            AV.sl 1 (List.map (row1 IntKind.i8) T.d)],
        AV.agg
          [AV.lit (Value.int IntKind.i64 n.kd), AV.lit (Value.int IntKind.i64 n.na), AV.lit (Value.int IntKind.i64 n.nb),
            AV.lit (Value.int IntKind.i64 n.nk), AV.lit (Value.int IntKind.i64 n.ns), AV.lit (Value.int IntKind.i64 n.np),
            AV.lit (Value.int IntKind.i64 n.no), AV.lit (Value.int IntKind.i8 n.za), AV.lit (Value.int IntKind.i8 n.zb),
            AV.sl 1 (List.map (row1 IntKind.i8) n.w), AV.sl 1 (List.map (row1 IntKind.i32) n.b),
            AV.lit (Value.int IntKind.i32 n.qm), AV.lit (Value.int IntKind.i64 n.qs), AV.lit (Value.int IntKind.i8 n.qz),
            AV.lit (Value.int IntKind.i32 n.rm), AV.lit (Value.int IntKind.i64 n.rs), AV.lit (Value.int IntKind.i8 n.rz),
            AV.lit (Value.int IntKind.i8 n.lo), AV.lit (Value.int IntKind.i8 n.hi)],
        AV.lit (Value.int IntKind.i64 ((↑k : Int) / T.c / (depthE (Shp.mk T.h T.x T.c) n).fst.x)),
        AV.lit (Value.int IntKind.i64 ((↑k : Int) / T.c % (depthE (Shp.mk T.h T.x T.c) n).fst.x)),
        AV.lit (Value.int IntKind.i64 ((↑k : Int) % T.c))]
  (AV.lit
        (Value.int IntKind.i32
          (dAcc T n ((↑k : Int) / T.c / (depthE (Shp.mk T.h T.x T.c) n).fst.x)
            ((↑k : Int) / T.c % (depthE (Shp.mk T.h T.x T.c) n).fst.x) ((↑k : Int) % T.c) (n.nk * n.nk).toNat))),
        0 ≤ (↑k : Int),
        (↑k : Int) < (↑(List.map (row1 IntKind.i32) (fillTo (dL T n) k)).length : Int),
        (↑k : Int).toNat < (List.map (row1 IntKind.i32) (fillTo (dL T n) k)).length,
        IntKind.i64.wrap ((↑k : Int) + 1) = (↑k : Int) + 1,
        Weak (AV.lit (Value.int IntKind.i64 ((↑k : Int) + 1))) (AV.lit (Value.int IntKind.i64 (↑(k + 1) : Int))),
        BlkW
  (Blk.slc 21 1
        ((List.map (row1 IntKind.i32) (fillTo (dL T n) k)).set (↑k : Int).toNat
          [AV.lit
              (Value.int IntKind.i32
                (dAcc T n ((↑k : Int) / T.c / (depthE (Shp.mk T.h T.x T.c) n).fst.x)
                  ((↑k : Int) / T.c % (depthE (Shp.mk T.h T.x T.c) n).fst.x) ((↑k : Int) % T.c) (n.nk * n.nk).toNat))]))
  (Blk.slc 21 1 (List.map (row1 IntKind.i32) (fillTo (dL T n) (k + 1))))]) (by kernel_rfl) ?_
  exact ⟨(by exact decide_eq_true (by omega)),
          (by omega),
          (Eq.trans (congrArg _ (Int.tdiv_eq_ediv_of_nonneg (by omega))) (by exact IntWalk.i64_in _ (by omega))),
          (by omega),
          (Eq.trans (congrArg _ (Int.tdiv_eq_ediv_of_nonneg (by omega))) (by exact IntWalk.i64_in _ (by omega))),
          (by omega),
          (Eq.trans (congrArg _ (Int.tdiv_eq_ediv_of_nonneg (by omega))) (by exact IntWalk.i64_in _ (by omega))),
          (by omega),
          (Int.tmod_eq_emod_of_nonneg (by omega)),
          (by omega),
          (Int.tmod_eq_emod_of_nonneg (by omega)),
          (@dpSum_v (T) (n) ((↑k : Int) / T.c /
    (depthE (Shp.mk T.h T.x T.c)
              n).fst.x) ((↑k : Int) / T.c %
    (depthE (Shp.mk T.h T.x T.c)
              n).fst.x) ((↑k : Int) % T.c) (by with_reducible assumption) (by omega) (by omega) (by omega) (by omega) (by omega) (by omega)),
          (by omega),
          (by (simp only [decide_eq_true_eq, decide_eq_false_iff_not, beq_iff_eq, bne_iff_ne, ne_eq, beq_eq_false_iff_ne, bne_eq_false_iff_eq, Bool.not_eq_true', Bool.not_eq_false', Bool.not_eq_eq_eq_not, Bool.not_true, Bool.not_false, Classical.not_not, Int.not_lt, Int.not_le, Bool.and_eq_true, Bool.and_eq_false_iff, Bool.or_eq_true, Bool.or_eq_false_iff, Bool.and_true, Bool.true_and, Bool.and_false, Bool.false_and, Bool.or_false, Bool.false_or, eqNums, List.length_map, List.length_append, List.length_cons, List.length_nil, List.length_set, List.length_replicate, List.length_take, List.length_drop, List.length_range, Int.toNat_natCast, Nat.zero_add]; (first | done | with_reducible assumption | omega | contradiction))),
          (by (simp only [decide_eq_true_eq, decide_eq_false_iff_not, beq_iff_eq, bne_iff_ne, ne_eq, beq_eq_false_iff_ne, bne_eq_false_iff_eq, Bool.not_eq_true', Bool.not_eq_false', Bool.not_eq_eq_eq_not, Bool.not_true, Bool.not_false, Classical.not_not, Int.not_lt, Int.not_le, Bool.and_eq_true, Bool.and_eq_false_iff, Bool.or_eq_true, Bool.or_eq_false_iff, Bool.and_true, Bool.true_and, Bool.and_false, Bool.false_and, Bool.or_false, Bool.false_or, eqNums, List.length_map, List.length_append, List.length_cons, List.length_nil, List.length_set, List.length_replicate, List.length_take, List.length_drop, List.length_range, Int.toNat_natCast, Nat.zero_add]; (first | done | with_reducible assumption | omega | contradiction))),
          (by exact IntWalk.i64_in _ (by omega)),
          (Weak.int (show (((↑k : Int) + 1) : Int) = ((↑(k + 1) : Int)) from (by omega))),
          (BlkW.rows (rows_to (row1
    IntKind.i32) (l := (fillTo (dL T n) k).set (↑k : Int).toNat
    (dAcc T n ((↑k : Int) / T.c / (depthE (Shp.mk T.h T.x T.c) n).fst.x)
          ((↑k : Int) / T.c % (depthE (Shp.mk T.h T.x T.c) n).fst.x) ((↑k : Int) % T.c)
          (n.nk *
              n.nk).toNat)) (m := fillTo (dL T n)
    (k +
          1)) (by simp only [List.map_append, List.map_cons, List.map_nil, List.map_set, List.map_replicate, List.map_take, List.map_drop]) (show ((fillTo (dL T n) k).set (↑k : Int).toNat
    (dAcc T n ((↑k : Int) / T.c / (depthE (Shp.mk T.h T.x T.c) n).fst.x)
          ((↑k : Int) / T.c % (depthE (Shp.mk T.h T.x T.c) n).fst.x) ((↑k : Int) % T.c)
          (n.nk * n.nk).toNat)) = (fillTo (dL T n) (k + 1)) from (by (simp only [decide_eq_true_eq, decide_eq_false_iff_not, beq_iff_eq, bne_iff_ne, ne_eq, beq_eq_false_iff_ne, bne_eq_false_iff_eq, Bool.not_eq_true', Bool.not_eq_false', Bool.not_eq_eq_eq_not, Bool.not_true, Bool.not_false, Classical.not_not, Int.not_lt, Int.not_le, Bool.and_eq_true, Bool.and_eq_false_iff, Bool.or_eq_true, Bool.or_eq_false_iff, Bool.and_true, Bool.true_and, Bool.and_false, Bool.false_and, Bool.or_false, Bool.false_or, eqNums, List.length_map, List.length_append, List.length_cons, List.length_nil, List.length_set, List.length_replicate, List.length_take, List.length_drop, List.length_range, Int.toNat_natCast, Nat.zero_add]; (first | done | with_reducible assumption | omega | contradiction)))))),
          trivial⟩
set_option maxRecDepth 100000 in
set_option maxHeartbeats 2000000 in
theorem dpOf_l_e (T : Ten) (n : Nod) (ok : DpOk T n) : VT Try.prog (fnC Try.f27 [1, 1, 1, 1, 1, 0, 1, 0, 0]) (dpOf_l_I T n (dN T n)) (.exit 0) (dpOf_l_Z T n) := by
  have nn := ok.n
  have g1 := nn.he
  have g2 := nn.xe
  have g3 := nn.sc
  have g4 := nn.c1
  have g5 := nn.c2
  have g6 := nn.el
  refine VT.run (W := [.r [] [], .br false]) (G := [GI.any [34], GI.sort])
    (ob := [decide ((↑(dN T n) : Int) < (↑(dN T n) : Int)) = false]) (by kernel_rfl) ?_
  exact ⟨(by exact decide_eq_false (by omega)),
          trivial⟩
theorem dpOf_l (T : Ten) (n : Nod) (ok : DpOk T n) : VT Try.prog (fnC Try.f27 [1, 1, 1, 1, 1, 0, 1, 0]) (dpOf_l_I T n 0) (.exit 0) (dpOf_l_Z T n) :=
  VT.loop (fun k => dpOf_l_I T n k) (dN T n) (fun k hk => dpOf_l_s T n ok k hk) (dpOf_l_e T n ok) (by intro h; cases h)
theorem dN_eq {T : Ten} {n : Nod} (nn : DpN T n) : (elems (depthE ⟨T.h, T.x, T.c⟩ n).1.h (depthE ⟨T.h, T.x, T.c⟩ n).1.x (depthE ⟨T.h, T.x, T.c⟩ n).1.c).toNat = dN T n := by rw [nn.en]; rfl
set_option maxRecDepth 100000 in
set_option maxHeartbeats 2000000 in
theorem dpOf_x (T : Ten) (n : Nod) (ok : DpOk T n) : VC Try.prog 27 ([ten .i8 T, nod n]) (.tup [ten .i32 ⟨(depthE ⟨T.h, T.x, T.c⟩ n).1.h, (depthE ⟨T.h, T.x, T.c⟩ n).1.x, (depthE ⟨T.h, T.x, T.c⟩ n).1.c, dL T n⟩, i64 0]) := by
  have ok1 := ok.ok
  have okn := ok.okn
  have q2 := ok.r
  have q3 := ok.e
  have nn := ok.n
  have g2 := nn.en
  have g3 := nn.el
  have g4 := nn.sc
  have g7 := nn.he
  have g8 := nn.xe
  have g9 := nn.c1
  have g10 := nn.c2
  have g11 := elems_bd (depthE ⟨T.h, T.x, T.c⟩ n).1.h (depthE ⟨T.h, T.x, T.c⟩ n).1.x (depthE ⟨T.h, T.x, T.c⟩ n).1.c
  have g12 := dN_eq nn
  have g13 := fillTo_zero (dL T n)
  have g14 := fillTo_all (dL T n)
  have g15 := dL_len T n
  have hz : VC Try.prog 27 ([ten .i8 T, nod n]) (AV.tup
  [AV.agg
      [AV.lit (Value.int IntKind.i64 (depthE (Shp.mk T.h T.x T.c) n).fst.h),
        AV.lit (Value.int IntKind.i64 (depthE (Shp.mk T.h T.x T.c) n).fst.x), AV.lit (Value.int IntKind.i64 T.c),
        AV.sl 1 (List.map (row1 IntKind.i32) (fillTo (dL T n) (dN T n)))],
    AV.lit (Value.int IntKind.i64 0)]) := by
    refine VC.run (fn := Try.f27) Try.func27 (W := [.r [] [], .r [] [PI.callr
   (bv
     (tenRight
       T))], .br false, .r [] [PI.callr
   (AV.tup
     [shp (depthE (Shp.mk T.h T.x T.c) n).fst,
       i64
         (depthE (Shp.mk T.h T.x T.c)
             n).snd])], .r [] [], .br false, .r [] [PI.callr
   (i64
     (elems (depthE (Shp.mk T.h T.x T.c) n).fst.h (depthE (Shp.mk T.h T.x T.c) n).fst.x
       (depthE (Shp.mk T.h T.x T.c) n).fst.c)),
 PI.nats
   (elems (depthE (Shp.mk T.h T.x T.c) n).fst.h (depthE (Shp.mk T.h T.x T.c) n).fst.x
       (depthE (Shp.mk T.h T.x T.c) n).fst.c).toNat
   (elems (depthE (Shp.mk T.h T.x T.c) n).fst.h (depthE (Shp.mk T.h T.x T.c) n).fst.x
       (depthE (Shp.mk T.h T.x T.c)
             n).fst.c).toNat], .r [] [], .code [GI.any
    [0, 1, 5, 7, 10, 11, 12, 14, 15, 16, 17, 18, 19, 20, 21, 22, 25, 26, 27, 28, 29, 30, 31],
  GI.ren 28 900, GI.weak 32 (AV.lit (Value.int IntKind.i64 (↑(dN T n) : Int))),
  GI.weak 33 (AV.lit (Value.int IntKind.i64 (↑0 : Int))),
  GI.blk 6
    (Blk.var
      [AV.lit (Value.int IntKind.i64 (depthE (Shp.mk T.h T.x T.c) n).fst.h),
        AV.lit (Value.int IntKind.i64 (depthE (Shp.mk T.h T.x T.c) n).fst.x), AV.lit (Value.int IntKind.i64 T.c)]),
  GI.blk 8
    (Blk.var
      [AV.lit (Value.int IntKind.i64 (depthE (Shp.mk T.h T.x T.c) n).fst.h),
        AV.lit (Value.int IntKind.i64 (depthE (Shp.mk T.h T.x T.c) n).fst.x), AV.lit (Value.int IntKind.i64 T.c),
        AV.own 900]),
  GI.blk 900 (Blk.slc 21 1 (List.map (row1 IntKind.i32) (fillTo (dL T n) 0))),
  GI.sort] (Exit.exit
  0) (VS.mk
  [AV.any, AV.any, AV.ptr 2 0 0, AV.ptr 3 0 0, AV.ptr 4 0 0, AV.any, AV.ptr 6 0 0, AV.any, AV.ptr 8 0 0, AV.any, AV.any,
    AV.any, AV.any, AV.any, AV.any, AV.any, AV.any, AV.any, AV.any, AV.any, AV.any, AV.any, AV.any, AV.any, AV.any,
    AV.any, AV.any, AV.any, AV.any, AV.any, AV.any, AV.any, AV.lit (Value.int IntKind.i64 (↑(dN T n) : Int)),
    AV.lit (Value.int IntKind.i64 (↑(dN T n) : Int)), AV.any, AV.any, AV.any, AV.any, AV.any, AV.any, AV.any, AV.any,
    AV.any, AV.any, AV.any, AV.any, AV.any, AV.any, AV.any, AV.any, AV.any, AV.any, AV.any, AV.any, AV.any, AV.any,
    AV.any, AV.any, AV.any, AV.any, AV.any, AV.any, AV.any]
  [(2,
      Blk.var
        [AV.lit (Value.int IntKind.i64 T.h), AV.lit (Value.int IntKind.i64 T.x), AV.lit (Value.int IntKind.i64 T.c),
          AV.sl 1 (List.map (row1 IntKind.i8) T.d)]),
    (3,
      Blk.var
        [AV.lit (Value.int IntKind.i64 n.kd), AV.lit (Value.int IntKind.i64 n.na), AV.lit (Value.int IntKind.i64 n.nb),
          AV.lit (Value.int IntKind.i64 n.nk), AV.lit (Value.int IntKind.i64 n.ns), AV.lit (Value.int IntKind.i64 n.np),
          AV.lit (Value.int IntKind.i64 n.no), AV.lit (Value.int IntKind.i8 n.za), AV.lit (Value.int IntKind.i8 n.zb),
          AV.sl 1 (List.map (row1 IntKind.i8) n.w), AV.sl 1 (List.map (row1 IntKind.i32) n.b),
          AV.lit (Value.int IntKind.i32 n.qm), AV.lit (Value.int IntKind.i64 n.qs), AV.lit (Value.int IntKind.i8 n.qz),
          AV.lit (Value.int IntKind.i32 n.rm), AV.lit (Value.int IntKind.i64 n.rs), AV.lit (Value.int IntKind.i8 n.rz),
          AV.lit (Value.int IntKind.i8 n.lo), AV.lit (Value.int IntKind.i8 n.hi)]),
    (4,
      Blk.var
        [AV.lit (Value.int IntKind.i64 0), AV.lit (Value.int IntKind.i64 0), AV.lit (Value.int IntKind.i64 0),
          AV.lit (Value.slice none 0 0)]),
    (6,
      Blk.var
        [AV.lit (Value.int IntKind.i64 (depthE (Shp.mk T.h T.x T.c) n).fst.h),
          AV.lit (Value.int IntKind.i64 (depthE (Shp.mk T.h T.x T.c) n).fst.x), AV.lit (Value.int IntKind.i64 T.c)]),
    (8,
      Blk.var
        [AV.lit (Value.int IntKind.i64 (depthE (Shp.mk T.h T.x T.c) n).fst.h),
          AV.lit (Value.int IntKind.i64 (depthE (Shp.mk T.h T.x T.c) n).fst.x), AV.lit (Value.int IntKind.i64 T.c),
          AV.own 900]),
    (900, Blk.slc 21 1 (List.map (row1 IntKind.i32) (fillTo (dL T n) (dN T n))))]), .r [] []])
      (ob := [VC Try.prog 60
  [AV.agg
          [AV.lit (Value.int IntKind.i64 T.h), AV.lit (Value.int IntKind.i64 T.x), AV.lit (Value.int IntKind.i64 T.c),
            AV.sl 1 (List.map (row1 IntKind.i8) T.d)]]
  (AV.lit (Value.bool (tenRight T))),
        (!tenRight T) = false,
        VC Try.prog 29
  [AV.agg [AV.lit (Value.int IntKind.i64 T.h), AV.lit (Value.int IntKind.i64 T.x), AV.lit (Value.int IntKind.i64 T.c)],
        AV.agg
          [AV.lit (Value.int IntKind.i64 n.kd), AV.lit (Value.int IntKind.i64 n.na), AV.lit (Value.int IntKind.i64 n.nb),
            AV.lit (Value.int IntKind.i64 n.nk), AV.lit (Value.int IntKind.i64 n.ns), AV.lit (Value.int IntKind.i64 n.np),
            AV.lit (Value.int IntKind.i64 n.no), AV.lit (Value.int IntKind.i8 n.za), AV.lit (Value.int IntKind.i8 n.zb),
            AV.sl 1 (List.map (row1 IntKind.i8) n.w), AV.sl 1 (List.map (row1 IntKind.i32) n.b),
            AV.lit (Value.int IntKind.i32 n.qm), AV.lit (Value.int IntKind.i64 n.qs), AV.lit (Value.int IntKind.i8 n.qz),
            AV.lit (Value.int IntKind.i32 n.rm), AV.lit (Value.int IntKind.i64 n.rs), AV.lit (Value.int IntKind.i8 n.rz),
            AV.lit (Value.int IntKind.i8 n.lo), AV.lit (Value.int IntKind.i8 n.hi)]]
  (AV.tup
        [AV.agg
            [AV.lit (Value.int IntKind.i64 (depthE (Shp.mk T.h T.x T.c) n).fst.h),
              AV.lit (Value.int IntKind.i64 (depthE (Shp.mk T.h T.x T.c) n).fst.x),
              AV.lit (Value.int IntKind.i64 (depthE (Shp.mk T.h T.x T.c) n).fst.c)],
          AV.lit (Value.int IntKind.i64 (depthE (Shp.mk T.h T.x T.c) n).snd)]),
        ((depthE (Shp.mk T.h T.x T.c) n).snd != 0) = false,
        VC Try.prog 65
  [AV.agg
          [AV.lit (Value.int IntKind.i64 (depthE (Shp.mk T.h T.x T.c) n).fst.h),
            AV.lit (Value.int IntKind.i64 (depthE (Shp.mk T.h T.x T.c) n).fst.x),
            AV.lit (Value.int IntKind.i64 (depthE (Shp.mk T.h T.x T.c) n).fst.c)]]
  (AV.lit
        (Value.int IntKind.i64
          (elems (depthE (Shp.mk T.h T.x T.c) n).fst.h (depthE (Shp.mk T.h T.x T.c) n).fst.x
            (depthE (Shp.mk T.h T.x T.c) n).fst.c))),
        elems (depthE (Shp.mk T.h T.x T.c) n).fst.h (depthE (Shp.mk T.h T.x T.c) n).fst.x
        (depthE (Shp.mk T.h T.x T.c) n).fst.c =
  (↑(elems (depthE (Shp.mk T.h T.x T.c) n).fst.h (depthE (Shp.mk T.h T.x T.c) n).fst.x
              (depthE (Shp.mk T.h T.x T.c) n).fst.c).toNat :
        Int),
        elems (depthE (Shp.mk T.h T.x T.c) n).fst.h (depthE (Shp.mk T.h T.x T.c) n).fst.x
        (depthE (Shp.mk T.h T.x T.c) n).fst.c =
  (↑(elems (depthE (Shp.mk T.h T.x T.c) n).fst.h (depthE (Shp.mk T.h T.x T.c) n).fst.x
              (depthE (Shp.mk T.h T.x T.c) n).fst.c).toNat :
        Int),
        (elems (depthE (Shp.mk T.h T.x T.c) n).fst.h (depthE (Shp.mk T.h T.x T.c) n).fst.x
          (depthE (Shp.mk T.h T.x T.c) n).fst.c).toNat ≤
  (elems (depthE (Shp.mk T.h T.x T.c) n).fst.h (depthE (Shp.mk T.h T.x T.c) n).fst.x
          (depthE (Shp.mk T.h T.x T.c) n).fst.c).toNat,
        4 *
        (elems (depthE (Shp.mk T.h T.x T.c) n).fst.h (depthE (Shp.mk T.h T.x T.c) n).fst.x
            (depthE (Shp.mk T.h T.x T.c) n).fst.c).toNat ≤
  281474976710656,
        (elems (depthE (Shp.mk T.h T.x T.c) n).fst.h (depthE (Shp.mk T.h T.x T.c) n).fst.x
          (depthE (Shp.mk T.h T.x T.c) n).fst.c).toNat ≤
  9223372036854775807,
        Weak
  (AV.lit
        (Value.int IntKind.i64
          (↑(List.replicate
                  (elems (depthE (Shp.mk T.h T.x T.c) n).fst.h (depthE (Shp.mk T.h T.x T.c) n).fst.x
                      (depthE (Shp.mk T.h T.x T.c) n).fst.c).toNat
                  [AV.lit (Value.int IntKind.i32 0)]).length :
            Int)))
  (AV.lit (Value.int IntKind.i64 (↑(dN T n) : Int))),
        Weak (AV.lit (Value.int IntKind.i64 0)) (AV.lit (Value.int IntKind.i64 (↑0 : Int))),
        BlkW
  (Blk.var
        [AV.lit (Value.int IntKind.i64 (depthE (Shp.mk T.h T.x T.c) n).fst.h),
          AV.lit (Value.int IntKind.i64 (depthE (Shp.mk T.h T.x T.c) n).fst.x),
          AV.lit (Value.int IntKind.i64 (depthE (Shp.mk T.h T.x T.c) n).fst.c)])
  (Blk.var
        [AV.lit (Value.int IntKind.i64 (depthE (Shp.mk T.h T.x T.c) n).fst.h),
          AV.lit (Value.int IntKind.i64 (depthE (Shp.mk T.h T.x T.c) n).fst.x), AV.lit (Value.int IntKind.i64 T.c)]),
        BlkW
  (Blk.var
        [AV.lit (Value.int IntKind.i64 (depthE (Shp.mk T.h T.x T.c) n).fst.h),
          AV.lit (Value.int IntKind.i64 (depthE (Shp.mk T.h T.x T.c) n).fst.x),
          AV.lit (Value.int IntKind.i64 (depthE (Shp.mk T.h T.x T.c) n).fst.c), AV.own 900])
  (Blk.var
        [AV.lit (Value.int IntKind.i64 (depthE (Shp.mk T.h T.x T.c) n).fst.h),
          AV.lit (Value.int IntKind.i64 (depthE (Shp.mk T.h T.x T.c) n).fst.x), AV.lit (Value.int IntKind.i64 T.c),
          AV.own 900]),
        BlkW
  (Blk.slc 21 1
        (List.replicate
          (elems (depthE (Shp.mk T.h T.x T.c) n).fst.h (depthE (Shp.mk T.h T.x T.c) n).fst.x
              (depthE (Shp.mk T.h T.x T.c) n).fst.c).toNat
          [AV.lit (Value.int IntKind.i32 0)]))
  (Blk.slc 21 1 (List.map (row1 IntKind.i32) (fillTo (dL T n) 0))),
        VT Try.prog (fnC Try.f27 [1, 1, 1, 1, 1, 0, 1, 0])
  (VS.mk
        [AV.any, AV.any, AV.ptr 2 0 0, AV.ptr 3 0 0, AV.ptr 4 0 0, AV.any, AV.ptr 6 0 0, AV.any, AV.ptr 8 0 0, AV.any,
          AV.any, AV.any, AV.any, AV.any, AV.any, AV.any, AV.any, AV.any, AV.any, AV.any, AV.any, AV.any, AV.any, AV.any,
          AV.any, AV.any, AV.any, AV.any, AV.any, AV.any, AV.any, AV.any, AV.lit (Value.int IntKind.i64 (↑(dN T n) : Int)),
          AV.lit (Value.int IntKind.i64 (↑0 : Int)), AV.any, AV.any, AV.any, AV.any, AV.any, AV.any, AV.any, AV.any, AV.any,
          AV.any, AV.any, AV.any, AV.any, AV.any, AV.any, AV.any, AV.any, AV.any, AV.any, AV.any, AV.any, AV.any, AV.any,
          AV.any, AV.any, AV.any, AV.any, AV.any, AV.any]
        [(2,
            Blk.var
              [AV.lit (Value.int IntKind.i64 T.h), AV.lit (Value.int IntKind.i64 T.x), AV.lit (Value.int IntKind.i64 T.c),
                AV.sl 1 (List.map (row1 IntKind.i8) T.d)]),
          (3,
            Blk.var
              [AV.lit (Value.int IntKind.i64 n.kd), AV.lit (Value.int IntKind.i64 n.na),
                AV.lit (Value.int IntKind.i64 n.nb), AV.lit (Value.int IntKind.i64 n.nk),
                AV.lit (Value.int IntKind.i64 n.ns), AV.lit (Value.int IntKind.i64 n.np),
                AV.lit (Value.int IntKind.i64 n.no), AV.lit (Value.int IntKind.i8 n.za), AV.lit (Value.int IntKind.i8 n.zb),
                AV.sl 1 (List.map (row1 IntKind.i8) n.w), AV.sl 1 (List.map (row1 IntKind.i32) n.b),
                AV.lit (Value.int IntKind.i32 n.qm), AV.lit (Value.int IntKind.i64 n.qs),
                AV.lit (Value.int IntKind.i8 n.qz), AV.lit (Value.int IntKind.i32 n.rm),
                AV.lit (Value.int IntKind.i64 n.rs), AV.lit (Value.int IntKind.i8 n.rz), AV.lit (Value.int IntKind.i8 n.lo),
                AV.lit (Value.int IntKind.i8 n.hi)]),
          (4,
            Blk.var
              [AV.lit (Value.int IntKind.i64 0), AV.lit (Value.int IntKind.i64 0), AV.lit (Value.int IntKind.i64 0),
                AV.lit (Value.slice none 0 0)]),
          (6,
            Blk.var
              [AV.lit (Value.int IntKind.i64 (depthE (Shp.mk T.h T.x T.c) n).fst.h),
                AV.lit (Value.int IntKind.i64 (depthE (Shp.mk T.h T.x T.c) n).fst.x), AV.lit (Value.int IntKind.i64 T.c)]),
          (8,
            Blk.var
              [AV.lit (Value.int IntKind.i64 (depthE (Shp.mk T.h T.x T.c) n).fst.h),
                AV.lit (Value.int IntKind.i64 (depthE (Shp.mk T.h T.x T.c) n).fst.x), AV.lit (Value.int IntKind.i64 T.c),
                AV.own 900]),
          (900, Blk.slc 21 1 (List.map (row1 IntKind.i32) (fillTo (dL T n) 0)))])
  (Exit.exit 0)
  (VS.mk
        [AV.any, AV.any, AV.ptr 2 0 0, AV.ptr 3 0 0, AV.ptr 4 0 0, AV.any, AV.ptr 6 0 0, AV.any, AV.ptr 8 0 0, AV.any,
          AV.any, AV.any, AV.any, AV.any, AV.any, AV.any, AV.any, AV.any, AV.any, AV.any, AV.any, AV.any, AV.any, AV.any,
          AV.any, AV.any, AV.any, AV.any, AV.any, AV.any, AV.any, AV.any, AV.lit (Value.int IntKind.i64 (↑(dN T n) : Int)),
          AV.lit (Value.int IntKind.i64 (↑(dN T n) : Int)), AV.any, AV.any, AV.any, AV.any, AV.any, AV.any, AV.any, AV.any,
          AV.any, AV.any, AV.any, AV.any, AV.any, AV.any, AV.any, AV.any, AV.any, AV.any, AV.any, AV.any, AV.any, AV.any,
          AV.any, AV.any, AV.any, AV.any, AV.any, AV.any, AV.any]
        [(2,
            Blk.var
              [AV.lit (Value.int IntKind.i64 T.h), AV.lit (Value.int IntKind.i64 T.x), AV.lit (Value.int IntKind.i64 T.c),
                AV.sl 1 (List.map (row1 IntKind.i8) T.d)]),
          (3,
            Blk.var
              [AV.lit (Value.int IntKind.i64 n.kd), AV.lit (Value.int IntKind.i64 n.na),
                AV.lit (Value.int IntKind.i64 n.nb), AV.lit (Value.int IntKind.i64 n.nk),
                AV.lit (Value.int IntKind.i64 n.ns), AV.lit (Value.int IntKind.i64 n.np),
                AV.lit (Value.int IntKind.i64 n.no), AV.lit (Value.int IntKind.i8 n.za), AV.lit (Value.int IntKind.i8 n.zb),
                AV.sl 1 (List.map (row1 IntKind.i8) n.w), AV.sl 1 (List.map (row1 IntKind.i32) n.b),
                AV.lit (Value.int IntKind.i32 n.qm), AV.lit (Value.int IntKind.i64 n.qs),
                AV.lit (Value.int IntKind.i8 n.qz), AV.lit (Value.int IntKind.i32 n.rm),
                AV.lit (Value.int IntKind.i64 n.rs), AV.lit (Value.int IntKind.i8 n.rz), AV.lit (Value.int IntKind.i8 n.lo),
                AV.lit (Value.int IntKind.i8 n.hi)]),
          (4,
            Blk.var
              [AV.lit (Value.int IntKind.i64 0), AV.lit (Value.int IntKind.i64 0), AV.lit (Value.int IntKind.i64 0),
                AV.lit (Value.slice none 0 0)]),
          (6,
            Blk.var
              [AV.lit (Value.int IntKind.i64 (depthE (Shp.mk T.h T.x T.c) n).fst.h),
                AV.lit (Value.int IntKind.i64 (depthE (Shp.mk T.h T.x T.c) n).fst.x), AV.lit (Value.int IntKind.i64 T.c)]),
          (8,
            Blk.var
              [AV.lit (Value.int IntKind.i64 (depthE (Shp.mk T.h T.x T.c) n).fst.h),
                AV.lit (Value.int IntKind.i64 (depthE (Shp.mk T.h T.x T.c) n).fst.x), AV.lit (Value.int IntKind.i64 T.c),
                AV.own 900]),
          (900, Blk.slc 21 1 (List.map (row1 IntKind.i32) (fillTo (dL T n) (dN T n))))])]) (by kernel_rfl) ?_
    exact ⟨(@tRight_v (T) (by with_reducible assumption)),
            (by (simp only [decide_eq_true_eq, decide_eq_false_iff_not, beq_iff_eq, bne_iff_ne, ne_eq, beq_eq_false_iff_ne, bne_eq_false_iff_eq, Bool.not_eq_true', Bool.not_eq_false', Bool.not_eq_eq_eq_not, Bool.not_true, Bool.not_false, Classical.not_not, Int.not_lt, Int.not_le, Bool.and_eq_true, Bool.and_eq_false_iff, Bool.or_eq_true, Bool.or_eq_false_iff, Bool.and_true, Bool.true_and, Bool.and_false, Bool.false_and, Bool.or_false, Bool.false_or, eqNums, List.length_map, List.length_append, List.length_cons, List.length_nil, List.length_set, List.length_replicate, List.length_take, List.length_drop, List.length_range, Int.toNat_natCast, Nat.zero_add]; (first | done | with_reducible assumption | omega | contradiction))),
            (@depthShape_v (Shp.mk T.h T.x T.c) (n) (by (exact Shp.mk_ok ok1.h ok1.x ok1.c)) (by with_reducible assumption)),
            (by (simp only [decide_eq_true_eq, decide_eq_false_iff_not, beq_iff_eq, bne_iff_ne, ne_eq, beq_eq_false_iff_ne, bne_eq_false_iff_eq, Bool.not_eq_true', Bool.not_eq_false', Bool.not_eq_eq_eq_not, Bool.not_true, Bool.not_false, Classical.not_not, Int.not_lt, Int.not_le, Bool.and_eq_true, Bool.and_eq_false_iff, Bool.or_eq_true, Bool.or_eq_false_iff, Bool.and_true, Bool.true_and, Bool.and_false, Bool.false_and, Bool.or_false, Bool.false_or, eqNums, List.length_map, List.length_append, List.length_cons, List.length_nil, List.length_set, List.length_replicate, List.length_take, List.length_drop, List.length_range, Int.toNat_natCast, Nat.zero_add]; (first | done | with_reducible assumption | omega | contradiction))),
            (@elems_v ((depthE (Shp.mk T.h T.x T.c)
              n).fst.h) ((depthE (Shp.mk T.h T.x T.c)
              n).fst.x) ((depthE (Shp.mk T.h T.x T.c) n).fst.c) (by (refine ⟨?_, ?_⟩ <;> omega)) (by (refine ⟨?_, ?_⟩ <;> omega)) (by (refine ⟨?_, ?_⟩ <;> omega))),
            (by omega),
            (by omega),
            (by omega),
            (by omega),
            (by omega),
            (Weak.int (show (((↑(List.replicate
                (elems (depthE (Shp.mk T.h T.x T.c) n).fst.h (depthE (Shp.mk T.h T.x T.c) n).fst.x
                    (depthE (Shp.mk T.h T.x T.c) n).fst.c).toNat
                [AV.lit (Value.int IntKind.i32 0)]).length :
      Int)) : Int) = ((↑(dN T n) : Int)) from (by (rw [List.length_replicate, g12])))),
            (Weak.int (show ((0) : Int) = ((↑0 : Int)) from (by omega))),
            (BlkW.var (.cons (.refl _) (.cons (.refl _) (.cons (Weak.int (show (((depthE (Shp.mk T.h T.x T.c)
              n).fst.c) : Int) = (T.c) from (by with_reducible assumption))) .nil)))),
            (BlkW.var (.cons (.refl _) (.cons (.refl _) (.cons (Weak.int (show (((depthE (Shp.mk T.h T.x T.c)
              n).fst.c) : Int) = (T.c) from (by with_reducible assumption))) (.cons (.refl _) .nil))))),
            (BlkW.rows (rows_to (row1
      IntKind.i32) (l := List.replicate
      (elems (depthE (Shp.mk T.h T.x T.c) n).fst.h (depthE (Shp.mk T.h T.x T.c) n).fst.x
              (depthE (Shp.mk T.h T.x T.c) n).fst.c).toNat
      0) (m := fillTo (dL T n)
      0) (by simp only [List.map_append, List.map_cons, List.map_nil, List.map_set, List.map_replicate, List.map_take, List.map_drop]) (show (List.replicate
      (elems (depthE (Shp.mk T.h T.x T.c) n).fst.h (depthE (Shp.mk T.h T.x T.c) n).fst.x
              (depthE (Shp.mk T.h T.x T.c) n).fst.c).toNat
      0) = (fillTo (dL T n) 0) from (by (rw [g12, ← g15, ← g13]))))),
            (@dpOf_l (T) (n) (by with_reducible assumption)),
            trivial⟩
  exact hz.weak (WeakL.refl _) (Weak.tup (.cons (Weak.agg (.cons (.refl _) (.cons (.refl _) (.cons (Weak.int (show ((T.c) : Int) = ((depthE
      (Shp.mk T.h T.x T.c)
      n).fst.c) from (by omega))) (.cons (Weak.rows (rows_to (row1
  IntKind.i32) (l := fillTo (dL T n)
  (dN T
    n)) (m := dL T n) rfl (show (fillTo (dL T n) (dN T n)) = (dL T n) from (by (rw [← g15, g14]))))) .nil))))) (.cons (.refl _) .nil)))
end Go.Proofs.Ytcegfkmelcjdhaa

