/- A window makes of a tensor the sums of the document: the law. No condition. -/
import Derived.Test.YtcegfkmelcjdhaaCvM
namespace Go.Proofs.Ytcegfkmelcjdhaa
open Go.RowKit
set_option linter.unusedSimpArgs false
set_option linter.unusedVariables false
set_option linter.unnecessarySimpa false

def in64B (n : Int) : Bool := decide (-9223372036854775808 ≤ n) && decide (n ≤ 9223372036854775807)
def in32B (n : Int) : Bool := decide (-2147483648 ≤ n) && decide (n ≤ 2147483647)
def in8B (n : Int) : Bool := decide (-128 ≤ n) && decide (n ≤ 127)
theorem in64B_ok {n : Int} (h : in64B n = true) : In64 n := by
  simp only [in64B, Bool.and_eq_true, decide_eq_true_eq] at h; exact h
theorem in32B_ok {n : Int} (h : in32B n = true) : In32 n := by
  simp only [in32B, Bool.and_eq_true, decide_eq_true_eq] at h; exact h
theorem in8B_ok {n : Int} (h : in8B n = true) : In8 n := by
  simp only [in8B, Bool.and_eq_true, decide_eq_true_eq] at h; exact h
def Ten.okB (T : Ten) : Bool := in64B T.h && in64B T.x && in64B T.c && T.d.all in8B
theorem Ten.okB_ok {T : Ten} (h : T.okB = true) : T.Ok := by
  simp only [Ten.okB, Bool.and_eq_true, List.all_eq_true] at h
  exact ⟨in64B_ok h.1.1.1, in64B_ok h.1.1.2, in64B_ok h.1.2, fun v hv => in8B_ok (h.2 v hv)⟩
def Nod.okB (n : Nod) : Bool := in64B n.kd && (in64B n.na && (in64B n.nb && (in64B n.nk && (in64B n.ns && (in64B n.np && (in64B n.no && (in8B n.za && (in8B n.zb && (n.w.all in8B && (n.b.all in32B && (in32B n.qm && (in64B n.qs && (in8B n.qz && (in32B n.rm && (in64B n.rs && (in8B n.rz && (in8B n.lo && in8B n.hi)))))))))))))))))
theorem Nod.okB_ok {n : Nod} (h : n.okB = true) : n.Ok := by
  simp only [Nod.okB, Bool.and_eq_true, List.all_eq_true] at h
  obtain ⟨h1, h2, h3, h4, h5, h6, h7, h8, h9, h10, h11, h12, h13, h14, h15, h16, h17, h18, h19⟩ := h
  exact ⟨in64B_ok h1, in64B_ok h2, in64B_ok h3, in64B_ok h4, in64B_ok h5, in64B_ok h6, in64B_ok h7, in8B_ok h8, in8B_ok h9, fun v hv => in8B_ok (h10 v hv), fun v hv => in32B_ok (h11 v hv), in32B_ok h12, in64B_ok h13, in8B_ok h14, in32B_ok h15, in64B_ok h16, in8B_ok h17, in8B_ok h18, in8B_ok h19⟩
set_option maxRecDepth 100000 in
set_option maxHeartbeats 2000000 in
theorem few10_v (T : Ten) (n : Nod)  : VC Try.prog 19 ([ten .i8 T, nod n]) (bv (decide (T.d.length ≤ 1024) && decide (n.w.length ≤ 2000) && decide (n.b.length ≤ 200))) := by
  rcases Bool.eq_false_or_eq_true (decide ((↑(List.map (row1 IntKind.i8) T.d).length : Int) ≤ 1024)) with hc0 | hc0
  · have gc0 : (↑(List.map (row1 IntKind.i8) T.d).length : Int) ≤ 1024 := of_decide_eq_true hc0
    rcases Bool.eq_false_or_eq_true (decide ((↑(List.map (row1 IntKind.i8) n.w).length : Int) ≤ 2000)) with hc1 | hc1
    · have gc1 : (↑(List.map (row1 IntKind.i8) n.w).length : Int) ≤ 2000 := of_decide_eq_true hc1
      have hz : VC Try.prog 19 ([ten .i8 T, nod n]) (AV.lit (Value.bool (decide ((↑(List.map (row1 IntKind.i32) n.b).length : Int) ≤ 200)))) := by
        refine VC.run (fn := Try.f19) Try.func19 (W := [.r [] [], .r [] [PI.br true,
 PI.br true,
 PI.br true,
 PI.br true,
 PI.br true,
 PI.br true,
 PI.br true,
 PI.br true,
 PI.br true,
 PI.br true]])
          (ob := [decide ((↑(List.map (row1 IntKind.i8) T.d).length : Int) ≤ 1024) = true,
            decide ((↑(List.map (row1 IntKind.i8) T.d).length : Int) ≤ 1024) = true,
            decide ((↑(List.map (row1 IntKind.i8) T.d).length : Int) ≤ 1024) = true,
            decide ((↑(List.map (row1 IntKind.i8) T.d).length : Int) ≤ 1024) = true,
            decide ((↑(List.map (row1 IntKind.i8) T.d).length : Int) ≤ 1024) = true,
            decide ((↑(List.map (row1 IntKind.i8) n.w).length : Int) ≤ 2000) = true,
            decide ((↑(List.map (row1 IntKind.i8) n.w).length : Int) ≤ 2000) = true,
            decide ((↑(List.map (row1 IntKind.i8) n.w).length : Int) ≤ 2000) = true,
            decide ((↑(List.map (row1 IntKind.i8) n.w).length : Int) ≤ 2000) = true,
            decide ((↑(List.map (row1 IntKind.i8) n.w).length : Int) ≤ 2000) = true]) (by kernel_rfl) ?_
        exact ⟨(by with_reducible assumption),
                    (by with_reducible assumption),
                    (by with_reducible assumption),
                    (by with_reducible assumption),
                    (by with_reducible assumption),
                    (by with_reducible assumption),
                    (by with_reducible assumption),
                    (by with_reducible assumption),
                    (by with_reducible assumption),
                    (by with_reducible assumption),
                    trivial⟩
      exact hz.weak (WeakL.refl _) (Weak.bool (show ((decide
  ((↑(List.map (row1 IntKind.i32) n.b).length : Int) ≤
    200)) : Bool) = (decide (T.d.length ≤ 1024) && decide (n.w.length ≤ 2000) && decide (n.b.length ≤ 200)) from (by (rw [Bool.eq_iff_iff]; simp only [decide_eq_true_eq, decide_eq_false_iff_not, beq_iff_eq, bne_iff_ne, ne_eq, beq_eq_false_iff_ne, bne_eq_false_iff_eq, Bool.not_eq_true', Bool.not_eq_false', Bool.not_eq_eq_eq_not, Bool.not_true, Bool.not_false, Classical.not_not, Int.not_lt, Int.not_le, Bool.and_eq_true, Bool.and_eq_false_iff, Bool.or_eq_true, Bool.or_eq_false_iff, Bool.and_true, Bool.true_and, Bool.and_false, Bool.false_and, Bool.or_false, Bool.false_or, eqNums, List.length_map, List.length_append, List.length_cons, List.length_nil, List.length_set, List.length_replicate, List.length_take, List.length_drop, List.length_range, Int.toNat_natCast, Nat.zero_add, List.map_eq_nil_iff, Bool.false_eq_true, Bool.true_eq_false, false_iff, true_iff, iff_false, iff_true] at *; first | done | omega))))
    · have gc1 : ¬(↑(List.map (row1 IntKind.i8) n.w).length : Int) ≤ 2000 := of_decide_eq_false hc1
      have hz : VC Try.prog 19 ([ten .i8 T, nod n]) (AV.lit (Value.bool false)) := by
        refine VC.run (fn := Try.f19) Try.func19 (W := [.r [] [], .r [] [PI.br true,
 PI.br true,
 PI.br true,
 PI.br true,
 PI.br true,
 PI.br false,
 PI.br false,
 PI.br false,
 PI.br false,
 PI.br false]])
          (ob := [decide ((↑(List.map (row1 IntKind.i8) T.d).length : Int) ≤ 1024) = true,
            decide ((↑(List.map (row1 IntKind.i8) T.d).length : Int) ≤ 1024) = true,
            decide ((↑(List.map (row1 IntKind.i8) T.d).length : Int) ≤ 1024) = true,
            decide ((↑(List.map (row1 IntKind.i8) T.d).length : Int) ≤ 1024) = true,
            decide ((↑(List.map (row1 IntKind.i8) T.d).length : Int) ≤ 1024) = true,
            decide ((↑(List.map (row1 IntKind.i8) n.w).length : Int) ≤ 2000) = !true,
            decide ((↑(List.map (row1 IntKind.i8) n.w).length : Int) ≤ 2000) = !true,
            decide ((↑(List.map (row1 IntKind.i8) n.w).length : Int) ≤ 2000) = !true,
            decide ((↑(List.map (row1 IntKind.i8) n.w).length : Int) ≤ 2000) = !true,
            decide ((↑(List.map (row1 IntKind.i8) n.w).length : Int) ≤ 2000) = false]) (by kernel_rfl) ?_
        exact ⟨(by with_reducible assumption),
                    (by with_reducible assumption),
                    (by with_reducible assumption),
                    (by with_reducible assumption),
                    (by with_reducible assumption),
                    (by (refine decide_eq_false ?_; omega)),
                    (by (refine decide_eq_false ?_; omega)),
                    (by (refine decide_eq_false ?_; omega)),
                    (by (refine decide_eq_false ?_; omega)),
                    (by with_reducible assumption),
                    trivial⟩
      exact hz.weak (WeakL.refl _) (Weak.bool (show ((false) : Bool) = (decide (T.d.length ≤ 1024) && decide (n.w.length ≤ 2000) &&
  decide (n.b.length ≤ 200)) from (by (simp at *; omega))))
  · have gc0 : ¬(↑(List.map (row1 IntKind.i8) T.d).length : Int) ≤ 1024 := of_decide_eq_false hc0
    have hz : VC Try.prog 19 ([ten .i8 T, nod n]) (AV.lit (Value.bool false)) := by
      refine VC.run (fn := Try.f19) Try.func19 (W := [.r [] [], .r [] [PI.br false,
 PI.br false,
 PI.br false,
 PI.br false,
 PI.br false,
 PI.br false,
 PI.br false,
 PI.br false,
 PI.br false,
 PI.br false]])
        (ob := [decide ((↑(List.map (row1 IntKind.i8) T.d).length : Int) ≤ 1024) = !true,
          decide ((↑(List.map (row1 IntKind.i8) T.d).length : Int) ≤ 1024) = !true,
          decide ((↑(List.map (row1 IntKind.i8) T.d).length : Int) ≤ 1024) = !true,
          decide ((↑(List.map (row1 IntKind.i8) T.d).length : Int) ≤ 1024) = !true,
          decide ((↑(List.map (row1 IntKind.i8) T.d).length : Int) ≤ 1024) = false,
          false = !true,
          false = !true,
          false = !true,
          false = !true,
          false = false]) (by kernel_rfl) ?_
      exact ⟨(by (refine decide_eq_false ?_; omega)),
                (by (refine decide_eq_false ?_; omega)),
                (by (refine decide_eq_false ?_; omega)),
                (by (refine decide_eq_false ?_; omega)),
                (by with_reducible assumption),
                (by (simp; done)),
                (by (simp; done)),
                (by (simp; done)),
                (by (simp; done)),
                (by with_reducible rfl),
                trivial⟩
    exact hz.weak (WeakL.refl _) (Weak.bool (show ((false) : Bool) = (decide (T.d.length ≤ 1024) && decide (n.w.length ≤ 2000) &&
  decide (n.b.length ≤ 200)) from (by (simp at *; omega))))

noncomputable def same32_l_I (l : List Int) (k : Nat) : VS := stt 26 [(0, ints .i32 l), (1, ints .i32 l), (5, i64 k)] []
noncomputable def same32_l_Z (l : List Int) : VS := same32_l_I l (l.length)
set_option maxRecDepth 100000 in
set_option maxHeartbeats 2000000 in
theorem same32_l_s (l : List Int) (hl : l.length ≤ 1000000) (k : Nat) (hk : k < l.length) : VT Try.prog (fnC Try.f69 [1, 1, 0, 1, 0, 0]) (same32_l_I l k) .normal (same32_l_I l (k + 1)) := by
  refine VT.run (W := [.r [] [], .br true, .r [] [PI.row [AV.lit (Value.int IntKind.i32 (l.getD k 0))],
 PI.row [AV.lit (Value.int IntKind.i32 (l.getD k 0))]], .br false, .r [] [PI.n ((↑k : Int) + 1)]]) (G := [GI.any [11, 12, 13, 14, 15, 16, 17, 18, 19, 20, 21, 22, 23, 24, 25],
  GI.weak 5 (AV.lit (Value.int IntKind.i64 (↑(k + 1) : Int))), GI.sort])
    (ob := [decide ((↑k : Int) < (↑(List.map (row1 IntKind.i32) l).length : Int)) = true,
        0 ≤ (↑k : Int),
        (List.map (row1 IntKind.i32) l)[(↑k : Int).toNat]? = some [AV.lit (Value.int IntKind.i32 (l.getD k 0))],
        0 ≤ (↑k : Int),
        (List.map (row1 IntKind.i32) l)[(↑k : Int).toNat]? = some [AV.lit (Value.int IntKind.i32 (l.getD k 0))],
        (l.getD k 0 != l.getD k 0) = false,
        IntKind.i64.wrap ((↑k : Int) + 1) = (↑k : Int) + 1,
        Weak (AV.lit (Value.int IntKind.i64 ((↑k : Int) + 1))) (AV.lit (Value.int IntKind.i64 (↑(k + 1) : Int)))]) (by kernel_rfl) ?_
  exact ⟨(by (simp; omega)),
          (by omega),
          (map_at (row1 IntKind.i32) (0) (l := l) (i := k) (by with_reducible assumption)),
          (by omega),
          (map_at (row1 IntKind.i32) (0) (l := l) (i := k) (by with_reducible assumption)),
          (by (simp; done)),
          (by exact IntWalk.i64_in _ (by omega)),
          (Weak.int (show (((↑k : Int) + 1) : Int) = ((↑(k + 1) : Int)) from (by omega))),
          trivial⟩
set_option maxRecDepth 100000 in
set_option maxHeartbeats 2000000 in
theorem same32_l_e (l : List Int) (hl : l.length ≤ 1000000) : VT Try.prog (fnC Try.f69 [1, 1, 0, 1, 0, 0]) (same32_l_I l (l.length)) (.exit 0) (same32_l_Z l) := by
  refine VT.run (W := [.r [] [], .br false]) (G := [GI.any [11, 12, 13, 14], GI.sort])
    (ob := [decide ((↑l.length : Int) < (↑(List.map (row1 IntKind.i32) l).length : Int)) = false]) (by kernel_rfl) ?_
  exact ⟨(by (simp; done)),
          trivial⟩
theorem same32_l (l : List Int) (hl : l.length ≤ 1000000) : VT Try.prog (fnC Try.f69 [1, 1, 0, 1, 0]) (same32_l_I l 0) (.exit 0) (same32_l_Z l) :=
  VT.loop (fun k => same32_l_I l k) (l.length) (fun k hk => same32_l_s l hl k hk) (same32_l_e l hl) (by intro h; cases h)

set_option maxRecDepth 100000 in
set_option maxHeartbeats 2000000 in
theorem same32_v (l : List Int) (hl : l.length ≤ 1000000) : VC Try.prog 69 ([ints .i32 l, ints .i32 l]) (bv true) := by
  have hz : VC Try.prog 69 ([ints .i32 l, ints .i32 l]) (AV.lit (Value.bool true)) := by
    refine VC.run (fn := Try.f69) Try.func69 (W := [.r [] [], .r [] [], .br false, .r [] [], .code [GI.any [4, 6, 7, 8, 9, 10],
  GI.weak 5 (AV.lit (Value.int IntKind.i64 (↑0 : Int))),
  GI.sort] (Exit.exit
  0) (VS.mk
  [AV.sl 1 (List.map (row1 IntKind.i32) l), AV.sl 1 (List.map (row1 IntKind.i32) l), AV.any, AV.any, AV.any,
    AV.lit (Value.int IntKind.i64 (↑l.length : Int)), AV.any, AV.any, AV.any, AV.any, AV.any, AV.any, AV.any, AV.any,
    AV.any, AV.any, AV.any, AV.any, AV.any, AV.any, AV.any, AV.any, AV.any, AV.any, AV.any, AV.any]
  []), .r [] []])
      (ob := [((↑(List.map (row1 IntKind.i32) l).length : Int) != (↑(List.map (row1 IntKind.i32) l).length : Int)) = false,
        Weak (AV.lit (Value.int IntKind.i64 0)) (AV.lit (Value.int IntKind.i64 (↑0 : Int))),
        VT Try.prog (fnC Try.f69 [1, 1, 0, 1, 0])
  (VS.mk
        [AV.sl 1 (List.map (row1 IntKind.i32) l), AV.sl 1 (List.map (row1 IntKind.i32) l), AV.any, AV.any, AV.any,
          AV.lit (Value.int IntKind.i64 (↑0 : Int)), AV.any, AV.any, AV.any, AV.any, AV.any, AV.any, AV.any, AV.any, AV.any,
          AV.any, AV.any, AV.any, AV.any, AV.any, AV.any, AV.any, AV.any, AV.any, AV.any, AV.any]
        [])
  (Exit.exit 0)
  (VS.mk
        [AV.sl 1 (List.map (row1 IntKind.i32) l), AV.sl 1 (List.map (row1 IntKind.i32) l), AV.any, AV.any, AV.any,
          AV.lit (Value.int IntKind.i64 (↑l.length : Int)), AV.any, AV.any, AV.any, AV.any, AV.any, AV.any, AV.any, AV.any,
          AV.any, AV.any, AV.any, AV.any, AV.any, AV.any, AV.any, AV.any, AV.any, AV.any, AV.any, AV.any]
        [])]) (by kernel_rfl) ?_
    exact ⟨(by (simp; done)),
            (Weak.int (show ((0) : Int) = ((↑0 : Int)) from (by omega))),
            (@same32_l (l) (by with_reducible assumption)),
            trivial⟩
  exact hz

set_option maxRecDepth 100000 in
set_option maxHeartbeats 2000000 in
theorem same10_v (T : Ten) (hl : T.d.length ≤ 1000000) : VC Try.prog 25 ([ten .i32 T, ten .i32 T]) (bv true) := by
  rcases Bool.eq_false_or_eq_true (eqNums [(IntKind.i64, T.h, T.h), (IntKind.i64, T.x, T.x), (IntKind.i64, T.c, T.c)]) with hc0 | hc0
  · have gc0 : T.h = T.h ∧ T.x = T.x ∧ T.c = T.c := by first | exact hc0 | exact of_decide_eq_true hc0 | exact of_decide_eq_false hc0 | simpa [eqNums] using hc0 | (simp [eqNums] at hc0 ⊢; first | done | assumption | omega)
    have hz : VC Try.prog 25 ([ten .i32 T, ten .i32 T]) (AV.lit (Value.bool true)) := by
      refine VC.run (fn := Try.f25) Try.func25 (W := [.r [] [], .r [] [PI.v
   (Value.bool (eqNums [(IntKind.i64, T.h, T.h), (IntKind.i64, T.x, T.x), (IntKind.i64, T.c, T.c)])),
 PI.br true,
 PI.br true,
 PI.br true,
 PI.br true,
 PI.br true,
 PI.callr (bv true),
 PI.br true]])
        (ob := [BinTo Try.prog BinOp.eql 23 (Operand.tmp 6) (Operand.tmp 8)
  (Value.agg #[Value.int IntKind.i64 T.h, Value.int IntKind.i64 T.x, Value.int IntKind.i64 T.c])
  (Value.agg #[Value.int IntKind.i64 T.h, Value.int IntKind.i64 T.x, Value.int IntKind.i64 T.c])
  (Value.bool (eqNums [(IntKind.i64, T.h, T.h), (IntKind.i64, T.x, T.x), (IntKind.i64, T.c, T.c)])),
          eqNums [(IntKind.i64, T.h, T.h), (IntKind.i64, T.x, T.x), (IntKind.i64, T.c, T.c)] = true,
          eqNums [(IntKind.i64, T.h, T.h), (IntKind.i64, T.x, T.x), (IntKind.i64, T.c, T.c)] = true,
          eqNums [(IntKind.i64, T.h, T.h), (IntKind.i64, T.x, T.x), (IntKind.i64, T.c, T.c)] = true,
          eqNums [(IntKind.i64, T.h, T.h), (IntKind.i64, T.x, T.x), (IntKind.i64, T.c, T.c)] = true,
          eqNums [(IntKind.i64, T.h, T.h), (IntKind.i64, T.x, T.x), (IntKind.i64, T.c, T.c)] = true,
          VC Try.prog 69 [AV.sl 1 (List.map (row1 IntKind.i32) T.d), AV.sl 1 (List.map (row1 IntKind.i32) T.d)]
  (AV.lit (Value.bool true)),
          eqNums [(IntKind.i64, T.h, T.h), (IntKind.i64, T.x, T.x), (IntKind.i64, T.c, T.c)] = true]) (by kernel_rfl) ?_
      exact ⟨((bin_nums (l := [(IntKind.i64, T.h, T.h), (IntKind.i64, T.x, T.x),
        (IntKind.i64, T.c, T.c)]) (by kernel_rfl) (by kernel_rfl) (by kernel_rfl) (by kernel_rfl) _ _).1),
                (by with_reducible assumption),
                (by with_reducible assumption),
                (by with_reducible assumption),
                (by with_reducible assumption),
                (by with_reducible assumption),
                (@same32_v (T.d) (by with_reducible assumption)),
                (by with_reducible assumption),
                trivial⟩
    exact hz
  · have gc0 : ¬(T.h = T.h ∧ T.x = T.x ∧ T.c = T.c) := by first | exact hc0 | exact of_decide_eq_true hc0 | exact of_decide_eq_false hc0 | simpa [eqNums] using hc0 | (simp [eqNums] at hc0 ⊢; first | done | assumption | omega)
    have hz : VC Try.prog 25 ([ten .i32 T, ten .i32 T]) (AV.lit (Value.bool false)) := by
      refine VC.run (fn := Try.f25) Try.func25 (W := [.r [] [], .r [] [PI.v
   (Value.bool (eqNums [(IntKind.i64, T.h, T.h), (IntKind.i64, T.x, T.x), (IntKind.i64, T.c, T.c)])),
 PI.br false,
 PI.br false,
 PI.br false,
 PI.br false,
 PI.br false,
 PI.br false]])
        (ob := [BinTo Try.prog BinOp.eql 23 (Operand.tmp 6) (Operand.tmp 8)
  (Value.agg #[Value.int IntKind.i64 T.h, Value.int IntKind.i64 T.x, Value.int IntKind.i64 T.c])
  (Value.agg #[Value.int IntKind.i64 T.h, Value.int IntKind.i64 T.x, Value.int IntKind.i64 T.c])
  (Value.bool (eqNums [(IntKind.i64, T.h, T.h), (IntKind.i64, T.x, T.x), (IntKind.i64, T.c, T.c)])),
          eqNums [(IntKind.i64, T.h, T.h), (IntKind.i64, T.x, T.x), (IntKind.i64, T.c, T.c)] = !true,
          eqNums [(IntKind.i64, T.h, T.h), (IntKind.i64, T.x, T.x), (IntKind.i64, T.c, T.c)] = !true,
          eqNums [(IntKind.i64, T.h, T.h), (IntKind.i64, T.x, T.x), (IntKind.i64, T.c, T.c)] = !true,
          eqNums [(IntKind.i64, T.h, T.h), (IntKind.i64, T.x, T.x), (IntKind.i64, T.c, T.c)] = !true,
          eqNums [(IntKind.i64, T.h, T.h), (IntKind.i64, T.x, T.x), (IntKind.i64, T.c, T.c)] = !true,
          eqNums [(IntKind.i64, T.h, T.h), (IntKind.i64, T.x, T.x), (IntKind.i64, T.c, T.c)] = false]) (by kernel_rfl) ?_
      exact ⟨((bin_nums (l := [(IntKind.i64, T.h, T.h), (IntKind.i64, T.x, T.x),
        (IntKind.i64, T.c, T.c)]) (by kernel_rfl) (by kernel_rfl) (by kernel_rfl) (by kernel_rfl) _ _).1),
                (by omega),
                (by omega),
                (by omega),
                (by omega),
                (by omega),
                (by with_reducible assumption),
                trivial⟩
    exact hz.weak (WeakL.refl _) (Weak.bool (show ((false) : Bool) = (true) from (by omega)))
abbrev kT10 : Ten := ⟨1, 1, 1, [3]⟩
abbrev kN10 : Nod := ⟨0, 0, 0, 1, 1, 0, 1, 1, 0, [2], [10], 0, 0, 0, 0, 0, 0, 0, 0⟩
theorem known10_c : VC Try.prog 21 [.agg [i64 1, i64 1, i64 1, .sl 1 [[i8 3]]], .agg [i64 0, i64 0, i64 0, i64 1, i64 1, i64 0, i64 1, i8 1, i8 0, .sl 1 [[i8 2]], .sl 1 [[i32 10]], i32 0, i64 0, i8 0, i32 0, i64 0, i8 0, i8 0, i8 0]] (.tup [.agg [i64 1, i64 1, i64 1, .sl 1 [[i32 14]]], i64 0]) :=
  VC.to (cvOf_v kT10 kN10 (Ten.okB_ok rfl) (Nod.okB_ok rfl)) (by kernel_rfl)
set_option maxRecDepth 100000 in
set_option maxHeartbeats 2000000 in
theorem known10_v   : VC Try.prog 20 ([]) (bv true) := by
  have hz : VC Try.prog 20 ([]) (AV.lit (Value.bool true)) := by
    refine VC.run (fn := Try.f20) Try.func20 (W := [.r [] [], .r [] [PI.frz 0,
 PI.frz 0,
 PI.frz 0,
 PI.callr
   (AV.tup
     [AV.agg [i64 1, i64 1, i64 1, AV.sl 1 [[i32 14]]],
       i64
         0])], .r [] [PI.br true,
 PI.br true,
 PI.br true,
 PI.br true,
 PI.br true,
 PI.br true,
 PI.br true,
 PI.br true,
 PI.row [AV.lit (Value.int IntKind.i32 14)],
 PI.br true,
 PI.br true,
 PI.br true]])
      (ob := [VC Try.prog 21
  [AV.agg
          [AV.lit (Value.int IntKind.i64 1), AV.lit (Value.int IntKind.i64 1), AV.lit (Value.int IntKind.i64 1),
            AV.sl 1 [[AV.lit (Value.int IntKind.i8 3)]]],
        AV.agg
          [AV.lit (Value.int IntKind.i64 0), AV.lit (Value.int IntKind.i64 0), AV.lit (Value.int IntKind.i64 0),
            AV.lit (Value.int IntKind.i64 1), AV.lit (Value.int IntKind.i64 1), AV.lit (Value.int IntKind.i64 0),
            AV.lit (Value.int IntKind.i64 1), AV.lit (Value.int IntKind.i8 1), AV.lit (Value.int IntKind.i8 0),
            AV.sl 1 [[AV.lit (Value.int IntKind.i8 2)]], AV.sl 1 [[AV.lit (Value.int IntKind.i32 10)]],
            AV.lit (Value.int IntKind.i32 0), AV.lit (Value.int IntKind.i64 0), AV.lit (Value.int IntKind.i8 0),
            AV.lit (Value.int IntKind.i32 0), AV.lit (Value.int IntKind.i64 0), AV.lit (Value.int IntKind.i8 0),
            AV.lit (Value.int IntKind.i8 0), AV.lit (Value.int IntKind.i8 0)]]
  (AV.tup
        [AV.agg
            [AV.lit (Value.int IntKind.i64 1), AV.lit (Value.int IntKind.i64 1), AV.lit (Value.int IntKind.i64 1),
              AV.sl 1 [[AV.lit (Value.int IntKind.i32 14)]]],
          AV.lit (Value.int IntKind.i64 0)]),
        true = true,
        true = true,
        true = true,
        true = true,
        true = true,
        true = true,
        true = true,
        true = true,
        (0 : Int) ≤ (0 : Int),
        [[AV.lit (Value.int IntKind.i32 (14 : Int))]][Int.toNat (0 : Int)]? =
  some [AV.lit (Value.int IntKind.i32 (14 : Int))],
        true = true,
        true = true,
        true = true]) (by kernel_rfl) ?_
    exact ⟨(@known10_c),
            (by with_reducible rfl),
            (by with_reducible rfl),
            (by with_reducible rfl),
            (by with_reducible rfl),
            (by with_reducible rfl),
            (by with_reducible rfl),
            (by with_reducible rfl),
            (by with_reducible rfl),
            (by omega),
            rfl,
            (by with_reducible rfl),
            (by with_reducible rfl),
            (by with_reducible rfl),
            trivial⟩
  exact hz
theorem convOf_len (T : Ten) (n : Nod) (ok : T.Ok) (okn : n.Ok) : (convOf T n).1.d.length ≤ 1024 := by
  unfold convOf
  split
  · simp
  · split
    · simp
    · rename_i h1 h2
      have nn := CvOk.n (T := T) (n := n) ⟨ok, okn, by simpa using h1, by simpa using h2⟩
      rw [outL_len]
      have h3 := nn.el
      have h4 := nn.he
      have h5 := nn.xe
      have h6 := nn.o1
      have : ((((convE ⟨T.h, T.x, T.c⟩ n).1.h * (convE ⟨T.h, T.x, T.c⟩ n).1.x).toNat * n.no.toNat : Nat) : Int) = (convE ⟨T.h, T.x, T.c⟩ n).1.h * (convE ⟨T.h, T.x, T.c⟩ n).1.x * n.no := by
        rw [Int.natCast_mul, Int.toNat_of_nonneg (Int.mul_nonneg (by omega) (by omega)), Int.toNat_of_nonneg (by omega)]
      omega
set_option maxRecDepth 100000 in
set_option maxHeartbeats 2000000 in
theorem convSums_v (T : Ten) (n : Nod) (ok : T.Ok) (okn : n.Ok) : VC Try.prog 4 ([ten .i8 T, nod n]) (bv true) := by
  have h1 := convOf_len T n ok okn
  rcases Bool.eq_false_or_eq_true (!(decide (T.d.length ≤ 1024) && decide (n.w.length ≤ 2000) && decide (n.b.length ≤ 200))) with hc0 | hc0
  · have gc0 : (¬T.d.length ≤ 1024 ∨ ¬n.w.length ≤ 2000) ∨ ¬n.b.length ≤ 200 := by first | exact hc0 | exact of_decide_eq_true hc0 | exact of_decide_eq_false hc0 | simpa [eqNums] using hc0 | (simp [eqNums] at hc0 ⊢; first | done | assumption | omega)
    have hz : VC Try.prog 4 ([ten .i8 T, nod n]) (AV.lit (Value.bool true)) := by
      refine VC.run (fn := Try.f4) Try.func4 (W := [.r [] [], .r [] [PI.callr
   (bv
     (decide (T.d.length ≤ 1024) && decide (n.w.length ≤ 2000) &&
       decide (n.b.length ≤ 200)))], .br true, .r [] [PI.callr (bv true)]])
        (ob := [VC Try.prog 19
  [AV.agg
            [AV.lit (Value.int IntKind.i64 T.h), AV.lit (Value.int IntKind.i64 T.x), AV.lit (Value.int IntKind.i64 T.c),
              AV.sl 1 (List.map (row1 IntKind.i8) T.d)],
          AV.agg
            [AV.lit (Value.int IntKind.i64 n.kd), AV.lit (Value.int IntKind.i64 n.na), AV.lit (Value.int IntKind.i64 n.nb),
              AV.lit (Value.int IntKind.i64 n.nk), AV.lit (Value.int IntKind.i64 n.ns), AV.lit (Value.int IntKind.i64 n.np),
              AV.lit (Value.int IntKind.i64 n.no), AV.lit (Value.int IntKind.i8 n.za), AV.lit (Value.int IntKind.i8 n.zb),
              AV.sl 1 (List.map (row1 IntKind.i8) n.w), AV.sl 1 (List.map (row1 IntKind.i32) n.b),
              AV.lit (Value.int IntKind.i32 n.qm), AV.lit (Value.int IntKind.i64 n.qs), AV.lit (Value.int IntKind.i8 n.qz),
              AV.lit (Value.int IntKind.i32 n.rm), AV.lit (Value.int IntKind.i64 n.rs), AV.lit (Value.int IntKind.i8 n.rz),
              AV.lit (Value.int IntKind.i8 n.lo), AV.lit (Value.int IntKind.i8 n.hi)]]
  (AV.lit (Value.bool (decide (T.d.length ≤ 1024) && decide (n.w.length ≤ 2000) && decide (n.b.length ≤ 200)))),
          (!(decide (T.d.length ≤ 1024) && decide (n.w.length ≤ 2000) && decide (n.b.length ≤ 200))) = true,
          VC Try.prog 20 [] (AV.lit (Value.bool true))]) (by kernel_rfl) ?_
      exact ⟨(@few10_v (T) (n)),
                (by with_reducible assumption),
                (@known10_v),
                trivial⟩
    exact hz
  · have gc0 : (T.d.length ≤ 1024 ∧ n.w.length ≤ 2000) ∧ n.b.length ≤ 200 := by first | exact hc0 | exact of_decide_eq_true hc0 | exact of_decide_eq_false hc0 | simpa [eqNums] using hc0 | (simp [eqNums] at hc0 ⊢; first | done | assumption | omega)
    rcases Bool.eq_false_or_eq_true (eqNums
  [(IntKind.i64, (convE (Shp.mk T.h T.x T.c) n).fst.h, (convE (Shp.mk T.h T.x T.c) n).fst.h),
    (IntKind.i64, (convE (Shp.mk T.h T.x T.c) n).fst.x, (convE (Shp.mk T.h T.x T.c) n).fst.x),
    (IntKind.i64, (convE (Shp.mk T.h T.x T.c) n).fst.c, (convE (Shp.mk T.h T.x T.c) n).fst.c)]) with hc1 | hc1
    · have gc1 : (convE (Shp.mk T.h T.x T.c) n).fst.h = (convE (Shp.mk T.h T.x T.c) n).fst.h ∧
  (convE (Shp.mk T.h T.x T.c) n).fst.x = (convE (Shp.mk T.h T.x T.c) n).fst.x ∧
    (convE (Shp.mk T.h T.x T.c) n).fst.c = (convE (Shp.mk T.h T.x T.c) n).fst.c := by first | exact hc1 | exact of_decide_eq_true hc1 | exact of_decide_eq_false hc1 | simpa [eqNums] using hc1 | (simp [eqNums] at hc1 ⊢; first | done | assumption | omega)
      have hz : VC Try.prog 4 ([ten .i8 T, nod n]) (AV.lit (Value.bool true)) := by
        refine VC.run (fn := Try.f4) Try.func4 (W := [.r [] [], .r [] [PI.callr
   (bv
     (decide (T.d.length ≤ 1024) && decide (n.w.length ≤ 2000) &&
       decide
         (n.b.length ≤
           200)))], .br false, .r [] [PI.callr
   (AV.tup
     [ten IntKind.i32 (convOf T n).fst,
       i64
         (convOf T
             n).snd])], .r [] [PI.callr
   (AV.tup
     [ten IntKind.i32 (convOf T n).fst,
       i64
         (convOf T
             n).snd])], .r [] [PI.callr
   (AV.tup
     [shp (convE (Shp.mk T.h T.x T.c) n).fst,
       i64
         (convE (Shp.mk T.h T.x T.c)
             n).snd])], .r [] [PI.callr
   (AV.tup
     [shp (convE (Shp.mk T.h T.x T.c) n).fst,
       i64
         (convE (Shp.mk T.h T.x T.c)
             n).snd])], .r [] [PI.br true,
 PI.br true,
 PI.br true,
 PI.callr (bv true),
 PI.br true,
 PI.br true,
 PI.br true,
 PI.br true,
 PI.v
   (Value.bool
     (eqNums
       [(IntKind.i64, (convE (Shp.mk T.h T.x T.c) n).fst.h, (convE (Shp.mk T.h T.x T.c) n).fst.h),
         (IntKind.i64, (convE (Shp.mk T.h T.x T.c) n).fst.x, (convE (Shp.mk T.h T.x T.c) n).fst.x),
         (IntKind.i64, (convE (Shp.mk T.h T.x T.c) n).fst.c, (convE (Shp.mk T.h T.x T.c) n).fst.c)])),
 PI.br true,
 PI.br true,
 PI.br true,
 PI.br true,
 PI.br true,
 PI.br true,
 PI.callr (bv true),
 PI.br true]])
          (ob := [VC Try.prog 19
  [AV.agg
              [AV.lit (Value.int IntKind.i64 T.h), AV.lit (Value.int IntKind.i64 T.x), AV.lit (Value.int IntKind.i64 T.c),
                AV.sl 1 (List.map (row1 IntKind.i8) T.d)],
            AV.agg
              [AV.lit (Value.int IntKind.i64 n.kd), AV.lit (Value.int IntKind.i64 n.na), AV.lit (Value.int IntKind.i64 n.nb),
                AV.lit (Value.int IntKind.i64 n.nk), AV.lit (Value.int IntKind.i64 n.ns), AV.lit (Value.int IntKind.i64 n.np),
                AV.lit (Value.int IntKind.i64 n.no), AV.lit (Value.int IntKind.i8 n.za), AV.lit (Value.int IntKind.i8 n.zb),
                AV.sl 1 (List.map (row1 IntKind.i8) n.w), AV.sl 1 (List.map (row1 IntKind.i32) n.b),
                AV.lit (Value.int IntKind.i32 n.qm), AV.lit (Value.int IntKind.i64 n.qs), AV.lit (Value.int IntKind.i8 n.qz),
                AV.lit (Value.int IntKind.i32 n.rm), AV.lit (Value.int IntKind.i64 n.rs), AV.lit (Value.int IntKind.i8 n.rz),
                AV.lit (Value.int IntKind.i8 n.lo), AV.lit (Value.int IntKind.i8 n.hi)]]
  (AV.lit (Value.bool (decide (T.d.length ≤ 1024) && decide (n.w.length ≤ 2000) && decide (n.b.length ≤ 200)))),
            (!(decide (T.d.length ≤ 1024) && decide (n.w.length ≤ 2000) && decide (n.b.length ≤ 200))) = false,
            VC Try.prog 21
  [AV.agg
              [AV.lit (Value.int IntKind.i64 T.h), AV.lit (Value.int IntKind.i64 T.x), AV.lit (Value.int IntKind.i64 T.c),
                AV.sl 1 (List.map (row1 IntKind.i8) T.d)],
            AV.agg
              [AV.lit (Value.int IntKind.i64 n.kd), AV.lit (Value.int IntKind.i64 n.na), AV.lit (Value.int IntKind.i64 n.nb),
                AV.lit (Value.int IntKind.i64 n.nk), AV.lit (Value.int IntKind.i64 n.ns), AV.lit (Value.int IntKind.i64 n.np),
                AV.lit (Value.int IntKind.i64 n.no), AV.lit (Value.int IntKind.i8 n.za), AV.lit (Value.int IntKind.i8 n.zb),
                AV.sl 1 (List.map (row1 IntKind.i8) n.w), AV.sl 1 (List.map (row1 IntKind.i32) n.b),
                AV.lit (Value.int IntKind.i32 n.qm), AV.lit (Value.int IntKind.i64 n.qs), AV.lit (Value.int IntKind.i8 n.qz),
                AV.lit (Value.int IntKind.i32 n.rm), AV.lit (Value.int IntKind.i64 n.rs), AV.lit (Value.int IntKind.i8 n.rz),
                AV.lit (Value.int IntKind.i8 n.lo), AV.lit (Value.int IntKind.i8 n.hi)]]
  (AV.tup
            [AV.agg
                [AV.lit (Value.int IntKind.i64 (convOf T n).fst.h), AV.lit (Value.int IntKind.i64 (convOf T n).fst.x),
                  AV.lit (Value.int IntKind.i64 (convOf T n).fst.c), AV.sl 1 (List.map (row1 IntKind.i32) (convOf T n).fst.d)],
              AV.lit (Value.int IntKind.i64 (convOf T n).snd)]),
            VC Try.prog 22
  [AV.agg
              [AV.lit (Value.int IntKind.i64 T.h), AV.lit (Value.int IntKind.i64 T.x), AV.lit (Value.int IntKind.i64 T.c),
                AV.sl 1 (List.map (row1 IntKind.i8) T.d)],
            AV.agg
              [AV.lit (Value.int IntKind.i64 n.kd), AV.lit (Value.int IntKind.i64 n.na), AV.lit (Value.int IntKind.i64 n.nb),
                AV.lit (Value.int IntKind.i64 n.nk), AV.lit (Value.int IntKind.i64 n.ns), AV.lit (Value.int IntKind.i64 n.np),
                AV.lit (Value.int IntKind.i64 n.no), AV.lit (Value.int IntKind.i8 n.za), AV.lit (Value.int IntKind.i8 n.zb),
                AV.sl 1 (List.map (row1 IntKind.i8) n.w), AV.sl 1 (List.map (row1 IntKind.i32) n.b),
                AV.lit (Value.int IntKind.i32 n.qm), AV.lit (Value.int IntKind.i64 n.qs), AV.lit (Value.int IntKind.i8 n.qz),
                AV.lit (Value.int IntKind.i32 n.rm), AV.lit (Value.int IntKind.i64 n.rs), AV.lit (Value.int IntKind.i8 n.rz),
                AV.lit (Value.int IntKind.i8 n.lo), AV.lit (Value.int IntKind.i8 n.hi)]]
  (AV.tup
            [AV.agg
                [AV.lit (Value.int IntKind.i64 (convOf T n).fst.h), AV.lit (Value.int IntKind.i64 (convOf T n).fst.x),
                  AV.lit (Value.int IntKind.i64 (convOf T n).fst.c), AV.sl 1 (List.map (row1 IntKind.i32) (convOf T n).fst.d)],
              AV.lit (Value.int IntKind.i64 (convOf T n).snd)]),
            VC Try.prog 23
  [AV.agg [AV.lit (Value.int IntKind.i64 T.h), AV.lit (Value.int IntKind.i64 T.x), AV.lit (Value.int IntKind.i64 T.c)],
            AV.agg
              [AV.lit (Value.int IntKind.i64 n.kd), AV.lit (Value.int IntKind.i64 n.na), AV.lit (Value.int IntKind.i64 n.nb),
                AV.lit (Value.int IntKind.i64 n.nk), AV.lit (Value.int IntKind.i64 n.ns), AV.lit (Value.int IntKind.i64 n.np),
                AV.lit (Value.int IntKind.i64 n.no), AV.lit (Value.int IntKind.i8 n.za), AV.lit (Value.int IntKind.i8 n.zb),
                AV.sl 1 (List.map (row1 IntKind.i8) n.w), AV.sl 1 (List.map (row1 IntKind.i32) n.b),
                AV.lit (Value.int IntKind.i32 n.qm), AV.lit (Value.int IntKind.i64 n.qs), AV.lit (Value.int IntKind.i8 n.qz),
                AV.lit (Value.int IntKind.i32 n.rm), AV.lit (Value.int IntKind.i64 n.rs), AV.lit (Value.int IntKind.i8 n.rz),
                AV.lit (Value.int IntKind.i8 n.lo), AV.lit (Value.int IntKind.i8 n.hi)]]
  (AV.tup
            [AV.agg
                [AV.lit (Value.int IntKind.i64 (convE (Shp.mk T.h T.x T.c) n).fst.h),
                  AV.lit (Value.int IntKind.i64 (convE (Shp.mk T.h T.x T.c) n).fst.x),
                  AV.lit (Value.int IntKind.i64 (convE (Shp.mk T.h T.x T.c) n).fst.c)],
              AV.lit (Value.int IntKind.i64 (convE (Shp.mk T.h T.x T.c) n).snd)]),
            VC Try.prog 24
  [AV.agg [AV.lit (Value.int IntKind.i64 T.h), AV.lit (Value.int IntKind.i64 T.x), AV.lit (Value.int IntKind.i64 T.c)],
            AV.agg
              [AV.lit (Value.int IntKind.i64 n.kd), AV.lit (Value.int IntKind.i64 n.na), AV.lit (Value.int IntKind.i64 n.nb),
                AV.lit (Value.int IntKind.i64 n.nk), AV.lit (Value.int IntKind.i64 n.ns), AV.lit (Value.int IntKind.i64 n.np),
                AV.lit (Value.int IntKind.i64 n.no), AV.lit (Value.int IntKind.i8 n.za), AV.lit (Value.int IntKind.i8 n.zb),
                AV.sl 1 (List.map (row1 IntKind.i8) n.w), AV.sl 1 (List.map (row1 IntKind.i32) n.b),
                AV.lit (Value.int IntKind.i32 n.qm), AV.lit (Value.int IntKind.i64 n.qs), AV.lit (Value.int IntKind.i8 n.qz),
                AV.lit (Value.int IntKind.i32 n.rm), AV.lit (Value.int IntKind.i64 n.rs), AV.lit (Value.int IntKind.i8 n.rz),
                AV.lit (Value.int IntKind.i8 n.lo), AV.lit (Value.int IntKind.i8 n.hi)]]
  (AV.tup
            [AV.agg
                [AV.lit (Value.int IntKind.i64 (convE (Shp.mk T.h T.x T.c) n).fst.h),
                  AV.lit (Value.int IntKind.i64 (convE (Shp.mk T.h T.x T.c) n).fst.x),
                  AV.lit (Value.int IntKind.i64 (convE (Shp.mk T.h T.x T.c) n).fst.c)],
              AV.lit (Value.int IntKind.i64 (convE (Shp.mk T.h T.x T.c) n).snd)]),
            ((convOf T n).snd == (convOf T n).snd) = true,
            ((convOf T n).snd == (convOf T n).snd) = true,
            ((convOf T n).snd == (convOf T n).snd) = true,
            VC Try.prog 25
  [AV.agg
              [AV.lit (Value.int IntKind.i64 (convOf T n).fst.h), AV.lit (Value.int IntKind.i64 (convOf T n).fst.x),
                AV.lit (Value.int IntKind.i64 (convOf T n).fst.c), AV.sl 1 (List.map (row1 IntKind.i32) (convOf T n).fst.d)],
            AV.agg
              [AV.lit (Value.int IntKind.i64 (convOf T n).fst.h), AV.lit (Value.int IntKind.i64 (convOf T n).fst.x),
                AV.lit (Value.int IntKind.i64 (convOf T n).fst.c), AV.sl 1 (List.map (row1 IntKind.i32) (convOf T n).fst.d)]]
  (AV.lit (Value.bool true)),
            ((convOf T n).snd == (convOf T n).snd) = true,
            true = true,
            true = true,
            true = true,
            BinTo Try.prog BinOp.eql 23 (Operand.tmp 53) (Operand.tmp 54)
  (Value.agg
            #[Value.int IntKind.i64 (convE (Shp.mk T.h T.x T.c) n).fst.h,
              Value.int IntKind.i64 (convE (Shp.mk T.h T.x T.c) n).fst.x,
              Value.int IntKind.i64 (convE (Shp.mk T.h T.x T.c) n).fst.c])
  (Value.agg
            #[Value.int IntKind.i64 (convE (Shp.mk T.h T.x T.c) n).fst.h,
              Value.int IntKind.i64 (convE (Shp.mk T.h T.x T.c) n).fst.x,
              Value.int IntKind.i64 (convE (Shp.mk T.h T.x T.c) n).fst.c])
  (Value.bool
            (eqNums
              [(IntKind.i64, (convE (Shp.mk T.h T.x T.c) n).fst.h, (convE (Shp.mk T.h T.x T.c) n).fst.h),
                (IntKind.i64, (convE (Shp.mk T.h T.x T.c) n).fst.x, (convE (Shp.mk T.h T.x T.c) n).fst.x),
                (IntKind.i64, (convE (Shp.mk T.h T.x T.c) n).fst.c, (convE (Shp.mk T.h T.x T.c) n).fst.c)])),
            true = true,
            eqNums
            [(IntKind.i64, (convE (Shp.mk T.h T.x T.c) n).fst.h, (convE (Shp.mk T.h T.x T.c) n).fst.h),
              (IntKind.i64, (convE (Shp.mk T.h T.x T.c) n).fst.x, (convE (Shp.mk T.h T.x T.c) n).fst.x),
              (IntKind.i64, (convE (Shp.mk T.h T.x T.c) n).fst.c, (convE (Shp.mk T.h T.x T.c) n).fst.c)] =
  true,
            eqNums
            [(IntKind.i64, (convE (Shp.mk T.h T.x T.c) n).fst.h, (convE (Shp.mk T.h T.x T.c) n).fst.h),
              (IntKind.i64, (convE (Shp.mk T.h T.x T.c) n).fst.x, (convE (Shp.mk T.h T.x T.c) n).fst.x),
              (IntKind.i64, (convE (Shp.mk T.h T.x T.c) n).fst.c, (convE (Shp.mk T.h T.x T.c) n).fst.c)] =
  true,
            eqNums
            [(IntKind.i64, (convE (Shp.mk T.h T.x T.c) n).fst.h, (convE (Shp.mk T.h T.x T.c) n).fst.h),
              (IntKind.i64, (convE (Shp.mk T.h T.x T.c) n).fst.x, (convE (Shp.mk T.h T.x T.c) n).fst.x),
              (IntKind.i64, (convE (Shp.mk T.h T.x T.c) n).fst.c, (convE (Shp.mk T.h T.x T.c) n).fst.c)] =
  true,
            eqNums
            [(IntKind.i64, (convE (Shp.mk T.h T.x T.c) n).fst.h, (convE (Shp.mk T.h T.x T.c) n).fst.h),
              (IntKind.i64, (convE (Shp.mk T.h T.x T.c) n).fst.x, (convE (Shp.mk T.h T.x T.c) n).fst.x),
              (IntKind.i64, (convE (Shp.mk T.h T.x T.c) n).fst.c, (convE (Shp.mk T.h T.x T.c) n).fst.c)] =
  true,
            ((convE (Shp.mk T.h T.x T.c) n).snd == (convE (Shp.mk T.h T.x T.c) n).snd) = true,
            VC Try.prog 20 [] (AV.lit (Value.bool true)),
            ((convE (Shp.mk T.h T.x T.c) n).snd == (convE (Shp.mk T.h T.x T.c) n).snd) = true]) (by kernel_rfl) ?_
        exact ⟨(@few10_v (T) (n)),
                    (by with_reducible assumption),
                    (@cvOf_v (T) (n) (by with_reducible assumption) (by with_reducible assumption)),
                    (@rcOf_v (T) (n) (by with_reducible assumption) (by with_reducible assumption)),
                    (@convShape_v (Shp.mk T.h T.x T.c) (n) (by (exact Shp.mk_ok ok.h ok.x ok.c)) (by with_reducible assumption)),
                    (@refConvShape_v (Shp.mk T.h T.x T.c) (n) (by (exact Shp.mk_ok ok.h ok.x ok.c)) (by with_reducible assumption)),
                    (by (refine decide_eq_true ?_; omega)),
                    (by (refine decide_eq_true ?_; omega)),
                    (by (refine decide_eq_true ?_; omega)),
                    (@same10_v ((convOf T n).fst) (by omega)),
                    (by (refine decide_eq_true ?_; omega)),
                    (by with_reducible rfl),
                    (by with_reducible rfl),
                    (by with_reducible rfl),
                    ((bin_nums (l := [(IntKind.i64, (convE (Shp.mk T.h T.x T.c) n).fst.h, (convE (Shp.mk T.h T.x T.c) n).fst.h),
          (IntKind.i64, (convE (Shp.mk T.h T.x T.c) n).fst.x, (convE (Shp.mk T.h T.x T.c) n).fst.x),
          (IntKind.i64, (convE (Shp.mk T.h T.x T.c) n).fst.c,
                    (convE (Shp.mk T.h T.x T.c) n).fst.c)]) (by kernel_rfl) (by kernel_rfl) (by kernel_rfl) (by kernel_rfl) _ _).1),
                    (by with_reducible rfl),
                    (by with_reducible assumption),
                    (by with_reducible assumption),
                    (by with_reducible assumption),
                    (by with_reducible assumption),
                    (by (refine decide_eq_true ?_; omega)),
                    (@known10_v),
                    (by (refine decide_eq_true ?_; omega)),
                    trivial⟩
      exact hz
    · have gc1 : ¬((convE (Shp.mk T.h T.x T.c) n).fst.h = (convE (Shp.mk T.h T.x T.c) n).fst.h ∧
    (convE (Shp.mk T.h T.x T.c) n).fst.x = (convE (Shp.mk T.h T.x T.c) n).fst.x ∧
      (convE (Shp.mk T.h T.x T.c) n).fst.c = (convE (Shp.mk T.h T.x T.c) n).fst.c) := by first | exact hc1 | exact of_decide_eq_true hc1 | exact of_decide_eq_false hc1 | simpa [eqNums] using hc1 | (simp [eqNums] at hc1 ⊢; first | done | assumption | omega)
      have hz : VC Try.prog 4 ([ten .i8 T, nod n]) (AV.lit (Value.bool false)) := by
        refine VC.run (fn := Try.f4) Try.func4 (W := [.r [] [], .r [] [PI.callr
   (bv
     (decide (T.d.length ≤ 1024) && decide (n.w.length ≤ 2000) &&
       decide
         (n.b.length ≤
           200)))], .br false, .r [] [PI.callr
   (AV.tup
     [ten IntKind.i32 (convOf T n).fst,
       i64
         (convOf T
             n).snd])], .r [] [PI.callr
   (AV.tup
     [ten IntKind.i32 (convOf T n).fst,
       i64
         (convOf T
             n).snd])], .r [] [PI.callr
   (AV.tup
     [shp (convE (Shp.mk T.h T.x T.c) n).fst,
       i64
         (convE (Shp.mk T.h T.x T.c)
             n).snd])], .r [] [PI.callr
   (AV.tup
     [shp (convE (Shp.mk T.h T.x T.c) n).fst,
       i64
         (convE (Shp.mk T.h T.x T.c)
             n).snd])], .r [] [PI.br true,
 PI.br true,
 PI.br true,
 PI.callr (bv true),
 PI.br true,
 PI.br true,
 PI.br true,
 PI.br true,
 PI.v
   (Value.bool
     (eqNums
       [(IntKind.i64, (convE (Shp.mk T.h T.x T.c) n).fst.h, (convE (Shp.mk T.h T.x T.c) n).fst.h),
         (IntKind.i64, (convE (Shp.mk T.h T.x T.c) n).fst.x, (convE (Shp.mk T.h T.x T.c) n).fst.x),
         (IntKind.i64, (convE (Shp.mk T.h T.x T.c) n).fst.c, (convE (Shp.mk T.h T.x T.c) n).fst.c)])),
 PI.br true,
 PI.br false,
 PI.br false,
 PI.br false,
 PI.br false,
 PI.br false,
 PI.br false]])
          (ob := [VC Try.prog 19
  [AV.agg
              [AV.lit (Value.int IntKind.i64 T.h), AV.lit (Value.int IntKind.i64 T.x), AV.lit (Value.int IntKind.i64 T.c),
                AV.sl 1 (List.map (row1 IntKind.i8) T.d)],
            AV.agg
              [AV.lit (Value.int IntKind.i64 n.kd), AV.lit (Value.int IntKind.i64 n.na), AV.lit (Value.int IntKind.i64 n.nb),
                AV.lit (Value.int IntKind.i64 n.nk), AV.lit (Value.int IntKind.i64 n.ns), AV.lit (Value.int IntKind.i64 n.np),
                AV.lit (Value.int IntKind.i64 n.no), AV.lit (Value.int IntKind.i8 n.za), AV.lit (Value.int IntKind.i8 n.zb),
                AV.sl 1 (List.map (row1 IntKind.i8) n.w), AV.sl 1 (List.map (row1 IntKind.i32) n.b),
                AV.lit (Value.int IntKind.i32 n.qm), AV.lit (Value.int IntKind.i64 n.qs), AV.lit (Value.int IntKind.i8 n.qz),
                AV.lit (Value.int IntKind.i32 n.rm), AV.lit (Value.int IntKind.i64 n.rs), AV.lit (Value.int IntKind.i8 n.rz),
                AV.lit (Value.int IntKind.i8 n.lo), AV.lit (Value.int IntKind.i8 n.hi)]]
  (AV.lit (Value.bool (decide (T.d.length ≤ 1024) && decide (n.w.length ≤ 2000) && decide (n.b.length ≤ 200)))),
            (!(decide (T.d.length ≤ 1024) && decide (n.w.length ≤ 2000) && decide (n.b.length ≤ 200))) = false,
            VC Try.prog 21
  [AV.agg
              [AV.lit (Value.int IntKind.i64 T.h), AV.lit (Value.int IntKind.i64 T.x), AV.lit (Value.int IntKind.i64 T.c),
                AV.sl 1 (List.map (row1 IntKind.i8) T.d)],
            AV.agg
              [AV.lit (Value.int IntKind.i64 n.kd), AV.lit (Value.int IntKind.i64 n.na), AV.lit (Value.int IntKind.i64 n.nb),
                AV.lit (Value.int IntKind.i64 n.nk), AV.lit (Value.int IntKind.i64 n.ns), AV.lit (Value.int IntKind.i64 n.np),
                AV.lit (Value.int IntKind.i64 n.no), AV.lit (Value.int IntKind.i8 n.za), AV.lit (Value.int IntKind.i8 n.zb),
                AV.sl 1 (List.map (row1 IntKind.i8) n.w), AV.sl 1 (List.map (row1 IntKind.i32) n.b),
                AV.lit (Value.int IntKind.i32 n.qm), AV.lit (Value.int IntKind.i64 n.qs), AV.lit (Value.int IntKind.i8 n.qz),
                AV.lit (Value.int IntKind.i32 n.rm), AV.lit (Value.int IntKind.i64 n.rs), AV.lit (Value.int IntKind.i8 n.rz),
                AV.lit (Value.int IntKind.i8 n.lo), AV.lit (Value.int IntKind.i8 n.hi)]]
  (AV.tup
            [AV.agg
                [AV.lit (Value.int IntKind.i64 (convOf T n).fst.h), AV.lit (Value.int IntKind.i64 (convOf T n).fst.x),
                  AV.lit (Value.int IntKind.i64 (convOf T n).fst.c), AV.sl 1 (List.map (row1 IntKind.i32) (convOf T n).fst.d)],
              AV.lit (Value.int IntKind.i64 (convOf T n).snd)]),
            VC Try.prog 22
  [AV.agg
              [AV.lit (Value.int IntKind.i64 T.h), AV.lit (Value.int IntKind.i64 T.x), AV.lit (Value.int IntKind.i64 T.c),
                AV.sl 1 (List.map (row1 IntKind.i8) T.d)],
            AV.agg
              [AV.lit (Value.int IntKind.i64 n.kd), AV.lit (Value.int IntKind.i64 n.na), AV.lit (Value.int IntKind.i64 n.nb),
                AV.lit (Value.int IntKind.i64 n.nk), AV.lit (Value.int IntKind.i64 n.ns), AV.lit (Value.int IntKind.i64 n.np),
                AV.lit (Value.int IntKind.i64 n.no), AV.lit (Value.int IntKind.i8 n.za), AV.lit (Value.int IntKind.i8 n.zb),
                AV.sl 1 (List.map (row1 IntKind.i8) n.w), AV.sl 1 (List.map (row1 IntKind.i32) n.b),
                AV.lit (Value.int IntKind.i32 n.qm), AV.lit (Value.int IntKind.i64 n.qs), AV.lit (Value.int IntKind.i8 n.qz),
                AV.lit (Value.int IntKind.i32 n.rm), AV.lit (Value.int IntKind.i64 n.rs), AV.lit (Value.int IntKind.i8 n.rz),
                AV.lit (Value.int IntKind.i8 n.lo), AV.lit (Value.int IntKind.i8 n.hi)]]
  (AV.tup
            [AV.agg
                [AV.lit (Value.int IntKind.i64 (convOf T n).fst.h), AV.lit (Value.int IntKind.i64 (convOf T n).fst.x),
                  AV.lit (Value.int IntKind.i64 (convOf T n).fst.c), AV.sl 1 (List.map (row1 IntKind.i32) (convOf T n).fst.d)],
              AV.lit (Value.int IntKind.i64 (convOf T n).snd)]),
            VC Try.prog 23
  [AV.agg [AV.lit (Value.int IntKind.i64 T.h), AV.lit (Value.int IntKind.i64 T.x), AV.lit (Value.int IntKind.i64 T.c)],
            AV.agg
              [AV.lit (Value.int IntKind.i64 n.kd), AV.lit (Value.int IntKind.i64 n.na), AV.lit (Value.int IntKind.i64 n.nb),
                AV.lit (Value.int IntKind.i64 n.nk), AV.lit (Value.int IntKind.i64 n.ns), AV.lit (Value.int IntKind.i64 n.np),
                AV.lit (Value.int IntKind.i64 n.no), AV.lit (Value.int IntKind.i8 n.za), AV.lit (Value.int IntKind.i8 n.zb),
                AV.sl 1 (List.map (row1 IntKind.i8) n.w), AV.sl 1 (List.map (row1 IntKind.i32) n.b),
                AV.lit (Value.int IntKind.i32 n.qm), AV.lit (Value.int IntKind.i64 n.qs), AV.lit (Value.int IntKind.i8 n.qz),
                AV.lit (Value.int IntKind.i32 n.rm), AV.lit (Value.int IntKind.i64 n.rs), AV.lit (Value.int IntKind.i8 n.rz),
                AV.lit (Value.int IntKind.i8 n.lo), AV.lit (Value.int IntKind.i8 n.hi)]]
  (AV.tup
            [AV.agg
                [AV.lit (Value.int IntKind.i64 (convE (Shp.mk T.h T.x T.c) n).fst.h),
                  AV.lit (Value.int IntKind.i64 (convE (Shp.mk T.h T.x T.c) n).fst.x),
                  AV.lit (Value.int IntKind.i64 (convE (Shp.mk T.h T.x T.c) n).fst.c)],
              AV.lit (Value.int IntKind.i64 (convE (Shp.mk T.h T.x T.c) n).snd)]),
            VC Try.prog 24
  [AV.agg [AV.lit (Value.int IntKind.i64 T.h), AV.lit (Value.int IntKind.i64 T.x), AV.lit (Value.int IntKind.i64 T.c)],
            AV.agg
              [AV.lit (Value.int IntKind.i64 n.kd), AV.lit (Value.int IntKind.i64 n.na), AV.lit (Value.int IntKind.i64 n.nb),
                AV.lit (Value.int IntKind.i64 n.nk), AV.lit (Value.int IntKind.i64 n.ns), AV.lit (Value.int IntKind.i64 n.np),
                AV.lit (Value.int IntKind.i64 n.no), AV.lit (Value.int IntKind.i8 n.za), AV.lit (Value.int IntKind.i8 n.zb),
                AV.sl 1 (List.map (row1 IntKind.i8) n.w), AV.sl 1 (List.map (row1 IntKind.i32) n.b),
                AV.lit (Value.int IntKind.i32 n.qm), AV.lit (Value.int IntKind.i64 n.qs), AV.lit (Value.int IntKind.i8 n.qz),
                AV.lit (Value.int IntKind.i32 n.rm), AV.lit (Value.int IntKind.i64 n.rs), AV.lit (Value.int IntKind.i8 n.rz),
                AV.lit (Value.int IntKind.i8 n.lo), AV.lit (Value.int IntKind.i8 n.hi)]]
  (AV.tup
            [AV.agg
                [AV.lit (Value.int IntKind.i64 (convE (Shp.mk T.h T.x T.c) n).fst.h),
                  AV.lit (Value.int IntKind.i64 (convE (Shp.mk T.h T.x T.c) n).fst.x),
                  AV.lit (Value.int IntKind.i64 (convE (Shp.mk T.h T.x T.c) n).fst.c)],
              AV.lit (Value.int IntKind.i64 (convE (Shp.mk T.h T.x T.c) n).snd)]),
            ((convOf T n).snd == (convOf T n).snd) = true,
            ((convOf T n).snd == (convOf T n).snd) = true,
            ((convOf T n).snd == (convOf T n).snd) = true,
            VC Try.prog 25
  [AV.agg
              [AV.lit (Value.int IntKind.i64 (convOf T n).fst.h), AV.lit (Value.int IntKind.i64 (convOf T n).fst.x),
                AV.lit (Value.int IntKind.i64 (convOf T n).fst.c), AV.sl 1 (List.map (row1 IntKind.i32) (convOf T n).fst.d)],
            AV.agg
              [AV.lit (Value.int IntKind.i64 (convOf T n).fst.h), AV.lit (Value.int IntKind.i64 (convOf T n).fst.x),
                AV.lit (Value.int IntKind.i64 (convOf T n).fst.c), AV.sl 1 (List.map (row1 IntKind.i32) (convOf T n).fst.d)]]
  (AV.lit (Value.bool true)),
            ((convOf T n).snd == (convOf T n).snd) = true,
            true = true,
            true = true,
            true = true,
            BinTo Try.prog BinOp.eql 23 (Operand.tmp 53) (Operand.tmp 54)
  (Value.agg
            #[Value.int IntKind.i64 (convE (Shp.mk T.h T.x T.c) n).fst.h,
              Value.int IntKind.i64 (convE (Shp.mk T.h T.x T.c) n).fst.x,
              Value.int IntKind.i64 (convE (Shp.mk T.h T.x T.c) n).fst.c])
  (Value.agg
            #[Value.int IntKind.i64 (convE (Shp.mk T.h T.x T.c) n).fst.h,
              Value.int IntKind.i64 (convE (Shp.mk T.h T.x T.c) n).fst.x,
              Value.int IntKind.i64 (convE (Shp.mk T.h T.x T.c) n).fst.c])
  (Value.bool
            (eqNums
              [(IntKind.i64, (convE (Shp.mk T.h T.x T.c) n).fst.h, (convE (Shp.mk T.h T.x T.c) n).fst.h),
                (IntKind.i64, (convE (Shp.mk T.h T.x T.c) n).fst.x, (convE (Shp.mk T.h T.x T.c) n).fst.x),
                (IntKind.i64, (convE (Shp.mk T.h T.x T.c) n).fst.c, (convE (Shp.mk T.h T.x T.c) n).fst.c)])),
            true = true,
            eqNums
            [(IntKind.i64, (convE (Shp.mk T.h T.x T.c) n).fst.h, (convE (Shp.mk T.h T.x T.c) n).fst.h),
              (IntKind.i64, (convE (Shp.mk T.h T.x T.c) n).fst.x, (convE (Shp.mk T.h T.x T.c) n).fst.x),
              (IntKind.i64, (convE (Shp.mk T.h T.x T.c) n).fst.c, (convE (Shp.mk T.h T.x T.c) n).fst.c)] =
  !true,
            eqNums
            [(IntKind.i64, (convE (Shp.mk T.h T.x T.c) n).fst.h, (convE (Shp.mk T.h T.x T.c) n).fst.h),
              (IntKind.i64, (convE (Shp.mk T.h T.x T.c) n).fst.x, (convE (Shp.mk T.h T.x T.c) n).fst.x),
              (IntKind.i64, (convE (Shp.mk T.h T.x T.c) n).fst.c, (convE (Shp.mk T.h T.x T.c) n).fst.c)] =
  !true,
            eqNums
            [(IntKind.i64, (convE (Shp.mk T.h T.x T.c) n).fst.h, (convE (Shp.mk T.h T.x T.c) n).fst.h),
              (IntKind.i64, (convE (Shp.mk T.h T.x T.c) n).fst.x, (convE (Shp.mk T.h T.x T.c) n).fst.x),
              (IntKind.i64, (convE (Shp.mk T.h T.x T.c) n).fst.c, (convE (Shp.mk T.h T.x T.c) n).fst.c)] =
  !true,
            eqNums
            [(IntKind.i64, (convE (Shp.mk T.h T.x T.c) n).fst.h, (convE (Shp.mk T.h T.x T.c) n).fst.h),
              (IntKind.i64, (convE (Shp.mk T.h T.x T.c) n).fst.x, (convE (Shp.mk T.h T.x T.c) n).fst.x),
              (IntKind.i64, (convE (Shp.mk T.h T.x T.c) n).fst.c, (convE (Shp.mk T.h T.x T.c) n).fst.c)] =
  false,
            false = !true,
            false = false]) (by kernel_rfl) ?_
        exact ⟨(@few10_v (T) (n)),
                    (by with_reducible assumption),
                    (@cvOf_v (T) (n) (by with_reducible assumption) (by with_reducible assumption)),
                    (@rcOf_v (T) (n) (by with_reducible assumption) (by with_reducible assumption)),
                    (@convShape_v (Shp.mk T.h T.x T.c) (n) (by (exact Shp.mk_ok ok.h ok.x ok.c)) (by with_reducible assumption)),
                    (@refConvShape_v (Shp.mk T.h T.x T.c) (n) (by (exact Shp.mk_ok ok.h ok.x ok.c)) (by with_reducible assumption)),
                    (by omega),
                    (by omega),
                    (by omega),
                    (@same10_v ((convOf T n).fst) (by omega)),
                    (by omega),
                    (by with_reducible rfl),
                    (by with_reducible rfl),
                    (by with_reducible rfl),
                    ((bin_nums (l := [(IntKind.i64, (convE (Shp.mk T.h T.x T.c) n).fst.h, (convE (Shp.mk T.h T.x T.c) n).fst.h),
          (IntKind.i64, (convE (Shp.mk T.h T.x T.c) n).fst.x, (convE (Shp.mk T.h T.x T.c) n).fst.x),
          (IntKind.i64, (convE (Shp.mk T.h T.x T.c) n).fst.c,
                    (convE (Shp.mk T.h T.x T.c) n).fst.c)]) (by kernel_rfl) (by kernel_rfl) (by kernel_rfl) (by kernel_rfl) _ _).1),
                    (by with_reducible rfl),
                    (by omega),
                    (by omega),
                    (by omega),
                    (by with_reducible assumption),
                    (by omega),
                    (by with_reducible rfl),
                    trivial⟩
      exact hz.weak (WeakL.refl _) (Weak.bool (show ((false) : Bool) = (true) from (by omega)))
end Go.Proofs.Ytcegfkmelcjdhaa

