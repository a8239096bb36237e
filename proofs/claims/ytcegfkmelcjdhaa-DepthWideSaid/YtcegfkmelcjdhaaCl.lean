/- Copies of slices. No condition. -/
import Derived.Test.YtcegfkmelcjdhaaDs
namespace Go.Proofs.Ytcegfkmelcjdhaa
open Go.RowKit
set_option linter.unusedSimpArgs false
set_option linter.unusedVariables false
set_option linter.unnecessarySimpa false

set_option maxRecDepth 100000 in
set_option maxHeartbeats 2000000 in
theorem clone32_a   : VC Try.prog 72 ([nilv]) (ints .i32 []) := by
  have hz : VC Try.prog 72 ([nilv]) (AV.lit (Value.slice none 0 0)) := by
    refine VC.run (fn := Try.f72) Try.func72 (W := [.r [] [], .r [] [], .br true, .r [] []])
      (ob := [true = true]) (by kernel_rfl) ?_
    exact ⟨(by with_reducible rfl),
            trivial⟩
  exact hz.weak (WeakL.refl _) (Weak.nil _)

set_option maxRecDepth 100000 in
set_option maxHeartbeats 2000000 in
theorem clone32_b (a : Addr) (cap : Nat) (h : cap ≤ maxLen) : VC Try.prog 72 ([.lit (.slice (some a) 0 cap)]) (ints .i32 []) := by
  have hz : VC Try.prog 72 ([.lit (.slice (some a) 0 cap)]) (AV.sl 1 []) := by
    refine VC.run (fn := Try.f72) Try.func72 (W := [.r [] [], .r [] [], .br false, .r [] [PI.code Exit.normal (VS.mk [AV.sl 1 []] [])]])
      (ob := [false = false,
        Weak (AV.lit (Value.slice (some a) 0 cap)) (AV.sl 1 []),
        ((0 : Nat) + (0 : Nat)) * (4 : Nat) ≤ (140737488355328 : Nat),
        (0 : Nat) + (0 : Nat) ≤ (9223372036854775807 : Nat)]) (by kernel_rfl) ?_
    exact ⟨(by with_reducible rfl),
            (Weak.empty _ _ (by assumption)),
            (by omega),
            (by omega),
            trivial⟩
  exact hz

set_option maxRecDepth 100000 in
set_option maxHeartbeats 2000000 in
theorem clone32_c (l : List Int) (h : l ≠ []) (hl : l.length ≤ 1000000) : VC Try.prog 72 ([ints .i32 l]) (ints .i32 l) := by
  have hz : VC Try.prog 72 ([ints .i32 l]) (AV.sl 1 ([] ++ List.map (row1 IntKind.i32) l)) := by
    refine VC.run (fn := Try.f72) Try.func72 (W := [.r [] [], .r [] [], .br false, .r [] []])
      (ob := [List.map (row1 IntKind.i32) l ≠ [],
        false = false,
        (0 + (List.map (row1 IntKind.i32) l).length) * 4 ≤ 140737488355328,
        0 + (List.map (row1 IntKind.i32) l).length ≤ 9223372036854775807]) (by kernel_rfl) ?_
    exact ⟨(by (simp only [decide_eq_true_eq, decide_eq_false_iff_not, beq_iff_eq, bne_iff_ne, ne_eq, beq_eq_false_iff_ne, bne_eq_false_iff_eq, Bool.not_eq_true', Bool.not_eq_false', Bool.not_eq_eq_eq_not, Bool.not_true, Bool.not_false, Classical.not_not, Int.not_lt, Int.not_le, Bool.and_eq_true, Bool.and_eq_false_iff, Bool.or_eq_true, Bool.or_eq_false_iff, Bool.and_true, Bool.true_and, Bool.and_false, Bool.false_and, Bool.or_false, Bool.false_or, eqNums, List.length_map, List.length_append, List.length_cons, List.length_nil, List.length_set, List.length_replicate, List.length_take, List.length_drop, List.length_range, Int.toNat_natCast, Nat.zero_add, List.map_eq_nil_iff]; (first | done | with_reducible assumption | omega | contradiction))),
            (by with_reducible rfl),
            (by (simp only [decide_eq_true_eq, decide_eq_false_iff_not, beq_iff_eq, bne_iff_ne, ne_eq, beq_eq_false_iff_ne, bne_eq_false_iff_eq, Bool.not_eq_true', Bool.not_eq_false', Bool.not_eq_eq_eq_not, Bool.not_true, Bool.not_false, Classical.not_not, Int.not_lt, Int.not_le, Bool.and_eq_true, Bool.and_eq_false_iff, Bool.or_eq_true, Bool.or_eq_false_iff, Bool.and_true, Bool.true_and, Bool.and_false, Bool.false_and, Bool.or_false, Bool.false_or, eqNums, List.length_map, List.length_append, List.length_cons, List.length_nil, List.length_set, List.length_replicate, List.length_take, List.length_drop, List.length_range, Int.toNat_natCast, Nat.zero_add, List.map_eq_nil_iff]; (first | done | with_reducible assumption | omega | contradiction))),
            (by (simp only [decide_eq_true_eq, decide_eq_false_iff_not, beq_iff_eq, bne_iff_ne, ne_eq, beq_eq_false_iff_ne, bne_eq_false_iff_eq, Bool.not_eq_true', Bool.not_eq_false', Bool.not_eq_eq_eq_not, Bool.not_true, Bool.not_false, Classical.not_not, Int.not_lt, Int.not_le, Bool.and_eq_true, Bool.and_eq_false_iff, Bool.or_eq_true, Bool.or_eq_false_iff, Bool.and_true, Bool.true_and, Bool.and_false, Bool.false_and, Bool.or_false, Bool.false_or, eqNums, List.length_map, List.length_append, List.length_cons, List.length_nil, List.length_set, List.length_replicate, List.length_take, List.length_drop, List.length_range, Int.toNat_natCast, Nat.zero_add, List.map_eq_nil_iff]; (first | done | with_reducible assumption | omega | contradiction))),
            trivial⟩
  exact hz.weak (WeakL.refl _) (Weak.rows (rows_to (row1 IntKind.i32) (l := [] ++ l) (m := l) (by simp only [List.map_append, List.map_cons, List.map_nil, List.map_set, List.map_replicate, List.map_take, List.map_drop]) (show ([] ++ l) = (l) from (by (simp_all; done)))))
theorem clone32_v (l : List Int) (hl : l.length ≤ 1000000) : VC Try.prog 72 [ints .i32 l] (ints .i32 l) := by
  cases l with
  | nil => exact VC.empty1 clone32_a fun a cap h => clone32_b a cap h
  | cons x l => exact clone32_c _ (by simp) hl
set_option maxRecDepth 100000 in
set_option maxHeartbeats 2000000 in
theorem clone8_a   : VC Try.prog 83 ([nilv]) (ints .i8 []) := by
  have hz : VC Try.prog 83 ([nilv]) (AV.lit (Value.slice none 0 0)) := by
    refine VC.run (fn := Try.f83) Try.func83 (W := [.r [] [], .r [] [], .br true, .r [] []])
      (ob := [true = true]) (by kernel_rfl) ?_
    exact ⟨(by with_reducible rfl),
            trivial⟩
  exact hz.weak (WeakL.refl _) (Weak.nil _)

set_option maxRecDepth 100000 in
set_option maxHeartbeats 2000000 in
theorem clone8_b (a : Addr) (cap : Nat) (h : cap ≤ maxLen) : VC Try.prog 83 ([.lit (.slice (some a) 0 cap)]) (ints .i8 []) := by
  have hz : VC Try.prog 83 ([.lit (.slice (some a) 0 cap)]) (AV.sl 1 []) := by
    refine VC.run (fn := Try.f83) Try.func83 (W := [.r [] [], .r [] [], .br false, .r [] [PI.code Exit.normal (VS.mk [AV.sl 1 []] [])]])
      (ob := [false = false,
        Weak (AV.lit (Value.slice (some a) 0 cap)) (AV.sl 1 []),
        ((0 : Nat) + (0 : Nat)) * (1 : Nat) ≤ (140737488355328 : Nat),
        (0 : Nat) + (0 : Nat) ≤ (9223372036854775807 : Nat)]) (by kernel_rfl) ?_
    exact ⟨(by with_reducible rfl),
            (Weak.empty _ _ (by assumption)),
            (by omega),
            (by omega),
            trivial⟩
  exact hz

set_option maxRecDepth 100000 in
set_option maxHeartbeats 2000000 in
theorem clone8_c (l : List Int) (h : l ≠ []) (hl : l.length ≤ 1000000) : VC Try.prog 83 ([ints .i8 l]) (ints .i8 l) := by
  have hz : VC Try.prog 83 ([ints .i8 l]) (AV.sl 1 ([] ++ List.map (row1 IntKind.i8) l)) := by
    refine VC.run (fn := Try.f83) Try.func83 (W := [.r [] [], .r [] [], .br false, .r [] []])
      (ob := [List.map (row1 IntKind.i8) l ≠ [],
        false = false,
        (0 + (List.map (row1 IntKind.i8) l).length) * 1 ≤ 140737488355328,
        0 + (List.map (row1 IntKind.i8) l).length ≤ 9223372036854775807]) (by kernel_rfl) ?_
    exact ⟨(by (simp only [decide_eq_true_eq, decide_eq_false_iff_not, beq_iff_eq, bne_iff_ne, ne_eq, beq_eq_false_iff_ne, bne_eq_false_iff_eq, Bool.not_eq_true', Bool.not_eq_false', Bool.not_eq_eq_eq_not, Bool.not_true, Bool.not_false, Classical.not_not, Int.not_lt, Int.not_le, Bool.and_eq_true, Bool.and_eq_false_iff, Bool.or_eq_true, Bool.or_eq_false_iff, Bool.and_true, Bool.true_and, Bool.and_false, Bool.false_and, Bool.or_false, Bool.false_or, eqNums, List.length_map, List.length_append, List.length_cons, List.length_nil, List.length_set, List.length_replicate, List.length_take, List.length_drop, List.length_range, Int.toNat_natCast, Nat.zero_add, List.map_eq_nil_iff]; (first | done | with_reducible assumption | omega | contradiction))),
            (by with_reducible rfl),
            (by (simp only [decide_eq_true_eq, decide_eq_false_iff_not, beq_iff_eq, bne_iff_ne, ne_eq, beq_eq_false_iff_ne, bne_eq_false_iff_eq, Bool.not_eq_true', Bool.not_eq_false', Bool.not_eq_eq_eq_not, Bool.not_true, Bool.not_false, Classical.not_not, Int.not_lt, Int.not_le, Bool.and_eq_true, Bool.and_eq_false_iff, Bool.or_eq_true, Bool.or_eq_false_iff, Bool.and_true, Bool.true_and, Bool.and_false, Bool.false_and, Bool.or_false, Bool.false_or, eqNums, List.length_map, List.length_append, List.length_cons, List.length_nil, List.length_set, List.length_replicate, List.length_take, List.length_drop, List.length_range, Int.toNat_natCast, Nat.zero_add, List.map_eq_nil_iff]; (first | done | with_reducible assumption | omega | contradiction))),
            (by (simp only [decide_eq_true_eq, decide_eq_false_iff_not, beq_iff_eq, bne_iff_ne, ne_eq, beq_eq_false_iff_ne, bne_eq_false_iff_eq, Bool.not_eq_true', Bool.not_eq_false', Bool.not_eq_eq_eq_not, Bool.not_true, Bool.not_false, Classical.not_not, Int.not_lt, Int.not_le, Bool.and_eq_true, Bool.and_eq_false_iff, Bool.or_eq_true, Bool.or_eq_false_iff, Bool.and_true, Bool.true_and, Bool.and_false, Bool.false_and, Bool.or_false, Bool.false_or, eqNums, List.length_map, List.length_append, List.length_cons, List.length_nil, List.length_set, List.length_replicate, List.length_take, List.length_drop, List.length_range, Int.toNat_natCast, Nat.zero_add, List.map_eq_nil_iff]; (first | done | with_reducible assumption | omega | contradiction))),
            trivial⟩
  exact hz.weak (WeakL.refl _) (Weak.rows (rows_to (row1 IntKind.i8) (l := [] ++ l) (m := l) (by simp only [List.map_append, List.map_cons, List.map_nil, List.map_set, List.map_replicate, List.map_take, List.map_drop]) (show ([] ++ l) = (l) from (by (simp_all; done)))))
theorem clone8_v (l : List Int) (hl : l.length ≤ 1000000) : VC Try.prog 83 [ints .i8 l] (ints .i8 l) := by
  cases l with
  | nil => exact VC.empty1 clone8_a fun a cap h => clone8_b a cap h
  | cons x l => exact clone8_c _ (by simp) hl
end Go.Proofs.Ytcegfkmelcjdhaa

