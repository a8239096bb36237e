/- Copies of slices. No condition. -/
import Derived.Test.YtgecmooedhnenaaCore
namespace Go.Proofs.Ytgecmooedhnenaa
open Go.RowKit
set_option linter.unusedSimpArgs false
set_option linter.unusedVariables false
set_option linter.unnecessarySimpa false

set_option maxRecDepth 100000 in
set_option maxHeartbeats 2000000 in
theorem clone32_a   : VC Try.prog 145 ([nilv]) (ints .i32 []) := by
  exact (VC.run (fn := Try.f145) (W := [.r [] [], .r [] [], .br true, .r [] []]) (r := AV.lit (Value.slice none 0 0)) Try.func145 (by kernel_rfl) (.c (show true = true by with_reducible rfl) <| .n)).weak (WeakL.refl _) (Weak.nil _)

set_option maxRecDepth 100000 in
set_option maxHeartbeats 2000000 in
theorem clone32_b (a : Addr) (cap : Nat) (h : cap ≤ maxLen) : VC Try.prog 145 ([.lit (.slice (some a) 0 cap)]) (ints .i32 []) := by
  exact VC.run (fn := Try.f145) (W := [.r [] [], .r [] [], .br false, .r [] [.code Exit.normal (VS.mk [AV.sl 1 []] [])]]) Try.func145 (by kernel_rfl) (.c (show false = false by with_reducible rfl) <| .c (show Weak (AV.lit (Value.slice (some a) 0 cap)) (AV.sl 1 []) from (Weak.empty _ _ (by assumption))) <| .c (show ((0 : Nat) + (0 : Nat)) * (4 : Nat) ≤ (140737488355328 : Nat) by omega) <| .c (show (0 : Nat) + (0 : Nat) ≤ (9223372036854775807 : Nat) by omega) <| .n)

set_option maxRecDepth 100000 in
set_option maxHeartbeats 2000000 in
theorem clone32_c (l : List Int) (h : l ≠ []) (hl : l.length ≤ 1000000) : VC Try.prog 145 ([ints .i32 l]) (ints .i32 l) := by
  exact (VC.run (fn := Try.f145) (W := [.r [] [], .r [] [], .br false, .r [] []]) (r := AV.sl 1 ([] ++ List.map (row1 IntKind.i32) l)) Try.func145 (by kernel_rfl) (.c (show List.map (row1 IntKind.i32) l ≠ [] by (simp; omega)) <| .c (show false = false by with_reducible rfl) <| .c (show (0 + (List.map (row1 IntKind.i32) l).length) * 4 ≤ 140737488355328 by (simp; omega)) <| .c (show 0 + (List.map (row1 IntKind.i32) l).length ≤ 9223372036854775807 by (simp; omega)) <| .n)).weak (WeakL.refl _) (Weak.rows (rows_to (row1 IntKind.i32) (r := [] ++ List.map (row1 IntKind.i32) l) (l := [] ++ l) (m := l) (by first | (simp only [List.map_append, List.map_cons, List.map_nil, List.map_set, List.map_replicate, List.map_take, List.map_drop]; done) | rfl | (simp only [List.map_append, List.map_cons, List.map_nil, List.map_set, List.map_replicate, List.map_take, List.map_drop]; rfl)) (show ([] ++ l) = (l) from (by (simp; done)))))
theorem clone32_v (l : List Int) (hl : l.length ≤ 1000000) : VC Try.prog 145 [ints .i32 l] (ints .i32 l) := by
  cases l with
  | nil => exact VC.empty1 clone32_a fun a cap h => clone32_b a cap h
  | cons x l => exact clone32_c _ (by simp) hl
set_option maxRecDepth 100000 in
set_option maxHeartbeats 2000000 in
theorem clone8_a   : VC Try.prog 144 ([nilv]) (ints .i8 []) := by
  exact (VC.run (fn := Try.f144) (W := [.r [] [], .r [] [], .br true, .r [] []]) (r := AV.lit (Value.slice none 0 0)) Try.func144 (by kernel_rfl) (.c (show true = true by with_reducible rfl) <| .n)).weak (WeakL.refl _) (Weak.nil _)

set_option maxRecDepth 100000 in
set_option maxHeartbeats 2000000 in
theorem clone8_b (a : Addr) (cap : Nat) (h : cap ≤ maxLen) : VC Try.prog 144 ([.lit (.slice (some a) 0 cap)]) (ints .i8 []) := by
  exact VC.run (fn := Try.f144) (W := [.r [] [], .r [] [], .br false, .r [] [.code Exit.normal (VS.mk [AV.sl 1 []] [])]]) Try.func144 (by kernel_rfl) (.c (show false = false by with_reducible rfl) <| .c (show Weak (AV.lit (Value.slice (some a) 0 cap)) (AV.sl 1 []) from (Weak.empty _ _ (by assumption))) <| .c (show ((0 : Nat) + (0 : Nat)) * (1 : Nat) ≤ (140737488355328 : Nat) by omega) <| .c (show (0 : Nat) + (0 : Nat) ≤ (9223372036854775807 : Nat) by omega) <| .n)

set_option maxRecDepth 100000 in
set_option maxHeartbeats 2000000 in
theorem clone8_c (l : List Int) (h : l ≠ []) (hl : l.length ≤ 1000000) : VC Try.prog 144 ([ints .i8 l]) (ints .i8 l) := by
  exact (VC.run (fn := Try.f144) (W := [.r [] [], .r [] [], .br false, .r [] []]) (r := AV.sl 1 ([] ++ List.map (row1 IntKind.i8) l)) Try.func144 (by kernel_rfl) (.c (show List.map (row1 IntKind.i8) l ≠ [] by (simp; omega)) <| .c (show false = false by with_reducible rfl) <| .c (show (0 + (List.map (row1 IntKind.i8) l).length) * 1 ≤ 140737488355328 by (simp; omega)) <| .c (show 0 + (List.map (row1 IntKind.i8) l).length ≤ 9223372036854775807 by (simp; omega)) <| .n)).weak (WeakL.refl _) (Weak.rows (rows_to (row1 IntKind.i8) (r := [] ++ List.map (row1 IntKind.i8) l) (l := [] ++ l) (m := l) (by first | (simp only [List.map_append, List.map_cons, List.map_nil, List.map_set, List.map_replicate, List.map_take, List.map_drop]; done) | rfl | (simp only [List.map_append, List.map_cons, List.map_nil, List.map_set, List.map_replicate, List.map_take, List.map_drop]; rfl)) (show ([] ++ l) = (l) from (by (simp; done)))))
theorem clone8_v (l : List Int) (hl : l.length ≤ 1000000) : VC Try.prog 144 [ints .i8 l] (ints .i8 l) := by
  cases l with
  | nil => exact VC.empty1 clone8_a fun a cap h => clone8_b a cap h
  | cons x l => exact clone8_c _ (by simp) hl
end Go.Proofs.Ytgecmooedhnenaa

