/- What is wrong with a node, and what shape it makes: the laws. No condition. -/
import Derived.Test.YtgecmooedhnenaaKnE
namespace Go.Proofs.Ytgecmooedhnenaa
open Go.RowKit
set_option linter.unusedSimpArgs false
set_option linter.unusedVariables false
set_option linter.unnecessarySimpa false

theorem checkZ_v : VC Try.prog 104 [.agg [i64 0, i64 0, i64 0, i64 0, i64 0, i64 0, i64 0, i8 0, i8 0, .sl 1 [], .sl 1 [], i32 0, i64 0, i8 0, i32 0, i64 0, i8 0, i8 0, i8 0]] (i64 6) :=
  VC.to (check_n ⟨0, 0, 0, 0, 0, 0, 0, 0, 0, [], [], 0, 0, 0, 0, 0, 0, 0, 0⟩ ⟨by decide, by decide⟩ (.inl (by decide))) (by kernel_rfl)

set_option maxRecDepth 100000 in
set_option maxHeartbeats 2000000 in
theorem fewK0_v (n : Nod)  : VC Try.prog 35 ([tnone, nod n]) (bv (decide (n.w.length ≤ 2000) && decide (n.b.length ≤ 200))) := by
  have oz0 := (show true = true by with_reducible rfl)
  exact (VC.run (fn := Try.f35) (W := [.r [] [], .r [] [.br true, .br true, .br true, .br true, .br true, .op false, .op false, .op false, .op false, .sel 2]]) (r := bv (decide ((↑(List.map (row1 IntKind.i8) n.w).length : Int) ≤ 2000) && decide ((↑(List.map (row1 IntKind.i32) n.b).length : Int) ≤ 200))) Try.func35 (by kernel_rfl) (.c oz0 <| .c oz0 <| .c oz0 <| .c oz0 <| .c oz0 <| .n)).weak (WeakL.refl _) (Weak.bool (show ((decide ((↑(List.map (row1 IntKind.i8) n.w).length : Int) ≤ 2000) && decide ((↑(List.map (row1 IntKind.i32) n.b).length : Int) ≤ 200)) : Bool) = (decide (n.w.length ≤ 2000) && decide (n.b.length ≤ 200)) from (by (rw [Bool.eq_iff_iff]; simp only [decide_eq_true_eq, decide_eq_false_iff_not, beq_iff_eq, bne_iff_ne, ne_eq, beq_eq_false_iff_ne, bne_eq_false_iff_eq, Bool.not_eq_true', Bool.not_eq_false', Bool.not_eq_eq_eq_not, Bool.not_true, Bool.not_false, Classical.not_not, Int.not_lt, Int.not_le, Bool.and_eq_true, Bool.and_eq_false_iff, Bool.or_eq_true, Bool.or_eq_false_iff, Bool.and_true, Bool.true_and, Bool.and_false, Bool.false_and, Bool.or_false, Bool.false_or, eqNums, List.length_map, List.length_append, List.length_cons, List.length_nil, List.length_set, List.length_replicate, List.length_take, List.length_drop, List.length_range, Int.toNat_natCast, Nat.zero_add, List.map_eq_nil_iff, Bool.false_eq_true, Bool.true_eq_false, false_iff, true_iff, iff_false, iff_true] at *; first | done | omega))))


end Go.Proofs.Ytgecmooedhnenaa

