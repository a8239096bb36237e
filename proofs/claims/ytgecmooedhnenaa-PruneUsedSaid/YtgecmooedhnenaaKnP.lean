/- A node with what its kind tells alone: the law. No condition. -/
import Derived.Test.YtgecmooedhnenaaKnL
namespace Go.Proofs.Ytgecmooedhnenaa
open Go.RowKit
set_option linter.unusedSimpArgs false
set_option linter.unusedVariables false
set_option linter.unnecessarySimpa false

theorem nodEq_false {a b : Nod} (h : (a.kd != b.kd || a.na != b.na || a.nb != b.nb || a.nk != b.nk || a.ns != b.ns || a.np != b.np || a.no != b.no) = true) : false = nodEq a b := by
  symm
  rw [Bool.eq_false_iff]
  intro h'
  have h' := (nodEq_iff _ _).1 h'
  subst h'
  simp at h
theorem nodEq_rest {a b : Nod} (h : (a.kd != b.kd || a.na != b.na || a.nb != b.nb || a.nk != b.nk || a.ns != b.ns || a.np != b.np || a.no != b.no) = false) :
    (a.za == b.za && a.zb == b.zb && a.lo == b.lo && a.hi == b.hi && eqNums [(IntKind.i32, a.qm, b.qm), (IntKind.i64, a.qs, b.qs), (IntKind.i8, a.qz, b.qz)] && eqNums [(IntKind.i32, a.rm, b.rm), (IntKind.i64, a.rs, b.rs), (IntKind.i8, a.rz, b.rz)] && decide (a.w = b.w) && decide (a.b = b.b)) = nodEq a b := by
  simp only [Bool.or_eq_false_iff, bne_eq_false_iff_eq] at h
  obtain ⟨⟨⟨⟨⟨⟨h1, h2⟩, h3⟩, h4⟩, h5⟩, h6⟩, h7⟩ := h
  rw [Bool.eq_iff_iff]
  simp only [nodEq, eqNums, h1, h2, h3, h4, h5, h6, h7, Bool.and_eq_true, decide_eq_true_eq, beq_iff_eq, true_and, and_true]
  constructor
  · rintro ⟨⟨⟨⟨⟨⟨⟨q1, q2⟩, q3⟩, q4⟩, q5⟩, q6⟩, q7⟩, q8⟩; exact ⟨⟨⟨⟨q7, q8⟩, q1, q2, q3, q4⟩, q5⟩, q6⟩
  · rintro ⟨⟨⟨⟨q7, q8⟩, q1, q2, q3, q4⟩, q5⟩, q6⟩; exact ⟨⟨⟨⟨⟨⟨⟨q1, q2⟩, q3⟩, q4⟩, q5⟩, q6⟩, q7⟩, q8⟩
set_option maxRecDepth 100000 in
set_option maxHeartbeats 2000000 in
theorem refSame_v (a b : Nod) (hw : a.w.length ≤ 100000) (hb : a.b.length ≤ 100000) : VC Try.prog 25 ([nod a, nod b]) (bv (nodEq a b)) := by
  rcases Bool.eq_false_or_eq_true (a.kd != b.kd || a.na != b.na || a.nb != b.nb || a.nk != b.nk || a.ns != b.ns || a.np != b.np || a.no != b.no) with hc0 | hc0
  · have gc0 : (((((¬a.kd = b.kd ∨ ¬a.na = b.na) ∨ ¬a.nb = b.nb) ∨ ¬a.nk = b.nk) ∨ ¬a.ns = b.ns) ∨ ¬a.np = b.np) ∨ ¬a.no = b.no := by first | (simp only [Bool.or_eq_true, Bool.or_eq_false_iff, Bool.and_eq_true, Bool.and_eq_false_iff, Bool.not_eq_true', Bool.not_eq_false', decide_eq_true_eq, decide_eq_false_iff_not, beq_iff_eq, bne_iff_ne, ne_eq, beq_eq_false_iff_ne, bne_eq_false_iff_eq, eqNums, Bool.and_true] at hc0; first | exact hc0 | omega) | simpa using hc0 | (simp at hc0 ⊢; omega)
    exact (VC.run (fn := Try.f25) (W := [.r [] [], .r [] [.op false, .op false, .op false, .op false, .op false, .sel 1, .op false, .op false, .op false, .op false, .op false, .sel 1, .op false, .op false, .op false, .op false, .op false, .sel 1, .op false, .op false, .op false, .op false, .op false, .sel 1, .op false, .op false, .op false, .op false, .op false, .sel 1, .op false, .op false, .op false, .op false, .op false, .sel 1], .br true, .r [] []]) (r := bv false) Try.func25 (by kernel_rfl) (.c hc0 <| .n)).weak (WeakL.refl _) (Weak.bool (show ((false) : Bool) = (nodEq a b) from (by (exact nodEq_false (by assumption)))))
  · have gc0 : (((((a.kd = b.kd ∧ a.na = b.na) ∧ a.nb = b.nb) ∧ a.nk = b.nk) ∧ a.ns = b.ns) ∧ a.np = b.np) ∧ a.no = b.no := by first | (simp only [Bool.or_eq_true, Bool.or_eq_false_iff, Bool.and_eq_true, Bool.and_eq_false_iff, Bool.not_eq_true', Bool.not_eq_false', decide_eq_true_eq, decide_eq_false_iff_not, beq_iff_eq, bne_iff_ne, ne_eq, beq_eq_false_iff_ne, bne_eq_false_iff_eq, eqNums, Bool.and_true] at hc0; first | exact hc0 | omega) | simpa using hc0 | (simp at hc0 ⊢; omega)
    have oz3 := @rsame8_v (a.w) (b.w) (by omega)
    have oz4 := @rsame32_v (a.b) (b.b) (by omega)
    exact (VC.run (fn := Try.f25) (W := [.r [] [], .r [] [.op false, .op false, .op false, .op false, .op false, .sel 1, .op false, .op false, .op false, .op false, .op false, .sel 1, .op false, .op false, .op false, .op false, .op false, .sel 1, .op false, .op false, .op false, .op false, .op false, .sel 1, .op false, .op false, .op false, .op false, .op false, .sel 1, .op false, .op false, .op false, .op false, .op false, .sel 1], .br false, .r [] [.op false, .op false, .op false, .op false, .op false, .sel 2, .op false, .op false, .op false, .op false, .op false, .sel 2, .op false, .op false, .op false, .op false, .op false, .sel 2, .op false, .op false, .op false, .op false, .op false, .v (Value.bool (eqNums [(IntKind.i32, a.qm, b.qm), (IntKind.i64, a.qs, b.qs), (IntKind.i8, a.qz, b.qz)])), .sel 2, .op false, .op false, .op false, .op false, .op false, .v (Value.bool (eqNums [(IntKind.i32, a.rm, b.rm), (IntKind.i64, a.rs, b.rs), (IntKind.i8, a.rz, b.rz)])), .sel 2, .op false, .op false, .op false, .op false, .op false, .callr (rO oz3), .sel 2, .op false, .op false, .op false, .op false, .op false, .callr (rO oz4), .sel 2]]) (r := bv (a.za == b.za && a.zb == b.zb && a.lo == b.lo && a.hi == b.hi && eqNums [(IntKind.i32, a.qm, b.qm), (IntKind.i64, a.qs, b.qs), (IntKind.i8, a.qz, b.qz)] && eqNums [(IntKind.i32, a.rm, b.rm), (IntKind.i64, a.rs, b.rs), (IntKind.i8, a.rz, b.rz)] && decide (a.w = b.w) && decide (a.b = b.b))) Try.func25 (by kernel_rfl) (.c hc0 <| .c (show BinTo Try.prog BinOp.eql 45 (Operand.tmp 80) (Operand.tmp 82) (Value.agg #[Value.int IntKind.i32 a.qm, Value.int IntKind.i64 a.qs, Value.int IntKind.i8 a.qz]) (Value.agg #[Value.int IntKind.i32 b.qm, Value.int IntKind.i64 b.qs, Value.int IntKind.i8 b.qz]) (Value.bool (eqNums [(IntKind.i32, a.qm, b.qm), (IntKind.i64, a.qs, b.qs), (IntKind.i8, a.qz, b.qz)])) from ((bin_nums (l := [(IntKind.i32, a.qm, b.qm), (IntKind.i64, a.qs, b.qs), (IntKind.i8, a.qz, b.qz)]) (by kernel_rfl) (by kernel_rfl) (by kernel_rfl) (by kernel_rfl) _ _).1)) <| .c (show BinTo Try.prog BinOp.eql 45 (Operand.tmp 87) (Operand.tmp 89) (Value.agg #[Value.int IntKind.i32 a.rm, Value.int IntKind.i64 a.rs, Value.int IntKind.i8 a.rz]) (Value.agg #[Value.int IntKind.i32 b.rm, Value.int IntKind.i64 b.rs, Value.int IntKind.i8 b.rz]) (Value.bool (eqNums [(IntKind.i32, a.rm, b.rm), (IntKind.i64, a.rs, b.rs), (IntKind.i8, a.rz, b.rz)])) from ((bin_nums (l := [(IntKind.i32, a.rm, b.rm), (IntKind.i64, a.rs, b.rs), (IntKind.i8, a.rz, b.rz)]) (by kernel_rfl) (by kernel_rfl) (by kernel_rfl) (by kernel_rfl) _ _).1)) <| .c oz3 <| .c oz4 <| .n)).weak (WeakL.refl _) (Weak.bool (show ((a.za == b.za && a.zb == b.zb && a.lo == b.lo && a.hi == b.hi && eqNums [(IntKind.i32, a.qm, b.qm), (IntKind.i64, a.qs, b.qs), (IntKind.i8, a.qz, b.qz)] && eqNums [(IntKind.i32, a.rm, b.rm), (IntKind.i64, a.rs, b.rs), (IntKind.i8, a.rz, b.rz)] && decide (a.w = b.w) && decide (a.b = b.b)) : Bool) = (nodEq a b) from (by (exact nodEq_rest (by assumption)))))
def nod0 : Nod := ⟨0, 0, 0, 0, 0, 0, 0, 0, 0, [], [], 0, 0, 0, 0, 0, 0, 0, 0⟩
set_option maxRecDepth 100000 in
set_option maxHeartbeats 2000000 in
theorem plain_n (n : Nod) (hk : In64 n.kd) (hn : n.kd < 1 ∨ 9 < n.kd) : VC Try.prog 163 ([nod n]) (.agg [i64 0, i64 0, i64 0, i64 0, i64 0, i64 0, i64 0, i8 0, i8 0, nilv, nilv, i32 0, i64 0, i8 0, i32 0, i64 0, i8 0, i8 0, i8 0]) := by
  have h2 := nameEq_out hn
  have oz0 := @name_v (n.kd) hk
  exact VC.run (fn := Try.f163) (W := [.r [] [], .r [] [.callr (rO oz0)], .br true, .r [] []]) Try.func163 (by kernel_rfl) (.c oz0 <| .c h2 <| .n)
theorem refSame_z : VC Try.prog 25 [.agg [i64 0, i64 0, i64 0, i64 0, i64 0, i64 0, i64 0, i8 0, i8 0, .sl 1 [], .sl 1 [], i32 0, i64 0, i8 0, i32 0, i64 0, i8 0, i8 0, i8 0], .agg [i64 0, i64 0, i64 0, i64 0, i64 0, i64 0, i64 0, i8 0, i8 0, .sl 1 [], .sl 1 [], i32 0, i64 0, i8 0, i32 0, i64 0, i8 0, i8 0, i8 0]] (bv true) :=
  VC.to (refSame_v nod0 nod0 (by decide) (by decide)) (by kernel_rfl)
theorem plain_facts {n : Nod} (h0 : 1 ≤ n.kd) (h9 : n.kd ≤ 9) : (plainN n).kd = n.kd ∧ (plainN n).na = n.na ∧ (plainN n).w.length ≤ n.w.length ∧ (plainN n).b.length ≤ n.b.length ∧ plainN (plainN n) = plainN n := by
  have : n.kd = 1 ∨ n.kd = 2 ∨ n.kd = 3 ∨ n.kd = 4 ∨ n.kd = 5 ∨ n.kd = 6 ∨ n.kd = 7 ∨ n.kd = 8 ∨ n.kd = 9 := by omega
  rcases this with h | h | h | h | h | h | h | h | h <;> simp [plainN, h]
theorem plain_less {n : Nod} (h0 : 1 ≤ n.kd) (h9 : n.kd ≤ 9) : moreE (plainN n) = false := by
  have q := plain_facts h0 h9
  have h := more_iff (plainN n) (by omega) (by omega)
  rw [q.2.2.2.2, (nodEq_iff _ _).2 rfl] at h
  cases hm : moreE (plainN n) with
  | false => rfl
  | true => rw [hm] at h; cases h
theorem plain_same {n : Nod} (h0 : 1 ≤ n.kd) (h9 : n.kd ≤ 9) (h : moreE n = false) : nodEq (plainN n) n = true := by
  have h1 := more_iff n h0 h9
  rw [h] at h1
  rw [nodEq_iff]; exact ((nodEq_iff _ _).1 h1).symm
theorem plain_other {n : Nod} (h0 : 1 ≤ n.kd) (h9 : n.kd ≤ 9) (h : moreE n = true) : nodEq (plainN n) n = false := by
  have h1 := more_iff n h0 h9
  rw [h] at h1
  cases e : nodEq (plainN n) n with
  | false => rfl
  | true => rw [(nodEq_iff _ _).2 ((nodEq_iff _ _).1 e).symm] at h1; cases h1
theorem plain_code {n : Nod} (h0 : 1 ≤ n.kd) (h9 : n.kd ≤ 9) : (checkE (plainN n) != 2 || decide ((plainN n).lo > (plainN n).hi)) = true := by
  have q := plain_facts h0 h9
  have h := plain_less h0 h9
  rw [Bool.or_eq_true, bne_iff_ne, decide_eq_true_eq]
  unfold checkE
  rw [if_neg (by omega), if_neg (by simp [h])]
  split
  · left; decide
  · split
    · rename_i h1 h2
      simp only [Bool.and_eq_true, decide_eq_true_eq] at h2
      exact .inr h2.2
    · left; decide

