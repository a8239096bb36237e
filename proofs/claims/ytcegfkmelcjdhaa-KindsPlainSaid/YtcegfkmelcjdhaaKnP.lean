/- A node with what its kind tells alone: the law. No condition. -/
import Derived.Test.YtcegfkmelcjdhaaKnL
namespace Go.Proofs.Ytcegfkmelcjdhaa
open Go.RowKit
set_option linter.unusedSimpArgs false
set_option linter.unusedVariables false
set_option linter.unnecessarySimpa false

theorem nodEq_false {a b : Nod} (h : (a.kd != b.kd || a.na != b.na || a.nb != b.nb || a.nk != b.nk || a.ns != b.ns || a.np != b.np || a.no != b.no) = true) : false = nodEq a b := by
  symm
  rw [Bool.eq_false_iff]
  intro h'
  have h' := (nodEq_iff _ _).1 h'
  subst h'
  simp at h
theorem nodEq_rest {a b : Nod} (h : (a.kd != b.kd || a.na != b.na || a.nb != b.nb || a.nk != b.nk || a.ns != b.ns || a.np != b.np || a.no != b.no) = false) :
    (a.za == b.za && a.zb == b.zb && a.lo == b.lo && a.hi == b.hi && eqNums [(IntKind.i32, a.qm, b.qm), (IntKind.i64, a.qs, b.qs), (IntKind.i8, a.qz, b.qz)] && eqNums [(IntKind.i32, a.rm, b.rm), (IntKind.i64, a.rs, b.rs), (IntKind.i8, a.rz, b.rz)] && decide (a.w = b.w) && decide (a.b = b.b)) = nodEq a b := by
  simp only [Bool.or_eq_false_iff, bne_eq_false_iff_eq] at h
  obtain ⟨⟨⟨⟨⟨⟨h1, h2⟩, h3⟩, h4⟩, h5⟩, h6⟩, h7⟩ := h
  rw [Bool.eq_iff_iff]
  simp only [nodEq, eqNums, h1, h2, h3, h4, h5, h6, h7, Bool.and_eq_true, decide_eq_true_eq, beq_iff_eq, true_and, and_true]
  constructor
  · rintro ⟨⟨⟨⟨⟨⟨⟨q1, q2⟩, q3⟩, q4⟩, q5⟩, q6⟩, q7⟩, q8⟩; exact ⟨⟨⟨⟨q7, q8⟩, q1, q2, q3, q4⟩, q5⟩, q6⟩
  · rintro ⟨⟨⟨⟨q7, q8⟩, q1, q2, q3, q4⟩, q5⟩, q6⟩; exact ⟨⟨⟨⟨⟨⟨⟨q1, q2⟩, q3⟩, q4⟩, q5⟩, q6⟩, q7⟩, q8⟩
set_option maxRecDepth 100000 in
set_option maxHeartbeats 2000000 in
theorem refSame_v (a b : Nod) (hw : a.w.length ≤ 100000) (hb : a.b.length ≤ 100000) : VC Try.prog 47 ([nod a, nod b]) (bv (nodEq a b)) := by
  rcases Bool.eq_false_or_eq_true (a.kd != b.kd || a.na != b.na || a.nb != b.nb || a.nk != b.nk || a.ns != b.ns || a.np != b.np || a.no != b.no) with hc0 | hc0
  · have gc0 : (((((¬a.kd = b.kd ∨ ¬a.na = b.na) ∨ ¬a.nb = b.nb) ∨ ¬a.nk = b.nk) ∨ ¬a.ns = b.ns) ∨ ¬a.np = b.np) ∨ ¬a.no = b.no := by first | (simp only [Bool.or_eq_true, Bool.or_eq_false_iff, Bool.and_eq_true, Bool.and_eq_false_iff, Bool.not_eq_true', Bool.not_eq_false', decide_eq_true_eq, decide_eq_false_iff_not, beq_iff_eq, bne_iff_ne, ne_eq, beq_eq_false_iff_ne, bne_eq_false_iff_eq, eqNums, Bool.and_true] at hc0; first | exact hc0 | omega) | simpa using hc0 | (simp at hc0 ⊢; omega)
    exact (VC.run (fn := Try.f47) (W := [.r [] [], .r [] [.op false, .op false, .op false, .op false, .op false, .sel 1, .op false, .op false, .op false, .op false, .op false, .sel 1, .op false, .op false, .op false, .op false, .op false, .sel 1, .op false, .op false, .op false, .op false, .op false, .sel 1, .op false, .op false, .op false, .op false, .op false, .sel 1, .op false, .op false, .op false, .op false, .op false, .sel 1], .br true, .r [] []]) (r := bv false) Try.func47 (by kernel_rfl) (.c hc0 <| .n)).weak (WeakL.refl _) (Weak.bool (show ((false) : Bool) = (nodEq a b) from (by (exact nodEq_false (by assumption)))))
  · have gc0 : (((((a.kd = b.kd ∧ a.na = b.na) ∧ a.nb = b.nb) ∧ a.nk = b.nk) ∧ a.ns = b.ns) ∧ a.np = b.np) ∧ a.no = b.no := by first | (simp only [Bool.or_eq_true, Bool.or_eq_false_iff, Bool.and_eq_true, Bool.and_eq_false_iff, Bool.not_eq_true', Bool.not_eq_false', decide_eq_true_eq, decide_eq_false_iff_not, beq_iff_eq, bne_iff_ne, ne_eq, beq_eq_false_iff_ne, bne_eq_false_iff_eq, eqNums, Bool.and_true] at hc0; first | exact hc0 | omega) | simpa using hc0 | (simp at hc0 ⊢; omega)
    have oz3 := @rsame8_v (a.w) (b.w) (by omega)
    have oz4 := @rsame32_v (a.b) (b.b) (by omega)
    exact (VC.run (fn := Try.f47) (W := [.r [] [], .r [] [.op false, .op false, .op false, .op false, .op false, .sel 1, .op false, .op false, .op false, .op false, .op false, .sel 1, .op false, .op false, .op false, .op false, .op false, .sel 1, .op false, .op false, .op false, .op false, .op false, .sel 1, .op false, .op false, .op false, .op false, .op false, .sel 1, .op false, .op false, .op false, .op false, .op false, .sel 1], .br false, .r [] [.op false, .op false, .op false, .op false, .op false, .sel 2, .op false, .op false, .op false, .op false, .op false, .sel 2, .op false, .op false, .op false, .op false, .op false, .sel 2, .op false, .op false, .op false, .op false, .op false, .v (Value.bool (eqNums [(IntKind.i32, a.qm, b.qm), (IntKind.i64, a.qs, b.qs), (IntKind.i8, a.qz, b.qz)])), .sel 2, .op false, .op false, .op false, .op false, .op false, .v (Value.bool (eqNums [(IntKind.i32, a.rm, b.rm), (IntKind.i64, a.rs, b.rs), (IntKind.i8, a.rz, b.rz)])), .sel 2, .op false, .op false, .op false, .op false, .op false, .callr (rO oz3), .sel 2, .op false, .op false, .op false, .op false, .op false, .callr (rO oz4), .sel 2]]) (r := bv (a.za == b.za && a.zb == b.zb && a.lo == b.lo && a.hi == b.hi && eqNums [(IntKind.i32, a.qm, b.qm), (IntKind.i64, a.qs, b.qs), (IntKind.i8, a.qz, b.qz)] && eqNums [(IntKind.i32, a.rm, b.rm), (IntKind.i64, a.rs, b.rs), (IntKind.i8, a.rz, b.rz)] && decide (a.w = b.w) && decide (a.b = b.b))) Try.func47 (by kernel_rfl) (.c hc0 <| .c (show BinTo Try.prog BinOp.eql 30 (Operand.tmp 80) (Operand.tmp 82) (Value.agg #[Value.int IntKind.i32 a.qm, Value.int IntKind.i64 a.qs, Value.int IntKind.i8 a.qz]) (Value.agg #[Value.int IntKind.i32 b.qm, Value.int IntKind.i64 b.qs, Value.int IntKind.i8 b.qz]) (Value.bool (eqNums [(IntKind.i32, a.qm, b.qm), (IntKind.i64, a.qs, b.qs), (IntKind.i8, a.qz, b.qz)])) from ((bin_nums (l := [(IntKind.i32, a.qm, b.qm), (IntKind.i64, a.qs, b.qs), (IntKind.i8, a.qz, b.qz)]) (by kernel_rfl) (by kernel_rfl) (by kernel_rfl) (by kernel_rfl) _ _).1)) <| .c (show BinTo Try.prog BinOp.eql 30 (Operand.tmp 87) (Operand.tmp 89) (Value.agg #[Value.int IntKind.i32 a.rm, Value.int IntKind.i64 a.rs, Value.int IntKind.i8 a.rz]) (Value.agg #[Value.int IntKind.i32 b.rm, Value.int IntKind.i64 b.rs, Value.int IntKind.i8 b.rz]) (Value.bool (eqNums [(IntKind.i32, a.rm, b.rm), (IntKind.i64, a.rs, b.rs), (IntKind.i8, a.rz, b.rz)])) from ((bin_nums (l := [(IntKind.i32, a.rm, b.rm), (IntKind.i64, a.rs, b.rs), (IntKind.i8, a.rz, b.rz)]) (by kernel_rfl) (by kernel_rfl) (by kernel_rfl) (by kernel_rfl) _ _).1)) <| .c oz3 <| .c oz4 <| .n)).weak (WeakL.refl _) (Weak.bool (show ((a.za == b.za && a.zb == b.zb && a.lo == b.lo && a.hi == b.hi && eqNums [(IntKind.i32, a.qm, b.qm), (IntKind.i64, a.qs, b.qs), (IntKind.i8, a.qz, b.qz)] && eqNums [(IntKind.i32, a.rm, b.rm), (IntKind.i64, a.rs, b.rs), (IntKind.i8, a.rz, b.rz)] && decide (a.w = b.w) && decide (a.b = b.b)) : Bool) = (nodEq a b) from (by (exact nodEq_rest (by assumption)))))
def nod0 : Nod := ⟨0, 0, 0, 0, 0, 0, 0, 0, 0, [], [], 0, 0, 0, 0, 0, 0, 0, 0⟩
set_option maxRecDepth 100000 in
set_option maxHeartbeats 2000000 in
theorem plain_n (n : Nod) (hk : In64 n.kd) (hn : n.kd < 1 ∨ 9 < n.kd) : VC Try.prog 46 ([nod n]) (.agg [i64 0, i64 0, i64 0, i64 0, i64 0, i64 0, i64 0, i8 0, i8 0, nilv, nilv, i32 0, i64 0, i8 0, i32 0, i64 0, i8 0, i8 0, i8 0]) := by
  have h2 := nameEq_out hn
  have oz0 := @name_v (n.kd) hk
  exact VC.run (fn := Try.f46) (W := [.r [] [], .r [] [.callr (rO oz0)], .br true, .r [] []]) Try.func46 (by kernel_rfl) (.c oz0 <| .c h2 <| .n)
theorem refSame_z : VC Try.prog 47 [.agg [i64 0, i64 0, i64 0, i64 0, i64 0, i64 0, i64 0, i8 0, i8 0, .sl 1 [], .sl 1 [], i32 0, i64 0, i8 0, i32 0, i64 0, i8 0, i8 0, i8 0], .agg [i64 0, i64 0, i64 0, i64 0, i64 0, i64 0, i64 0, i8 0, i8 0, .sl 1 [], .sl 1 [], i32 0, i64 0, i8 0, i32 0, i64 0, i8 0, i8 0, i8 0]] (bv true) :=
  VC.to (refSame_v nod0 nod0 (by decide) (by decide)) (by kernel_rfl)
set_option maxRecDepth 100000 in
set_option maxHeartbeats 2000000 in
theorem kindsPlain_n (n : Nod) (hk : In64 n.kd) (hn : n.kd < 1 ∨ 9 < n.kd) : VC Try.prog 12 ([nod n]) (bv true) := by
  have h2 := nameEq_out hn
  have oz0 := @fewK0_v (n)
  rcases Bool.eq_false_or_eq_true (!(decide (n.w.length ≤ 2000) && decide (n.b.length ≤ 200))) with hc0 | hc0
  · have gc0 : ¬n.w.length ≤ 2000 ∨ ¬n.b.length ≤ 200 := by first | (simp only [Bool.or_eq_true, Bool.or_eq_false_iff, Bool.and_eq_true, Bool.and_eq_false_iff, Bool.not_eq_true', Bool.not_eq_false', decide_eq_true_eq, decide_eq_false_iff_not, beq_iff_eq, bne_iff_ne, ne_eq, beq_eq_false_iff_ne, bne_eq_false_iff_eq, eqNums, Bool.and_true] at hc0; first | exact hc0 | omega) | simpa using hc0 | (simp at hc0 ⊢; omega)
    have oz2 := @known25_v
    exact VC.run (fn := Try.f12) (W := [.r [] [], .r [] [.callr (rO oz0)], .br true, .r [] [.callr (rO oz2)]]) Try.func12 (by kernel_rfl) (.c oz0 <| .c hc0 <| .c oz2 <| .n)
  · have gc0 : n.w.length ≤ 2000 ∧ n.b.length ≤ 200 := by first | (simp only [Bool.or_eq_true, Bool.or_eq_false_iff, Bool.and_eq_true, Bool.and_eq_false_iff, Bool.not_eq_true', Bool.not_eq_false', decide_eq_true_eq, decide_eq_false_iff_not, beq_iff_eq, bne_iff_ne, ne_eq, beq_eq_false_iff_ne, bne_eq_false_iff_eq, eqNums, Bool.and_true] at hc0; first | exact hc0 | omega) | simpa using hc0 | (simp at hc0 ⊢; omega)
    have oz2 := @plain_n (n) hk hn
    have oz3 := @refName_v (n.kd) hk
    have oz6 := @refSame_z
    have oz7 := (show true = true by with_reducible rfl)
    have oz8 := @known25_v
    exact VC.run (fn := Try.f12) (W := [.r [] [], .r [] [.callr (rO oz0)], .br false, .r [] [.callr (rO oz2)], .r [] [.callr (rO oz3)], .br true, .r [] [.call (aO oz6) (rO oz6), .br true, .callr (rO oz8), .br true]]) Try.func12 (by kernel_rfl) (.c oz0 <| .c hc0 <| .c oz2 <| .c oz3 <| .c h2 <| .c (show WeakL [AV.agg [i64 0, i64 0, i64 0, i64 0, i64 0, i64 0, i64 0, i8 0, i8 0, AV.lit (Value.slice none 0 0), AV.lit (Value.slice none 0 0), i32 0, i64 0, i8 0, i32 0, i64 0, i8 0, i8 0, i8 0], AV.agg [i64 0, i64 0, i64 0, i64 0, i64 0, i64 0, i64 0, i8 0, i8 0, AV.lit (Value.slice none 0 0), AV.lit (Value.slice none 0 0), i32 0, i64 0, i8 0, i32 0, i64 0, i8 0, i8 0, i8 0]] [AV.agg [i64 0, i64 0, i64 0, i64 0, i64 0, i64 0, i64 0, i8 0, i8 0, AV.sl 1 [], AV.sl 1 [], i32 0, i64 0, i8 0, i32 0, i64 0, i8 0, i8 0, i8 0], AV.agg [i64 0, i64 0, i64 0, i64 0, i64 0, i64 0, i64 0, i8 0, i8 0, AV.sl 1 [], AV.sl 1 [], i32 0, i64 0, i8 0, i32 0, i64 0, i8 0, i8 0, i8 0]] from (.cons (Weak.agg (.cons (.refl _) (.cons (.refl _) (.cons (.refl _) (.cons (.refl _) (.cons (.refl _) (.cons (.refl _) (.cons (.refl _) (.cons (.refl _) (.cons (.refl _) (.cons (Weak.nil _) (.cons (Weak.nil _) (.cons (.refl _) (.cons (.refl _) (.cons (.refl _) (.cons (.refl _) (.cons (.refl _) (.cons (.refl _) (.cons (.refl _) (.cons (.refl _) .nil)))))))))))))))))))) (.cons (Weak.agg (.cons (.refl _) (.cons (.refl _) (.cons (.refl _) (.cons (.refl _) (.cons (.refl _) (.cons (.refl _) (.cons (.refl _) (.cons (.refl _) (.cons (.refl _) (.cons (Weak.nil _) (.cons (Weak.nil _) (.cons (.refl _) (.cons (.refl _) (.cons (.refl _) (.cons (.refl _) (.cons (.refl _) (.cons (.refl _) (.cons (.refl _) (.cons (.refl _) .nil)))))))))))))))))))) .nil))) <| .c oz6 <| .c oz7 <| .c oz8 <| .c oz7 <| .n)
theorem plain_facts {n : Nod} (h0 : 1 ≤ n.kd) (h9 : n.kd ≤ 9) : (plainN n).kd = n.kd ∧ (plainN n).na = n.na ∧ (plainN n).w.length ≤ n.w.length ∧ (plainN n).b.length ≤ n.b.length ∧ plainN (plainN n) = plainN n := by
  have : n.kd = 1 ∨ n.kd = 2 ∨ n.kd = 3 ∨ n.kd = 4 ∨ n.kd = 5 ∨ n.kd = 6 ∨ n.kd = 7 ∨ n.kd = 8 ∨ n.kd = 9 := by omega
  rcases this with h | h | h | h | h | h | h | h | h <;> simp [plainN, h]
theorem plain_less {n : Nod} (h0 : 1 ≤ n.kd) (h9 : n.kd ≤ 9) : moreE (plainN n) = false := by
  have q := plain_facts h0 h9
  have h := more_iff (plainN n) (by omega) (by omega)
  rw [q.2.2.2.2, (nodEq_iff _ _).2 rfl] at h
  cases hm : moreE (plainN n) with
  | false => rfl
  | true => rw [hm] at h; cases h
theorem plain_same {n : Nod} (h0 : 1 ≤ n.kd) (h9 : n.kd ≤ 9) (h : moreE n = false) : nodEq (plainN n) n = true := by
  have h1 := more_iff n h0 h9
  rw [h] at h1
  rw [nodEq_iff]; exact ((nodEq_iff _ _).1 h1).symm
theorem plain_other {n : Nod} (h0 : 1 ≤ n.kd) (h9 : n.kd ≤ 9) (h : moreE n = true) : nodEq (plainN n) n = false := by
  have h1 := more_iff n h0 h9
  rw [h] at h1
  cases e : nodEq (plainN n) n with
  | false => rfl
  | true => rw [(nodEq_iff _ _).2 ((nodEq_iff _ _).1 e).symm] at h1; cases h1
theorem plain_code {n : Nod} (h0 : 1 ≤ n.kd) (h9 : n.kd ≤ 9) : (checkE (plainN n) != 2 || decide ((plainN n).lo > (plainN n).hi)) = true := by
  have q := plain_facts h0 h9
  have h := plain_less h0 h9
  rw [Bool.or_eq_true, bne_iff_ne, decide_eq_true_eq]
  unfold checkE
  rw [if_neg (by omega), if_neg (by simp [h])]
  split
  · left; decide
  · split
    · rename_i h1 h2
      simp only [Bool.and_eq_true, decide_eq_true_eq] at h2
      exact .inr h2.2
    · left; decide
set_option maxRecDepth 100000 in
set_option maxHeartbeats 2000000 in
theorem kindsPlain_y (n : Nod) (okn : n.Ok) (hk : 1 ≤ n.kd) (hk9 : n.kd ≤ 9) : VC Try.prog 12 ([nod n]) (bv true) := by
  have h1 := nameEq_in hk hk9
  have h2 := plain_less hk hk9
  obtain ⟨q1, q2, q3, q4, q5⟩ := plain_facts hk hk9
  have h3 := plain_same hk hk9
  have h4 := plain_other hk hk9
  have h5 := plain_code hk hk9
  have h6 := okn.kd
  have h7 := (nodEq_iff (plainN n) (plainN n)).2 rfl
  have oz0 := @fewK0_v (n)
  rcases Bool.eq_false_or_eq_true (!(decide (n.w.length ≤ 2000) && decide (n.b.length ≤ 200))) with hc0 | hc0
  · have gc0 : ¬n.w.length ≤ 2000 ∨ ¬n.b.length ≤ 200 := by first | (simp only [Bool.or_eq_true, Bool.or_eq_false_iff, Bool.and_eq_true, Bool.and_eq_false_iff, Bool.not_eq_true', Bool.not_eq_false', decide_eq_true_eq, decide_eq_false_iff_not, beq_iff_eq, bne_iff_ne, ne_eq, beq_eq_false_iff_ne, bne_eq_false_iff_eq, eqNums, Bool.and_true] at hc0; first | exact hc0 | omega) | simpa using hc0 | (simp at hc0 ⊢; omega)
    have oz2 := @known25_v
    exact VC.run (fn := Try.f12) (W := [.r [] [], .r [] [.callr (rO oz0)], .br true, .r [] [.callr (rO oz2)]]) Try.func12 (by kernel_rfl) (.c oz0 <| .c hc0 <| .c oz2 <| .n)
  · have gc0 : n.w.length ≤ 2000 ∧ n.b.length ≤ 200 := by first | (simp only [Bool.or_eq_true, Bool.or_eq_false_iff, Bool.and_eq_true, Bool.and_eq_false_iff, Bool.not_eq_true', Bool.not_eq_false', decide_eq_true_eq, decide_eq_false_iff_not, beq_iff_eq, bne_iff_ne, ne_eq, beq_eq_false_iff_ne, bne_eq_false_iff_eq, eqNums, Bool.and_true] at hc0; first | exact hc0 | omega) | simpa using hc0 | (simp at hc0 ⊢; omega)
    have oz2 := @plain_v (n) (by omega) (by omega) hk hk9
    have oz3 := @refName_v (n.kd) h6
    have oz5 := @refMore_v (plainN n) (by omega) (by omega)
    have oz6 := @plain_v (plainN n) (by omega) (by omega) (by omega) (by omega)
    have oz7 := @refSame_v (plainN (plainN n)) (plainN n) (by (rw [q5]; omega)) (by (rw [q5]; omega))
    have oz8 := (show ((plainN n).kd != n.kd || (plainN n).na != n.na || moreE (plainN n) || !nodEq (plainN (plainN n)) (plainN n)) = false by (rw [q1, q2, h2, q5, h7]; simp; done))
    have oz9 := @refMore_v (n) (by omega) (by omega)
    rcases Bool.eq_false_or_eq_true (!moreE n) with hc1 | hc1
    · have gc1 : moreE n = false := by first | exact hc1 | exact of_decide_eq_true hc1 | exact of_decide_eq_false hc1 | simpa [eqNums] using hc1 | (simp [eqNums] at hc1 ⊢; first | done | assumption | omega)
      have oz11 := @refSame_v (plainN n) (n) (by omega) (by omega)
      have oz12 := @known25_v
      exact (VC.run (fn := Try.f12) (W := [.r [] [], .r [] [.callr (rO oz0)], .br false, .r [] [.callr (rO oz2)], .r [] [.callr (rO oz3)], .br false, .r [] [.op false, .op false, .op false, .op false, .op false, .sel 1, .op false, .op false, .callr (rO oz5), .sel 1, .op false, .op false, .callr (rO oz6), .op false, .op false, .callr (rO oz7), .op false, .sel 1], .br false, .r [] [.callr (rO oz9)], .br true, .r [] [.callr (rO oz11), .op false, .callr (rO oz12), .sel 1]]) (r := bv (nodEq (plainN n) n || false)) Try.func12 (by kernel_rfl) (.c oz0 <| .c hc0 <| .c oz2 <| .c oz3 <| .c h1 <| .c oz5 <| .c oz6 <| .c oz7 <| .c oz8 <| .c oz9 <| .c hc1 <| .c oz11 <| .c oz12 <| .n)).weak (WeakL.refl _) (Weak.bool (show ((nodEq (plainN n) n || false) : Bool) = (true) from (by (simp_all; done))))
    · have gc1 : moreE n = true := by first | exact hc1 | exact of_decide_eq_true hc1 | exact of_decide_eq_false hc1 | simpa [eqNums] using hc1 | (simp [eqNums] at hc1 ⊢; first | done | assumption | omega)
      have oz11 := @check_v (plainN n) (by omega) (by omega) (by (refine ⟨?_, ?_⟩ <;> omega))
      have oz12 := @refSame_v (plainN n) (n) (by omega) (by omega)
      have oz13 := @known25_v
      exact (VC.run (fn := Try.f12) (W := [.r [] [], .r [] [.callr (rO oz0)], .br false, .r [] [.callr (rO oz2)], .r [] [.callr (rO oz3)], .br false, .r [] [.op false, .op false, .op false, .op false, .op false, .sel 1, .op false, .op false, .callr (rO oz5), .sel 1, .op false, .op false, .callr (rO oz6), .op false, .op false, .callr (rO oz7), .op false, .sel 1], .br false, .r [] [.callr (rO oz9)], .br false, .r [] [.callr (rO oz11)], .r [] [.callr (rO oz12), .op false, .op false, .op false, .op false, .op false, .op false, .op false, .op false, .op false, .sel 1, .sel 2, .op false, .callr (rO oz13), .sel 1]]) (r := bv (!nodEq (plainN n) n && (checkE (plainN n) != 2 || decide ((plainN n).lo > (plainN n).hi)) || false)) Try.func12 (by kernel_rfl) (.c oz0 <| .c hc0 <| .c oz2 <| .c oz3 <| .c h1 <| .c oz5 <| .c oz6 <| .c oz7 <| .c oz8 <| .c oz9 <| .c hc1 <| .c oz11 <| .c oz12 <| .c oz13 <| .n)).weak (WeakL.refl _) (Weak.bool (show ((!nodEq (plainN n) n && (checkE (plainN n) != 2 || decide ((plainN n).lo > (plainN n).hi)) || false) : Bool) = (true) from (by (simp_all; done))))
theorem kindsPlain_v (n : Nod) (okn : n.Ok) : VC Try.prog 12 [nod n] (bv true) := by
  by_cases h : n.kd < 1 ∨ 9 < n.kd
  · exact kindsPlain_n n okn.kd h
  · exact kindsPlain_y n okn (by omega) (by omega)
end Go.Proofs.Ytcegfkmelcjdhaa

