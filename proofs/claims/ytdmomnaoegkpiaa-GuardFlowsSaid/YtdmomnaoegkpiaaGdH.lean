/- Between which numbers all values of a block lie, by the document: the law. No condition. -/
import Derived.Test.YtdmomnaoegkpiaaGdG
import Derived.Test.YtdmomnaoegkpiaaFew
namespace Go.Proofs.Ytdmomnaoegkpiaa
open Go.RowKit
set_option linter.unusedSimpArgs false
set_option linter.unusedVariables false
set_option linter.unnecessarySimpa false

theorem rowsR_both (f : Nat → Rng) (n : Nat) : ∀ k, k < n → rowsR f (k + 1) = bothR ((List.range n).map f) (k + 1) := by
  have g : ∀ k, k < n → ((List.range n).map f).getD k default = f k := fun k hk => by
    rw [List.getD_eq_getElem?_getD, List.getElem?_map, List.getElem?_range hk]; rfl
  intro k
  induction k with
  | zero => intro h; rw [rowsR, if_pos rfl, bothR, bothR, g 0 h]
  | succ k ih => intro h; rw [rowsR, if_neg (by omega), ih (by omega), bothR.eq_2 _ (k + 1), g _ h]
theorem rowsR_spans {n : Nod} {a : Rng} (b0 : 0 < n.b.length) (h : sharedB n.w n.b = true) : rowsR (spRow n.w n.b a.lo a.hi n.za (decide (n.np > 0))) n.b.length = bothR (spansN n a) (spansN n a).length := by
  have e : spansN n a = (List.range n.b.length).map (spRow n.w n.b a.lo a.hi n.za (decide (n.np > 0))) := by unfold spansN allR; rw [if_pos h]
  rw [e, List.length_map, List.length_range]
  obtain ⟨m, hm⟩ : ∃ m, n.b.length = m + 1 := ⟨n.b.length - 1, by omega⟩
  rw [hm]; exact rowsR_both _ _ _ (by omega)
theorem sumE_s {n : Nod} {a : Rng} (h : sharedB n.w n.b = true) (hh : ((allR n.w n.b a.lo a.hi n.za (decide (n.np > 0)) n.b.length).all holdB) = true) : sumE n a = (afterE ⟨(rowsR (spRow n.w n.b a.lo a.hi n.za (decide (n.np > 0))) n.b.length).lo, (rowsR (spRow n.w n.b a.lo a.hi n.za (decide (n.np > 0))) n.b.length).hi⟩ n, 0) := by
  rw [sumE_y (by rw [if_pos h]; exact hh), ← rowsR_spans (hd_pos h) h]
theorem sumE_o {n : Nod} {a : Rng} (h : sharedB n.w n.b = true) (hh : ((allR n.w n.b a.lo a.hi n.za (decide (n.np > 0)) n.b.length).all holdB) = false) : sumE n a = (⟨0, 0⟩, 10) := by
  unfold sumE spansN; rw [if_pos h, if_neg (by rw [hh]; decide)]
theorem sumE_0 {n : Nod} {a : Rng} (h : sharedB n.w n.b = false) : sumE n a = (afterE ⟨0, 0⟩ n, 0) := by
  unfold sumE spansN; rw [h]; rfl
theorem nodeR_pad {n : Nod} {a b : Rng} (h1 : ¬ checkE n ≠ 0) (h2 : ¬ (a.lo > a.hi ∨ (n.kd = 6 ∧ b.lo > b.hi))) (h3 : n.kd = 8 ∧ n.np > 0) : nodeR n a b = (⟨min a.lo n.za, max a.hi n.za⟩, 0) := by
  unfold nodeR
  rw [if_neg h1, if_neg h2, if_neg (by omega), if_neg (by omega), if_neg (by omega), if_pos h3]
set_option maxRecDepth 100000 in
set_option maxHeartbeats 2000000 in
theorem refGNode_v (n : Nod) (a b : Rng) (ok : n.Ok) (ha : a.In8) (hb : b.In8) (wl : n.w.length ≤ 100000) (bl : n.b.length ≤ 100000) : VC Try.prog 22 ([nod n, rch a, rch b]) (.tup [rch (nodeR n a b).1, i64 (nodeR n a b).2]) := by
  have ok_kd := ok.kd
  have ok_za := ok.za
  have ok_w := ok.w
  have ok_b := ok.b
  obtain ⟨p1, p2⟩ := id ha
  obtain ⟨p3, p4⟩ := id hb
  have q1 := @hd_pos n.w n.b
  have q2 := @rows_all n.w n.b a.lo a.hi n.za (decide (n.np > 0))
  have oz0 := @refCheck_v (n) wl bl ok_kd
  rcases Bool.eq_false_or_eq_true (checkE n != 0) with hc0 | hc0
  · have gc0 : ¬checkE n = 0 := bdt hc0
    exact (VC.run (fn := Try.f22) (W := [.r [] [], .r [] [.callr (rO oz0)], .r [] [], .br true, .r [] []]) (r := AV.tup [AV.agg [i8 0, i8 0], i64 (checkE n)]) Try.func22 (by kernel_rfl) (.c oz0 <| .c hc0 <| .n)).weak (WeakL.refl _) (Weak.tup (.cons (Weak.agg (.cons (Weak.int (show ((0) : Int) = ((nodeR n a b).fst.lo) from (by (unfold nodeR; (repeat first | rw [if_pos (by omega)] | rw [if_neg (by omega)]))))) (.cons (Weak.int (show ((0) : Int) = ((nodeR n a b).fst.hi) from (by (unfold nodeR; (repeat first | rw [if_pos (by omega)] | rw [if_neg (by omega)]))))) .nil))) (.cons (Weak.int (show ((checkE n) : Int) = ((nodeR n a b).snd) from (by (unfold nodeR; (repeat first | rw [if_pos (by omega)] | rw [if_neg (by omega)]))))) .nil)))
  · have gc0 : checkE n = 0 := bdf hc0
    rcases Bool.eq_false_or_eq_true (decide (a.lo > a.hi) || n.kd == 6 && decide (b.lo > b.hi)) with hc1 | hc1
    · have gc1 : a.lo > a.hi ∨ n.kd = 6 ∧ b.lo > b.hi := by first | (simp only [Bool.or_eq_true, Bool.or_eq_false_iff, Bool.and_eq_true, Bool.and_eq_false_iff, Bool.not_eq_true', Bool.not_eq_false', decide_eq_true_eq, decide_eq_false_iff_not, beq_iff_eq, bne_iff_ne, ne_eq, beq_eq_false_iff_ne, bne_eq_false_iff_eq, eqNums, Bool.and_true] at hc1; first | exact hc1 | omega) | simpa using hc1 | (simp at hc1 ⊢; omega)
      exact (VC.run (fn := Try.f22) (W := [.r [] [], .r [] [.callr (rO oz0)], .r [] [], .br false, .r [] [.op false, .op false, .op false, .op false, .op false, .op false, .op false, .op false, .op false, .op false, .sel 2, .sel 1], .br true, .r [] []]) (r := AV.tup [AV.agg [i8 0, i8 0], i64 2]) Try.func22 (by kernel_rfl) (.c oz0 <| .c hc0 <| .c hc1 <| .n)).weak (WeakL.refl _) (Weak.tup (.cons (Weak.agg (.cons (Weak.int (show ((0) : Int) = ((nodeR n a b).fst.lo) from (by (unfold nodeR; (repeat first | rw [if_pos (by omega)] | rw [if_neg (by omega)]))))) (.cons (Weak.int (show ((0) : Int) = ((nodeR n a b).fst.hi) from (by (unfold nodeR; (repeat first | rw [if_pos (by omega)] | rw [if_neg (by omega)]))))) .nil))) (.cons (Weak.int (show ((2) : Int) = ((nodeR n a b).snd) from (by (unfold nodeR; (repeat first | rw [if_pos (by omega)] | rw [if_neg (by omega)]))))) .nil)))
    · have gc1 : ¬a.lo > a.hi ∧ (¬n.kd = 6 ∨ ¬b.lo > b.hi) := by first | (simp only [Bool.or_eq_true, Bool.or_eq_false_iff, Bool.and_eq_true, Bool.and_eq_false_iff, Bool.not_eq_true', Bool.not_eq_false', decide_eq_true_eq, decide_eq_false_iff_not, beq_iff_eq, bne_iff_ne, ne_eq, beq_eq_false_iff_ne, bne_eq_false_iff_eq, eqNums, Bool.and_true] at hc1; first | exact hc1 | omega) | simpa using hc1 | (simp at hc1 ⊢; omega)
      rcases Bool.eq_false_or_eq_true (n.kd == 1 || n.kd == 2 || n.kd == 3) with hc2 | hc2
      · have gc2 : (n.kd = 1 ∨ n.kd = 2) ∨ n.kd = 3 := by first | (simp only [Bool.or_eq_true, Bool.or_eq_false_iff, Bool.and_eq_true, Bool.and_eq_false_iff, Bool.not_eq_true', Bool.not_eq_false', decide_eq_true_eq, decide_eq_false_iff_not, beq_iff_eq, bne_iff_ne, ne_eq, beq_eq_false_iff_ne, bne_eq_false_iff_eq, eqNums, Bool.and_true] at hc2; first | exact hc2 | omega) | simpa using hc2 | (simp at hc2 ⊢; omega)
        have oz4 := @shared_v (n.w) (n.b) wl bl
        rcases Bool.eq_false_or_eq_true (sharedB n.w n.b) with hc3 | hc3
        · have gc3 : sharedB n.w n.b = true := by first | exact hc3 | exact of_decide_eq_true hc3 | exact of_decide_eq_false hc3 | simpa [eqNums] using hc3 | (simp [eqNums] at hc3 ⊢; first | done | assumption | omega)
          have oz6 := @rows_v (n.w) (n.b) (a.lo) (a.hi) (n.za) (decide (n.np > 0)) ok_w ok_b wl bl (by (exact q1 (by assumption))) p1 p2 ok_za
          rcases Bool.eq_false_or_eq_true (!(decide ((rowsR (spRow n.w n.b a.lo a.hi n.za (decide (n.np > 0))) n.b.length).lo ≥ -2147483648) && decide ((rowsR (spRow n.w n.b a.lo a.hi n.za (decide (n.np > 0))) n.b.length).hi ≤ 2147483647))) with hc4 | hc4
          · have gc4 : ¬(rowsR (spRow n.w n.b a.lo a.hi n.za (decide (n.np > 0))) n.b.length).lo ≥ -2147483648 ∨ ¬(rowsR (spRow n.w n.b a.lo a.hi n.za (decide (n.np > 0))) n.b.length).hi ≤ 2147483647 := by first | (simp only [Bool.or_eq_true, Bool.or_eq_false_iff, Bool.and_eq_true, Bool.and_eq_false_iff, Bool.not_eq_true', Bool.not_eq_false', decide_eq_true_eq, decide_eq_false_iff_not, beq_iff_eq, bne_iff_ne, ne_eq, beq_eq_false_iff_ne, bne_eq_false_iff_eq, eqNums, Bool.and_true] at hc4; first | exact hc4 | omega) | simpa using hc4 | (simp at hc4 ⊢; omega)
            exact (VC.run (fn := Try.f22) (W := [.r [] [], .r [] [.callr (rO oz0)], .r [] [], .br false, .r [] [.op false, .op false, .op false, .op false, .op false, .op false, .op false, .op false, .op false, .op false, .sel 2, .sel 1], .br false, .r [] [.op false, .op false, .op false, .sel 1, .op false, .op false, .op false, .sel 1], .br true, .r [] [], .r [] [.callr (rO oz4)], .br true, .r [] [.callr (rO oz6)], .r [] [], .br true, .r [] []]) (r := AV.tup [AV.agg [i8 0, i8 0], i64 10]) Try.func22 (by kernel_rfl) (.c oz0 <| .c hc0 <| .c hc1 <| .c hc2 <| .c oz4 <| .c hc3 <| .c oz6 <| .c hc4 <| .n)).weak (WeakL.refl _) (Weak.tup (.cons (Weak.agg (.cons (Weak.int (show ((0) : Int) = ((nodeR n a b).fst.lo) from (by (unfold nodeR; (repeat first | rw [if_pos (by omega)] | rw [if_neg (by omega)]); rw [sumE_o (by assumption) (by rw [← q2 (q1 (by assumption))]; simp_all)] <;> rfl)))) (.cons (Weak.int (show ((0) : Int) = ((nodeR n a b).fst.hi) from (by (unfold nodeR; (repeat first | rw [if_pos (by omega)] | rw [if_neg (by omega)]); rw [sumE_o (by assumption) (by rw [← q2 (q1 (by assumption))]; simp_all)] <;> rfl)))) .nil))) (.cons (Weak.int (show ((10) : Int) = ((nodeR n a b).snd) from (by (unfold nodeR; (repeat first | rw [if_pos (by omega)] | rw [if_neg (by omega)]); rw [sumE_o (by assumption) (by rw [← q2 (q1 (by assumption))]; simp_all)] <;> rfl)))) .nil)))
          · have gc4 : (rowsR (spRow n.w n.b a.lo a.hi n.za (decide (n.np > 0))) n.b.length).lo ≥ -2147483648 ∧ (rowsR (spRow n.w n.b a.lo a.hi n.za (decide (n.np > 0))) n.b.length).hi ≤ 2147483647 := by first | (simp only [Bool.or_eq_true, Bool.or_eq_false_iff, Bool.and_eq_true, Bool.and_eq_false_iff, Bool.not_eq_true', Bool.not_eq_false', decide_eq_true_eq, decide_eq_false_iff_not, beq_iff_eq, bne_iff_ne, ne_eq, beq_eq_false_iff_ne, bne_eq_false_iff_eq, eqNums, Bool.and_true] at hc4; first | exact hc4 | omega) | simpa using hc4 | (simp at hc4 ⊢; omega)
            have oz8 := @refAfter_v (rowsR (spRow n.w n.b a.lo a.hi n.za (decide (n.np > 0))) n.b.length) (n) ok
            exact (VC.run (fn := Try.f22) (W := [.r [] [], .r [] [.callr (rO oz0)], .r [] [], .br false, .r [] [.op false, .op false, .op false, .op false, .op false, .op false, .op false, .op false, .op false, .op false, .sel 2, .sel 1], .br false, .r [] [.op false, .op false, .op false, .sel 1, .op false, .op false, .op false, .sel 1], .br true, .r [] [], .r [] [.callr (rO oz4)], .br true, .r [] [.callr (rO oz6)], .r [] [], .br false, .r [] [.callr (rO oz8)], .r [] []]) (r := AV.tup [AV.agg [i8 (afterE (rowsR (spRow n.w n.b a.lo a.hi n.za (decide (n.np > 0))) n.b.length) n).lo, i8 (afterE (rowsR (spRow n.w n.b a.lo a.hi n.za (decide (n.np > 0))) n.b.length) n).hi], i64 0]) Try.func22 (by kernel_rfl) (.c oz0 <| .c hc0 <| .c hc1 <| .c hc2 <| .c oz4 <| .c hc3 <| .c oz6 <| .c hc4 <| .c oz8 <| .n)).weak (WeakL.refl _) (Weak.tup (.cons (Weak.agg (.cons (Weak.int (show (((afterE (rowsR (spRow n.w n.b a.lo a.hi n.za (decide (n.np > 0))) n.b.length) n).lo) : Int) = ((nodeR n a b).fst.lo) from (by (unfold nodeR; (repeat first | rw [if_pos (by omega)] | rw [if_neg (by omega)]); rw [sumE_s (by assumption) (by rw [← q2 (q1 (by assumption))]; simp_all)] <;> rfl)))) (.cons (Weak.int (show (((afterE (rowsR (spRow n.w n.b a.lo a.hi n.za (decide (n.np > 0))) n.b.length) n).hi) : Int) = ((nodeR n a b).fst.hi) from (by (unfold nodeR; (repeat first | rw [if_pos (by omega)] | rw [if_neg (by omega)]); rw [sumE_s (by assumption) (by rw [← q2 (q1 (by assumption))]; simp_all)] <;> rfl)))) .nil))) (.cons (Weak.int (show ((0) : Int) = ((nodeR n a b).snd) from (by (unfold nodeR; (repeat first | rw [if_pos (by omega)] | rw [if_neg (by omega)]); rw [sumE_s (by assumption) (by rw [← q2 (q1 (by assumption))]; simp_all)] <;> rfl)))) .nil)))
        · have gc3 : sharedB n.w n.b = false := by first | exact hc3 | exact of_decide_eq_true hc3 | exact of_decide_eq_false hc3 | simpa [eqNums] using hc3 | (simp [eqNums] at hc3 ⊢; first | done | assumption | omega)
          have oz7 := @refAfter_v (Rng.mk 0 0) (n) ok
          exact (VC.run (fn := Try.f22) (W := [.r [] [], .r [] [.callr (rO oz0)], .r [] [], .br false, .r [] [.op false, .op false, .op false, .op false, .op false, .op false, .op false, .op false, .op false, .op false, .sel 2, .sel 1], .br false, .r [] [.op false, .op false, .op false, .sel 1, .op false, .op false, .op false, .sel 1], .br true, .r [] [], .r [] [.callr (rO oz4)], .br false, .r [] [], .br false, .r [] [.callr (rO oz7)], .r [] []]) (r := AV.tup [AV.agg [i8 (afterE (Rng.mk 0 0) n).lo, i8 (afterE (Rng.mk 0 0) n).hi], i64 0]) Try.func22 (by kernel_rfl) (.c oz0 <| .c hc0 <| .c hc1 <| .c hc2 <| .c oz4 <| .c hc3 <| .c (show false = false by with_reducible rfl) <| .c oz7 <| .n)).weak (WeakL.refl _) (Weak.tup (.cons (Weak.agg (.cons (Weak.int (show (((afterE (Rng.mk 0 0) n).lo) : Int) = ((nodeR n a b).fst.lo) from (by (unfold nodeR; (repeat first | rw [if_pos (by omega)] | rw [if_neg (by omega)]); rw [sumE_0 (by assumption)] <;> rfl)))) (.cons (Weak.int (show (((afterE (Rng.mk 0 0) n).hi) : Int) = ((nodeR n a b).fst.hi) from (by (unfold nodeR; (repeat first | rw [if_pos (by omega)] | rw [if_neg (by omega)]); rw [sumE_0 (by assumption)] <;> rfl)))) .nil))) (.cons (Weak.int (show ((0) : Int) = ((nodeR n a b).snd) from (by (unfold nodeR; (repeat first | rw [if_pos (by omega)] | rw [if_neg (by omega)]); rw [sumE_0 (by assumption)] <;> rfl)))) .nil)))
      · have gc2 : (¬n.kd = 1 ∧ ¬n.kd = 2) ∧ ¬n.kd = 3 := by first | (simp only [Bool.or_eq_true, Bool.or_eq_false_iff, Bool.and_eq_true, Bool.and_eq_false_iff, Bool.not_eq_true', Bool.not_eq_false', decide_eq_true_eq, decide_eq_false_iff_not, beq_iff_eq, bne_iff_ne, ne_eq, beq_eq_false_iff_ne, bne_eq_false_iff_eq, eqNums, Bool.and_true] at hc2; first | exact hc2 | omega) | simpa using hc2 | (simp at hc2 ⊢; omega)
        rcases Bool.eq_false_or_eq_true (n.kd == 6) with hc3 | hc3
        · have gc3 : n.kd = 6 := bet hc3
          have oz5 := @refJoinOne_v (a.lo) (b.lo) (n) ok p1 p3
          have oz6 := @refJoinOne_v (a.hi) (b.hi) (n) ok p2 p4
          exact (VC.run (fn := Try.f22) (W := [.r [] [], .r [] [.callr (rO oz0)], .r [] [], .br false, .r [] [.op false, .op false, .op false, .op false, .op false, .op false, .op false, .op false, .op false, .op false, .sel 2, .sel 1], .br false, .r [] [.op false, .op false, .op false, .sel 1, .op false, .op false, .op false, .sel 1], .br false, .r [] [], .br true, .r [] [.callr (rO oz5), .callr (rO oz6)]]) (r := AV.tup [AV.agg [i8 (joinE a.lo b.lo n), i8 (joinE a.hi b.hi n)], i64 0]) Try.func22 (by kernel_rfl) (.c oz0 <| .c hc0 <| .c hc1 <| .c hc2 <| .c hc3 <| .c oz5 <| .c oz6 <| .n)).weak (WeakL.refl _) (Weak.tup (.cons (Weak.agg (.cons (Weak.int (show ((joinE a.lo b.lo n) : Int) = ((nodeR n a b).fst.lo) from (by (unfold nodeR; (repeat first | rw [if_pos (by omega)] | rw [if_neg (by omega)]))))) (.cons (Weak.int (show ((joinE a.hi b.hi n) : Int) = ((nodeR n a b).fst.hi) from (by (unfold nodeR; (repeat first | rw [if_pos (by omega)] | rw [if_neg (by omega)]))))) .nil))) (.cons (Weak.int (show ((0) : Int) = ((nodeR n a b).snd) from (by (unfold nodeR; (repeat first | rw [if_pos (by omega)] | rw [if_neg (by omega)]))))) .nil)))
        · have gc3 : ¬n.kd = 6 := bef hc3
          rcases Bool.eq_false_or_eq_true (n.kd == 7) with hc4 | hc4
          · have gc4 : n.kd = 7 := bet hc4
            have oz6 := @refActOne_v (a.lo) (n) ok p1
            have oz7 := @refActOne_v (a.hi) (n) ok p2
            exact (VC.run (fn := Try.f22) (W := [.r [] [], .r [] [.callr (rO oz0)], .r [] [], .br false, .r [] [.op false, .op false, .op false, .op false, .op false, .op false, .op false, .op false, .op false, .op false, .sel 2, .sel 1], .br false, .r [] [.op false, .op false, .op false, .sel 1, .op false, .op false, .op false, .sel 1], .br false, .r [] [], .br false, .r [] [], .br true, .r [] [.callr (rO oz6), .callr (rO oz7)]]) (r := AV.tup [AV.agg [i8 (oneN a.lo n), i8 (oneN a.hi n)], i64 0]) Try.func22 (by kernel_rfl) (.c oz0 <| .c hc0 <| .c hc1 <| .c hc2 <| .c hc3 <| .c hc4 <| .c oz6 <| .c oz7 <| .n)).weak (WeakL.refl _) (Weak.tup (.cons (Weak.agg (.cons (Weak.int (show ((oneN a.lo n) : Int) = ((nodeR n a b).fst.lo) from (by (unfold nodeR; (repeat first | rw [if_pos (by omega)] | rw [if_neg (by omega)]))))) (.cons (Weak.int (show ((oneN a.hi n) : Int) = ((nodeR n a b).fst.hi) from (by (unfold nodeR; (repeat first | rw [if_pos (by omega)] | rw [if_neg (by omega)]))))) .nil))) (.cons (Weak.int (show ((0) : Int) = ((nodeR n a b).snd) from (by (unfold nodeR; (repeat first | rw [if_pos (by omega)] | rw [if_neg (by omega)]))))) .nil)))
          · have gc4 : ¬n.kd = 7 := bef hc4
            rcases Bool.eq_false_or_eq_true (n.kd == 8 && decide (n.np > 0)) with hc5 | hc5
            · have gc5 : n.kd = 8 ∧ n.np > 0 := by first | (simp only [Bool.or_eq_true, Bool.or_eq_false_iff, Bool.and_eq_true, Bool.and_eq_false_iff, Bool.not_eq_true', Bool.not_eq_false', decide_eq_true_eq, decide_eq_false_iff_not, beq_iff_eq, bne_iff_ne, ne_eq, beq_eq_false_iff_ne, bne_eq_false_iff_eq, eqNums, Bool.and_true] at hc5; first | exact hc5 | omega) | simpa using hc5 | (simp at hc5 ⊢; omega)
              exact (VC.run (fn := Try.f22) (W := [.r [] [], .r [] [.callr (rO oz0)], .r [] [], .br false, .r [] [.op false, .op false, .op false, .op false, .op false, .op false, .op false, .op false, .op false, .op false, .sel 2, .sel 1], .br false, .r [] [.op false, .op false, .op false, .sel 1, .op false, .op false, .op false, .sel 1], .br false, .r [] [], .br false, .r [] [], .br false, .r [] [.op false, .op false, .op false, .sel 2], .br true, .r [] []]) (r := AV.tup [AV.agg [i8 (if n.za < a.lo then n.za else a.lo), i8 (if n.za > a.hi then n.za else a.hi)], i64 0]) Try.func22 (by kernel_rfl) (.c oz0 <| .c hc0 <| .c hc1 <| .c hc2 <| .c hc3 <| .c hc4 <| .c hc5 <| .n)).weak (WeakL.refl _) (Weak.tup (.cons (Weak.agg (.cons (Weak.int (show ((if n.za < a.lo then n.za else a.lo) : Int) = ((nodeR n a b).fst.lo) from (by (rw [nodeR_pad (by omega) (by omega) (by omega)]; dsimp only; omega)))) (.cons (Weak.int (show ((if n.za > a.hi then n.za else a.hi) : Int) = ((nodeR n a b).fst.hi) from (by (rw [nodeR_pad (by omega) (by omega) (by omega)]; dsimp only; omega)))) .nil))) (.cons (Weak.int (show ((0) : Int) = ((nodeR n a b).snd) from (by (unfold nodeR; (repeat first | rw [if_pos (by omega)] | rw [if_neg (by omega)]))))) .nil)))
            · have gc5 : ¬n.kd = 8 ∨ ¬n.np > 0 := by first | (simp only [Bool.or_eq_true, Bool.or_eq_false_iff, Bool.and_eq_true, Bool.and_eq_false_iff, Bool.not_eq_true', Bool.not_eq_false', decide_eq_true_eq, decide_eq_false_iff_not, beq_iff_eq, bne_iff_ne, ne_eq, beq_eq_false_iff_ne, bne_eq_false_iff_eq, eqNums, Bool.and_true] at hc5; first | exact hc5 | omega) | simpa using hc5 | (simp at hc5 ⊢; omega)
              exact (VC.run (fn := Try.f22) (W := [.r [] [], .r [] [.callr (rO oz0)], .r [] [], .br false, .r [] [.op false, .op false, .op false, .op false, .op false, .op false, .op false, .op false, .op false, .op false, .sel 2, .sel 1], .br false, .r [] [.op false, .op false, .op false, .sel 1, .op false, .op false, .op false, .sel 1], .br false, .r [] [], .br false, .r [] [], .br false, .r [] [.op false, .op false, .op false, .sel 2], .br false, .r [] []]) (r := AV.tup [AV.agg [i8 a.lo, i8 a.hi], i64 0]) Try.func22 (by kernel_rfl) (.c oz0 <| .c hc0 <| .c hc1 <| .c hc2 <| .c hc3 <| .c hc4 <| .c hc5 <| .n)).weak (WeakL.refl _) (Weak.tup (.cons (Weak.agg (.cons (Weak.int (show ((a.lo) : Int) = ((nodeR n a b).fst.lo) from (by (unfold nodeR; (repeat first | rw [if_pos (by omega)] | rw [if_neg (by omega)]))))) (.cons (Weak.int (show ((a.hi) : Int) = ((nodeR n a b).fst.hi) from (by (unfold nodeR; (repeat first | rw [if_pos (by omega)] | rw [if_neg (by omega)]))))) .nil))) (.cons (Weak.int (show ((0) : Int) = ((nodeR n a b).snd) from (by (unfold nodeR; (repeat first | rw [if_pos (by omega)] | rw [if_neg (by omega)]))))) .nil)))
theorem stepR_6 {n : Nod} {L : List Rng} (h : thereB n ((List.map rchC L).length : Int) = true) (h6 : n.kd = 6) : stepR n L = nodeR n (L.getD n.na.toNat default) (L.getD n.nb.toNat default) := by
  rw [List.length_map] at h
  unfold stepR; rw [if_pos h]; unfold secN; rw [if_pos h6]
theorem stepR_1 {n : Nod} {L : List Rng} (h : thereB n ((List.map rchC L).length : Int) = true) (h6 : ¬ n.kd = 6) : stepR n L = nodeR n (L.getD n.na.toNat default) (L.getD n.na.toNat default) := by
  rw [List.length_map] at h
  unfold stepR; rw [if_pos h]; unfold secN; rw [if_neg h6]
theorem stepR_0 {n : Nod} {L : List Rng} (h : thereB n ((List.map rchC L).length : Int) = false) : stepR n L = (⟨0, 0⟩, 8) := by
  rw [List.length_map] at h
  unfold stepR; rw [h]; rfl
theorem stepR_ok {n : Nod} {L : List Rng} (h : (stepR n L).2 = 0) : thereB n ((List.map rchC L).length : Int) = true := by
  cases e : thereB n ((List.map rchC L).length : Int) with
  | true => rfl
  | false => rw [stepR_0 e] at h; cases h
theorem stepR_at {n : Nod} {L : List Rng} (okL : ∀ r ∈ L, r.In8) (h : thereB n ((List.map rchC L).length : Int) = true) : (0 ≤ n.na ∧ n.na < L.length ∧ n.na.toNat < L.length ∧ (n.kd = 6 → 0 ≤ n.nb ∧ n.nb < L.length ∧ n.nb.toNat < L.length)) ∧ (L.getD n.na.toNat default).In8 ∧ (n.kd = 6 → (L.getD n.nb.toNat default).In8) := by
  rw [List.length_map] at h
  have h := there_iff.1 h
  have h6 : n.kd = 6 → secN n = n.nb := fun h => if_pos h
  refine ⟨⟨by omega, by omega, by omega, fun e => by have := h6 e; omega⟩, getD_in okL (by omega), fun e => getD_in okL (by have := h6 e; omega)⟩
noncomputable def rflow_ly_I (l : List Nod) (a : Rng) (k : Nat) : VS := stt 77 [(0, .sl 19 (l.map nodC)), (7, .own 900), (8, i64 k)] [(900, .slc 46 2 ((growL stepR l a k).map rchC))]
noncomputable def rflow_ly_Z (l : List Nod) (a : Rng) : VS := rflow_ly_I l a (l.length)
set_option maxRecDepth 100000 in
set_option maxHeartbeats 2000000 in
theorem rflow_ly_s (l : List Nod) (a : Rng) (okl : ∀ n ∈ l, n.Ok) (wl : ∀ n ∈ l, n.w.length ≤ 100000 ∧ n.b.length ≤ 100000) (ha : a.In8) (f8 : l.length ≤ 8) (h : ∀ k, k < l.length → errL stepR l a k = 0) (k : Nat) (hk : k < l.length) : VT Try.prog (fnC Try.f20 [1, 1, 1, 1, 1, 0, 1, 0, 0]) (rflow_ly_I l a k) .normal (rflow_ly_I l a (k + 1)) := by
  have q := h k hk
  have q1 := growL_len stepR l a k
  have q2 := flow_in okl ha (Nat.le_of_lt hk)
  have q3 := getD_in okl hk
  have q4 := getD_in wl hk
  obtain ⟨q5, q6⟩ := q4
  have q8 : (List.map rchC (growL stepR l a k)).length = (growL stepR l a k).length := List.length_map _
  unfold errL at q
  have qt := stepR_ok q
  obtain ⟨qa, qb, qc⟩ := stepR_at (n := l.getD k default) q2 qt
  have s6 := stepR_6 qt
  have s1 := stepR_1 qt
  have oz0 := (show decide ((↑k : Int) < (↑(List.map nodC l).length : Int)) = true by (simp; omega))
  have oz1 := (show 0 ≤ (↑k : Int) by omega)
  have oz2 := (map_at (nodC) (default) (l := l) (i := k) hk)
  have oz3 := @refThere_v (l.getD k default) ((↑(List.map rchC (growL stepR l a k)).length : Int))
  have oz4 := (show (!thereB (l.getD k default) (↑(List.map rchC (growL stepR l a k)).length : Int)) = false by (rw [qt]; rfl))
  have oz5 := (show 0 ≤ (l.getD k default).na by omega)
  have oz6 := (show (l.getD k default).na < (↑(List.map rchC (growL stepR l a k)).length : Int) by omega)
  have oz7 := (map_at (rchC) (default) (l := growL stepR l a k) (i := (l.getD k default).na.toNat) (by omega))
  rcases Bool.eq_false_or_eq_true ((l.getD k default).kd == 6) with hc0 | hc0
  · have gc0 : (l.getD k default).kd = 6 := bet hc0
    have oz11 := (map_at (rchC) (default) (l := growL stepR l a k) (i := (l.getD k default).nb.toNat) (by omega))
    have oz15 := @refGNode_v (l.getD k default) ((growL stepR l a k).getD (l.getD k default).na.toNat default) ((growL stepR l a k).getD (l.getD k default).nb.toNat default) q3 qb (by (exact qc (by omega))) q5 q6
    exact VT.run (W := [.r [] [], .br true, .r [] [.row (sO oz2)], .r [] [.callr (rO oz3)], .br false, .r [] [.row (sO oz7)], .r [] [], .br true, .r [] [.row (sO oz11)], .r [] [.row (sO oz7), .callr (rO oz15)], .r [] [], .br false, .r [] [], .r [] [.n ((↑k : Int) + 1)]]) (G := [.any (rg [(9, 4), (26, 15), (42, 26), (70, 4)]), .drop [9, 10, 11, 72], .ren 73 900, .weak 8 (i64 (↑(k + 1) : Int)), .blk 900 (Blk.slc 46 2 (List.map rchC (growL stepR l a (k + 1)))), .sort]) (by kernel_rfl) (.c oz0 <| .c oz1 <| .c oz2 <| .c oz3 <| .c oz4 <| .c oz5 <| .c oz6 <| .c oz7 <| .c hc0 <| .c (show 0 ≤ (l.getD k default).nb by omega) <| .c (show (l.getD k default).nb < (↑(List.map rchC (growL stepR l a k)).length : Int) by omega) <| .c oz11 <| .c oz5 <| .c oz6 <| .c oz7 <| .c oz15 <| .c (show ((nodeR (l.getD k default) ((growL stepR l a k).getD (l.getD k default).na.toNat default) ((growL stepR l a k).getD (l.getD k default).nb.toNat default)).snd != 0) = false by (rw [s6 (by omega)] at q; rw [q]; rfl)) <| .c (show ((List.map rchC (growL stepR l a k)).length + 1) * 2 ≤ 140737488355328 by omega) <| .c (show (List.map rchC (growL stepR l a k)).length + 1 ≤ 9223372036854775807 by omega) <| .c (IntWalk.i64_in ((↑k : Int) + 1) (by omega)) <| .c (Weak.int (k := .i64) (show (((↑k : Int) + 1) : Int) = ((↑(k + 1) : Int)) from (by omega))) <| .c (show BlkW (Blk.slc 46 2 (List.map rchC (growL stepR l a k) ++ [[i8 (nodeR (l.getD k default) ((growL stepR l a k).getD (l.getD k default).na.toNat default) ((growL stepR l a k).getD (l.getD k default).nb.toNat default)).fst.lo, i8 (nodeR (l.getD k default) ((growL stepR l a k).getD (l.getD k default).na.toNat default) ((growL stepR l a k).getD (l.getD k default).nb.toNat default)).fst.hi]])) (Blk.slc 46 2 (List.map rchC (growL stepR l a (k + 1)))) from (BlkW.rows (rows_to (rchC) (l := growL stepR l a k ++ [Rng.mk (nodeR (l.getD k default) ((growL stepR l a k).getD (l.getD k default).na.toNat default) ((growL stepR l a k).getD (l.getD k default).nb.toNat default)).1.lo (nodeR (l.getD k default) ((growL stepR l a k).getD (l.getD k default).na.toNat default) ((growL stepR l a k).getD (l.getD k default).nb.toNat default)).1.hi]) (m := growL stepR l a (k + 1)) (by simp only [List.map_append, List.map_cons, List.map_nil, List.map_set, List.map_replicate, List.map_take, List.map_drop]) (show (growL stepR l a k ++ [Rng.mk (nodeR (l.getD k default) ((growL stepR l a k).getD (l.getD k default).na.toNat default) ((growL stepR l a k).getD (l.getD k default).nb.toNat default)).1.lo (nodeR (l.getD k default) ((growL stepR l a k).getD (l.getD k default).na.toNat default) ((growL stepR l a k).getD (l.getD k default).nb.toNat default)).1.hi]) = (growL stepR l a (k + 1)) from (by (rw [growL, s6 (by omega)])))))) <| .n)
  · have gc0 : ¬(l.getD k default).kd = 6 := bef hc0
    have oz12 := @refGNode_v (l.getD k default) ((growL stepR l a k).getD (l.getD k default).na.toNat default) ((growL stepR l a k).getD (l.getD k default).na.toNat default) q3 qb qb q5 q6
    exact VT.run (W := [.r [] [], .br true, .r [] [.row (sO oz2)], .r [] [.callr (rO oz3)], .br false, .r [] [.row (sO oz7)], .r [] [], .br false, .r [] [.row (sO oz7), .callr (rO oz12)], .r [] [], .br false, .r [] [], .r [] [.n ((↑k : Int) + 1)]]) (G := [.any (rg [(9, 4), (26, 15), (42, 8), (55, 13), (70, 4)]), .drop [9, 10, 11, 72], .ren 73 900, .weak 8 (i64 (↑(k + 1) : Int)), .blk 900 (Blk.slc 46 2 (List.map rchC (growL stepR l a (k + 1)))), .sort]) (by kernel_rfl) (.c oz0 <| .c oz1 <| .c oz2 <| .c oz3 <| .c oz4 <| .c oz5 <| .c oz6 <| .c oz7 <| .c hc0 <| .c oz5 <| .c oz6 <| .c oz7 <| .c oz12 <| .c (show ((nodeR (l.getD k default) ((growL stepR l a k).getD (l.getD k default).na.toNat default) ((growL stepR l a k).getD (l.getD k default).na.toNat default)).snd != 0) = false by (rw [s1 (by omega)] at q; rw [q]; rfl)) <| .c (show ((List.map rchC (growL stepR l a k)).length + 1) * 2 ≤ 140737488355328 by omega) <| .c (show (List.map rchC (growL stepR l a k)).length + 1 ≤ 9223372036854775807 by omega) <| .c (IntWalk.i64_in ((↑k : Int) + 1) (by omega)) <| .c (Weak.int (k := .i64) (show (((↑k : Int) + 1) : Int) = ((↑(k + 1) : Int)) from (by omega))) <| .c (show BlkW (Blk.slc 46 2 (List.map rchC (growL stepR l a k) ++ [[i8 (nodeR (l.getD k default) ((growL stepR l a k).getD (l.getD k default).na.toNat default) ((growL stepR l a k).getD (l.getD k default).na.toNat default)).fst.lo, i8 (nodeR (l.getD k default) ((growL stepR l a k).getD (l.getD k default).na.toNat default) ((growL stepR l a k).getD (l.getD k default).na.toNat default)).fst.hi]])) (Blk.slc 46 2 (List.map rchC (growL stepR l a (k + 1)))) from (BlkW.rows (rows_to (rchC) (l := growL stepR l a k ++ [Rng.mk (nodeR (l.getD k default) ((growL stepR l a k).getD (l.getD k default).na.toNat default) ((growL stepR l a k).getD (l.getD k default).na.toNat default)).1.lo (nodeR (l.getD k default) ((growL stepR l a k).getD (l.getD k default).na.toNat default) ((growL stepR l a k).getD (l.getD k default).na.toNat default)).1.hi]) (m := growL stepR l a (k + 1)) (by simp only [List.map_append, List.map_cons, List.map_nil, List.map_set, List.map_replicate, List.map_take, List.map_drop]) (show (growL stepR l a k ++ [Rng.mk (nodeR (l.getD k default) ((growL stepR l a k).getD (l.getD k default).na.toNat default) ((growL stepR l a k).getD (l.getD k default).na.toNat default)).1.lo (nodeR (l.getD k default) ((growL stepR l a k).getD (l.getD k default).na.toNat default) ((growL stepR l a k).getD (l.getD k default).na.toNat default)).1.hi]) = (growL stepR l a (k + 1)) from (by (rw [growL, s1 (by omega)])))))) <| .n)
set_option maxRecDepth 100000 in
set_option maxHeartbeats 2000000 in
theorem rflow_ly_e (l : List Nod) (a : Rng) (okl : ∀ n ∈ l, n.Ok) (wl : ∀ n ∈ l, n.w.length ≤ 100000 ∧ n.b.length ≤ 100000) (ha : a.In8) (f8 : l.length ≤ 8) (h : ∀ k, k < l.length → errL stepR l a k = 0) : VT Try.prog (fnC Try.f20 [1, 1, 1, 1, 1, 0, 1, 0, 0]) (rflow_ly_I l a (l.length)) (.exit 0) (rflow_ly_Z l a) := by
  exact VT.run (W := [.r [] [], .br false]) (G := [.any (rg [(26, 4)]), .sort]) (by kernel_rfl) (.c (show decide ((↑l.length : Int) < (↑(List.map nodC l).length : Int)) = false by (simp; done)) <| .n)
theorem rflow_ly (l : List Nod) (a : Rng) (okl : ∀ n ∈ l, n.Ok) (wl : ∀ n ∈ l, n.w.length ≤ 100000 ∧ n.b.length ≤ 100000) (ha : a.In8) (f8 : l.length ≤ 8) (h : ∀ k, k < l.length → errL stepR l a k = 0) : VT Try.prog (fnC Try.f20 [1, 1, 1, 1, 1, 0, 1, 0]) (rflow_ly_I l a 0) (.exit 0) (rflow_ly_Z l a) :=
  VT.loop (fun k => rflow_ly_I l a k) (l.length) (fun k hk => rflow_ly_s l a okl wl ha f8 h k hk) (rflow_ly_e l a okl wl ha f8 h) (by intro h; cases h)

noncomputable def rflow_ln_I (l : List Nod) (a : Rng) (m : Nat) (k : Nat) : VS := stt 77 [(0, .sl 19 (l.map nodC)), (7, .own 900), (8, i64 k)] [(900, .slc 46 2 ((growL stepR l a k).map rchC))]
noncomputable def rflow_ln_Z (l : List Nod) (a : Rng) (m : Nat) : VS := stt 77 [(4, nilv), (5, i64 m), (6, i64 (errL stepR l a m))] []
set_option maxRecDepth 100000 in
set_option maxHeartbeats 2000000 in
theorem rflow_ln_s (l : List Nod) (a : Rng) (m : Nat) (okl : ∀ n ∈ l, n.Ok) (wl : ∀ n ∈ l, n.w.length ≤ 100000 ∧ n.b.length ≤ 100000) (ha : a.In8) (f8 : l.length ≤ 8) (hm : m < l.length) (hf : errL stepR l a m ≠ 0) (h : ∀ k, k < m → errL stepR l a k = 0) (k : Nat) (hk : k < m) : VT Try.prog (fnC Try.f20 [1, 1, 1, 1, 1, 0, 1, 0, 0]) (rflow_ln_I l a m k) .normal (rflow_ln_I l a m (k + 1)) := by
  have q := h k hk
  have q1 := growL_len stepR l a k
  have q2 := flow_in okl ha (show k ≤ l.length by omega)
  have q3 := getD_in okl (show k < l.length by omega)
  have q4 := getD_in wl (show k < l.length by omega)
  obtain ⟨q5, q6⟩ := q4
  have q8 : (List.map rchC (growL stepR l a k)).length = (growL stepR l a k).length := List.length_map _
  unfold errL at q
  have qt := stepR_ok q
  obtain ⟨qa, qb, qc⟩ := stepR_at (n := l.getD k default) q2 qt
  have s6 := stepR_6 qt
  have s1 := stepR_1 qt
  have oz0 := (show decide ((↑k : Int) < (↑(List.map nodC l).length : Int)) = true by (simp; omega))
  have oz1 := (show 0 ≤ (↑k : Int) by omega)
  have oz2 := (map_at (nodC) (default) (l := l) (i := k) (by omega))
  have oz3 := @refThere_v (l.getD k default) ((↑(List.map rchC (growL stepR l a k)).length : Int))
  have oz4 := (show (!thereB (l.getD k default) (↑(List.map rchC (growL stepR l a k)).length : Int)) = false by (rw [qt]; rfl))
  have oz5 := (show 0 ≤ (l.getD k default).na by omega)
  have oz6 := (show (l.getD k default).na < (↑(List.map rchC (growL stepR l a k)).length : Int) by omega)
  have oz7 := (map_at (rchC) (default) (l := growL stepR l a k) (i := (l.getD k default).na.toNat) (by omega))
  rcases Bool.eq_false_or_eq_true ((l.getD k default).kd == 6) with hc0 | hc0
  · have gc0 : (l.getD k default).kd = 6 := bet hc0
    have oz11 := (map_at (rchC) (default) (l := growL stepR l a k) (i := (l.getD k default).nb.toNat) (by omega))
    have oz15 := @refGNode_v (l.getD k default) ((growL stepR l a k).getD (l.getD k default).na.toNat default) ((growL stepR l a k).getD (l.getD k default).nb.toNat default) q3 qb (by (exact qc (by omega))) q5 q6
    exact VT.run (W := [.r [] [], .br true, .r [] [.row (sO oz2)], .r [] [.callr (rO oz3)], .br false, .r [] [.row (sO oz7)], .r [] [], .br true, .r [] [.row (sO oz11)], .r [] [.row (sO oz7), .callr (rO oz15)], .r [] [], .br false, .r [] [], .r [] [.n ((↑k : Int) + 1)]]) (G := [.any (rg [(9, 4), (26, 15), (42, 26), (70, 4)]), .drop [9, 10, 11, 72], .ren 73 900, .weak 8 (i64 (↑(k + 1) : Int)), .blk 900 (Blk.slc 46 2 (List.map rchC (growL stepR l a (k + 1)))), .sort]) (by kernel_rfl) (.c oz0 <| .c oz1 <| .c oz2 <| .c oz3 <| .c oz4 <| .c oz5 <| .c oz6 <| .c oz7 <| .c hc0 <| .c (show 0 ≤ (l.getD k default).nb by omega) <| .c (show (l.getD k default).nb < (↑(List.map rchC (growL stepR l a k)).length : Int) by omega) <| .c oz11 <| .c oz5 <| .c oz6 <| .c oz7 <| .c oz15 <| .c (show ((nodeR (l.getD k default) ((growL stepR l a k).getD (l.getD k default).na.toNat default) ((growL stepR l a k).getD (l.getD k default).nb.toNat default)).snd != 0) = false by (rw [s6 (by omega)] at q; rw [q]; rfl)) <| .c (show ((List.map rchC (growL stepR l a k)).length + 1) * 2 ≤ 140737488355328 by omega) <| .c (show (List.map rchC (growL stepR l a k)).length + 1 ≤ 9223372036854775807 by omega) <| .c (IntWalk.i64_in ((↑k : Int) + 1) (by omega)) <| .c (Weak.int (k := .i64) (show (((↑k : Int) + 1) : Int) = ((↑(k + 1) : Int)) from (by omega))) <| .c (show BlkW (Blk.slc 46 2 (List.map rchC (growL stepR l a k) ++ [[i8 (nodeR (l.getD k default) ((growL stepR l a k).getD (l.getD k default).na.toNat default) ((growL stepR l a k).getD (l.getD k default).nb.toNat default)).fst.lo, i8 (nodeR (l.getD k default) ((growL stepR l a k).getD (l.getD k default).na.toNat default) ((growL stepR l a k).getD (l.getD k default).nb.toNat default)).fst.hi]])) (Blk.slc 46 2 (List.map rchC (growL stepR l a (k + 1)))) from (BlkW.rows (rows_to (rchC) (l := growL stepR l a k ++ [Rng.mk (nodeR (l.getD k default) ((growL stepR l a k).getD (l.getD k default).na.toNat default) ((growL stepR l a k).getD (l.getD k default).nb.toNat default)).1.lo (nodeR (l.getD k default) ((growL stepR l a k).getD (l.getD k default).na.toNat default) ((growL stepR l a k).getD (l.getD k default).nb.toNat default)).1.hi]) (m := growL stepR l a (k + 1)) (by simp only [List.map_append, List.map_cons, List.map_nil, List.map_set, List.map_replicate, List.map_take, List.map_drop]) (show (growL stepR l a k ++ [Rng.mk (nodeR (l.getD k default) ((growL stepR l a k).getD (l.getD k default).na.toNat default) ((growL stepR l a k).getD (l.getD k default).nb.toNat default)).1.lo (nodeR (l.getD k default) ((growL stepR l a k).getD (l.getD k default).na.toNat default) ((growL stepR l a k).getD (l.getD k default).nb.toNat default)).1.hi]) = (growL stepR l a (k + 1)) from (by (rw [growL, s6 (by omega)])))))) <| .n)
  · have gc0 : ¬(l.getD k default).kd = 6 := bef hc0
    have oz12 := @refGNode_v (l.getD k default) ((growL stepR l a k).getD (l.getD k default).na.toNat default) ((growL stepR l a k).getD (l.getD k default).na.toNat default) q3 qb qb q5 q6
    exact VT.run (W := [.r [] [], .br true, .r [] [.row (sO oz2)], .r [] [.callr (rO oz3)], .br false, .r [] [.row (sO oz7)], .r [] [], .br false, .r [] [.row (sO oz7), .callr (rO oz12)], .r [] [], .br false, .r [] [], .r [] [.n ((↑k : Int) + 1)]]) (G := [.any (rg [(9, 4), (26, 15), (42, 8), (55, 13), (70, 4)]), .drop [9, 10, 11, 72], .ren 73 900, .weak 8 (i64 (↑(k + 1) : Int)), .blk 900 (Blk.slc 46 2 (List.map rchC (growL stepR l a (k + 1)))), .sort]) (by kernel_rfl) (.c oz0 <| .c oz1 <| .c oz2 <| .c oz3 <| .c oz4 <| .c oz5 <| .c oz6 <| .c oz7 <| .c hc0 <| .c oz5 <| .c oz6 <| .c oz7 <| .c oz12 <| .c (show ((nodeR (l.getD k default) ((growL stepR l a k).getD (l.getD k default).na.toNat default) ((growL stepR l a k).getD (l.getD k default).na.toNat default)).snd != 0) = false by (rw [s1 (by omega)] at q; rw [q]; rfl)) <| .c (show ((List.map rchC (growL stepR l a k)).length + 1) * 2 ≤ 140737488355328 by omega) <| .c (show (List.map rchC (growL stepR l a k)).length + 1 ≤ 9223372036854775807 by omega) <| .c (IntWalk.i64_in ((↑k : Int) + 1) (by omega)) <| .c (Weak.int (k := .i64) (show (((↑k : Int) + 1) : Int) = ((↑(k + 1) : Int)) from (by omega))) <| .c (show BlkW (Blk.slc 46 2 (List.map rchC (growL stepR l a k) ++ [[i8 (nodeR (l.getD k default) ((growL stepR l a k).getD (l.getD k default).na.toNat default) ((growL stepR l a k).getD (l.getD k default).na.toNat default)).fst.lo, i8 (nodeR (l.getD k default) ((growL stepR l a k).getD (l.getD k default).na.toNat default) ((growL stepR l a k).getD (l.getD k default).na.toNat default)).fst.hi]])) (Blk.slc 46 2 (List.map rchC (growL stepR l a (k + 1)))) from (BlkW.rows (rows_to (rchC) (l := growL stepR l a k ++ [Rng.mk (nodeR (l.getD k default) ((growL stepR l a k).getD (l.getD k default).na.toNat default) ((growL stepR l a k).getD (l.getD k default).na.toNat default)).1.lo (nodeR (l.getD k default) ((growL stepR l a k).getD (l.getD k default).na.toNat default) ((growL stepR l a k).getD (l.getD k default).na.toNat default)).1.hi]) (m := growL stepR l a (k + 1)) (by simp only [List.map_append, List.map_cons, List.map_nil, List.map_set, List.map_replicate, List.map_take, List.map_drop]) (show (growL stepR l a k ++ [Rng.mk (nodeR (l.getD k default) ((growL stepR l a k).getD (l.getD k default).na.toNat default) ((growL stepR l a k).getD (l.getD k default).na.toNat default)).1.lo (nodeR (l.getD k default) ((growL stepR l a k).getD (l.getD k default).na.toNat default) ((growL stepR l a k).getD (l.getD k default).na.toNat default)).1.hi]) = (growL stepR l a (k + 1)) from (by (rw [growL, s1 (by omega)])))))) <| .n)
set_option maxRecDepth 100000 in
set_option maxHeartbeats 2000000 in
theorem rflow_ln_e (l : List Nod) (a : Rng) (m : Nat) (okl : ∀ n ∈ l, n.Ok) (wl : ∀ n ∈ l, n.w.length ≤ 100000 ∧ n.b.length ≤ 100000) (ha : a.In8) (f8 : l.length ≤ 8) (hm : m < l.length) (hf : errL stepR l a m ≠ 0) (h : ∀ k, k < m → errL stepR l a k = 0) : VT Try.prog (fnC Try.f20 [1, 1, 1, 1, 1, 0, 1, 0, 0]) (rflow_ln_I l a m (m)) (.ret) (rflow_ln_Z l a m) := by
  have q1 := growL_len stepR l a m
  have q2 := flow_in okl ha (Nat.le_of_lt hm)
  have q3 := getD_in okl hm
  have q4 := getD_in wl hm
  obtain ⟨q5, q6⟩ := q4
  have q8 : (List.map rchC (growL stepR l a m)).length = (growL stepR l a m).length := List.length_map _
  have qa := fun h => stepR_at (n := l.getD m default) q2 h
  have s6 := @stepR_6 (l.getD m default) (growL stepR l a m)
  have s1 := @stepR_1 (l.getD m default) (growL stepR l a m)
  have s0 := @stepR_0 (l.getD m default) (growL stepR l a m)
  have q : errL stepR l a m = (stepR (l.getD m default) (growL stepR l a m)).2 := rfl
  unfold errL at hf
  have oz0 := (show decide ((↑m : Int) < (↑(List.map nodC l).length : Int)) = true by (simp; omega))
  have oz1 := (show 0 ≤ (↑m : Int) by omega)
  have oz2 := (map_at (nodC) (default) (l := l) (i := m) hm)
  have oz3 := @refThere_v (l.getD m default) ((↑(List.map rchC (growL stepR l a m)).length : Int))
  rcases Bool.eq_false_or_eq_true (!thereB (l.getD m default) (↑(List.map rchC (growL stepR l a m)).length : Int)) with hc0 | hc0
  · have gc0 : thereB (l.getD m default) (↑(List.map rchC (growL stepR l a m)).length : Int) = false := by first | exact hc0 | exact of_decide_eq_true hc0 | exact of_decide_eq_false hc0 | simpa [eqNums] using hc0 | (simp [eqNums] at hc0 ⊢; first | done | assumption | omega)
    exact VT.run (W := [.r [] [], .br true, .r [] [.row (sO oz2)], .r [] [.callr (rO oz3)], .br true, .r [] []]) (G := [.any (rg [(0, 1), (7, 3), (26, 4), (32, 10)]), .drop [900, 9], .weak 6 (i64 (errL stepR l a m)), .sort]) (by kernel_rfl) (.c oz0 <| .c oz1 <| .c oz2 <| .c oz3 <| .c hc0 <| .c (Weak.int (k := .i64) (show ((8) : Int) = (errL stepR l a m) from (by (rw [q, s0 (by simp_all)])))) <| .n)
  · have gc0 : thereB (l.getD m default) (↑(List.map rchC (growL stepR l a m)).length : Int) = true := by first | exact hc0 | exact of_decide_eq_true hc0 | exact of_decide_eq_false hc0 | simpa [eqNums] using hc0 | (simp [eqNums] at hc0 ⊢; first | done | assumption | omega)
    have oz5 := (show 0 ≤ (l.getD m default).na by (have := qa (by assumption); omega))
    have oz6 := (show (l.getD m default).na < (↑(List.map rchC (growL stepR l a m)).length : Int) by (have := qa (by assumption); omega))
    have oz7 := (map_at (rchC) (default) (l := growL stepR l a m) (i := (l.getD m default).na.toNat) (by (have := qa (by assumption); omega)))
    rcases Bool.eq_false_or_eq_true ((l.getD m default).kd == 6) with hc1 | hc1
    · have gc1 : (l.getD m default).kd = 6 := bet hc1
      have oz11 := (map_at (rchC) (default) (l := growL stepR l a m) (i := (l.getD m default).nb.toNat) (by (have := qa (by assumption); omega)))
      have oz15 := @refGNode_v (l.getD m default) ((growL stepR l a m).getD (l.getD m default).na.toNat default) ((growL stepR l a m).getD (l.getD m default).nb.toNat default) q3 (by (have := qa (by assumption); exact this.2.1)) (by (have := qa (by assumption); exact this.2.2 (by omega))) q5 q6
      have oz17 := (Weak.int (k := .i64) (show (((nodeR (l.getD m default) ((growL stepR l a m).getD (l.getD m default).na.toNat default) ((growL stepR l a m).getD (l.getD m default).nb.toNat default)).snd) : Int) = (errL stepR l a m) from (by (rw [q, s6 (by assumption) (by omega)]))))
      exact VT.run (W := [.r [] [], .br true, .r [] [.row (sO oz2)], .r [] [.callr (rO oz3)], .br false, .r [] [.row (sO oz7)], .r [] [], .br true, .r [] [.row (sO oz11)], .r [] [.row (sO oz7), .callr (rO oz15)], .r [] [], .br true, .r [] []]) (G := [.any (rg [(0, 1), (7, 6), (26, 4), (32, 9), (42, 28)]), .drop [900, 9, 10, 11], .weak 6 (wO oz17), .sort]) (by kernel_rfl) (.c oz0 <| .c oz1 <| .c oz2 <| .c oz3 <| .c hc0 <| .c oz5 <| .c oz6 <| .c oz7 <| .c hc1 <| .c (show 0 ≤ (l.getD m default).nb by (have := qa (by assumption); omega)) <| .c (show (l.getD m default).nb < (↑(List.map rchC (growL stepR l a m)).length : Int) by (have := qa (by assumption); omega)) <| .c oz11 <| .c oz5 <| .c oz6 <| .c oz7 <| .c oz15 <| .c (show ((nodeR (l.getD m default) ((growL stepR l a m).getD (l.getD m default).na.toNat default) ((growL stepR l a m).getD (l.getD m default).nb.toNat default)).snd != 0) = true by (rw [s6 (by assumption) (by omega)] at hf; rw [bne_iff_ne]; exact hf)) <| .c oz17 <| .n)
    · have gc1 : ¬(l.getD m default).kd = 6 := bef hc1
      have oz12 := @refGNode_v (l.getD m default) ((growL stepR l a m).getD (l.getD m default).na.toNat default) ((growL stepR l a m).getD (l.getD m default).na.toNat default) q3 (by (have := qa (by assumption); exact this.2.1)) (by (have := qa (by assumption); exact this.2.1)) q5 q6
      have oz14 := (Weak.int (k := .i64) (show (((nodeR (l.getD m default) ((growL stepR l a m).getD (l.getD m default).na.toNat default) ((growL stepR l a m).getD (l.getD m default).na.toNat default)).snd) : Int) = (errL stepR l a m) from (by (rw [q, s1 (by assumption) (by omega)]))))
      exact VT.run (W := [.r [] [], .br true, .r [] [.row (sO oz2)], .r [] [.callr (rO oz3)], .br false, .r [] [.row (sO oz7)], .r [] [], .br false, .r [] [.row (sO oz7), .callr (rO oz12)], .r [] [], .br true, .r [] []]) (G := [.any (rg [(0, 1), (7, 6), (26, 4), (32, 9), (42, 8), (55, 15)]), .drop [900, 9, 10, 11], .weak 6 (wO oz14), .sort]) (by kernel_rfl) (.c oz0 <| .c oz1 <| .c oz2 <| .c oz3 <| .c hc0 <| .c oz5 <| .c oz6 <| .c oz7 <| .c hc1 <| .c oz5 <| .c oz6 <| .c oz7 <| .c oz12 <| .c (show ((nodeR (l.getD m default) ((growL stepR l a m).getD (l.getD m default).na.toNat default) ((growL stepR l a m).getD (l.getD m default).na.toNat default)).snd != 0) = true by (rw [s1 (by assumption) (by omega)] at hf; rw [bne_iff_ne]; exact hf)) <| .c oz14 <| .n)
theorem rflow_ln (l : List Nod) (a : Rng) (m : Nat) (okl : ∀ n ∈ l, n.Ok) (wl : ∀ n ∈ l, n.w.length ≤ 100000 ∧ n.b.length ≤ 100000) (ha : a.In8) (f8 : l.length ≤ 8) (hm : m < l.length) (hf : errL stepR l a m ≠ 0) (h : ∀ k, k < m → errL stepR l a k = 0) : VT Try.prog (fnC Try.f20 [1, 1, 1, 1, 1, 0, 1, 0]) (rflow_ln_I l a m 0) (.ret) (rflow_ln_Z l a m) :=
  VT.loop (fun k => rflow_ln_I l a m k) (m) (fun k hk => rflow_ln_s l a m okl wl ha f8 hm hf h k hk) (rflow_ln_e l a m okl wl ha f8 hm hf h) (by intro h; cases h)

set_option maxRecDepth 100000 in
set_option maxHeartbeats 2000000 in
theorem rflow_y (l : List Nod) (a : Rng) (okl : ∀ n ∈ l, n.Ok) (wl : ∀ n ∈ l, n.w.length ≤ 100000 ∧ n.b.length ≤ 100000) (ha : a.In8) (h : FOK l a) : VC Try.prog 20 ([.sl 19 (l.map nodC), rch a]) (.tup [.sl 2 ((growL stepR l a l.length).map rchC), i64 l.length, i64 0]) := by
  obtain ⟨q2, q3, q1, q4⟩ := id h
  have oz4 := @rflow_ly (l) (a) okl wl ha q3 q4
  exact (VC.run (fn := Try.f20) (W := [.r [] [], .r [] [], .br false, .r [] [], .br false, .r [] [], .br false, .r [] [], .r [] [], .code [.any (rg [(1, 1), (3, 4), (13, 13)]), .drop [3], .ren 25 900, .weak 8 (i64 (↑0 : Int)), .sort] (Exit.exit 0) (zO oz4), .r [] []]) (r := AV.tup [AV.sl 2 (List.map rchC (growL stepR l a l.length)), i64 (↑(List.map nodC l).length : Int), i64 0]) Try.func20 (by kernel_rfl) (.c (show ((↑(List.map nodC l).length : Int) == 0) = false by (simp only [decide_eq_true_eq, decide_eq_false_iff_not, beq_iff_eq, bne_iff_ne, ne_eq, beq_eq_false_iff_ne, bne_eq_false_iff_eq, Bool.not_eq_true', Bool.not_eq_false', Bool.not_eq_eq_eq_not, Bool.not_true, Bool.not_false, Classical.not_not, Int.not_lt, Int.not_le, Bool.and_eq_true, Bool.and_eq_false_iff, Bool.or_eq_true, Bool.or_eq_false_iff, Bool.and_true, Bool.true_and, Bool.and_false, Bool.false_and, Bool.or_false, Bool.false_or, eqNums, List.length_map, List.length_append, List.length_cons, List.length_nil, List.length_set, List.length_replicate, List.length_take, List.length_drop, List.length_range, Int.toNat_natCast, Nat.zero_add, List.map_eq_nil_iff]; (first | done | with_reducible assumption | omega | contradiction))) <| .c (show decide ((↑(List.map nodC l).length : Int) > 8) = false by (simp; omega)) <| .c (decide_eq_false (p := (a.lo > a.hi)) (by omega)) <| .c (Weak.int (k := .i64) (show ((0) : Int) = ((↑0 : Int)) from (by omega))) <| .c oz4 <| .n)).weak (WeakL.refl _) (Weak.tup (.cons (.refl _) (.cons (Weak.int (show (((↑(List.map nodC l).length : Int)) : Int) = ((↑l.length : Int)) from (by (simp; done)))) (.cons (.refl _) .nil))))

set_option maxRecDepth 100000 in
set_option maxHeartbeats 2000000 in
theorem rflow_m (l : List Nod) (a : Rng) (m : Nat) (okl : ∀ n ∈ l, n.Ok) (wl : ∀ n ∈ l, n.w.length ≤ 100000 ∧ n.b.length ≤ 100000) (ha : a.In8) (i : a.lo ≤ a.hi) (f8 : l.length ≤ 8) (hm : m < l.length) (hf : errL stepR l a m ≠ 0) (h : ∀ k, k < m → errL stepR l a k = 0) : VC Try.prog 20 ([.sl 19 (l.map nodC), rch a]) (.tup [nilv, i64 m, i64 (errL stepR l a m)]) := by
  have oz4 := @rflow_ln (l) (a) (m) okl wl ha f8 hm hf h
  exact VC.run (fn := Try.f20) (W := [.r [] [], .r [] [], .br false, .r [] [], .br false, .r [] [], .br false, .r [] [], .r [] [], .code [.any (rg [(1, 1), (3, 4), (13, 13)]), .drop [3], .ren 25 900, .weak 8 (i64 (↑0 : Int)), .sort] (Exit.ret) (zO oz4)]) Try.func20 (by kernel_rfl) (.c (show ((↑(List.map nodC l).length : Int) == 0) = false by (simp only [decide_eq_true_eq, decide_eq_false_iff_not, beq_iff_eq, bne_iff_ne, ne_eq, beq_eq_false_iff_ne, bne_eq_false_iff_eq, Bool.not_eq_true', Bool.not_eq_false', Bool.not_eq_eq_eq_not, Bool.not_true, Bool.not_false, Classical.not_not, Int.not_lt, Int.not_le, Bool.and_eq_true, Bool.and_eq_false_iff, Bool.or_eq_true, Bool.or_eq_false_iff, Bool.and_true, Bool.true_and, Bool.and_false, Bool.false_and, Bool.or_false, Bool.false_or, eqNums, List.length_map, List.length_append, List.length_cons, List.length_nil, List.length_set, List.length_replicate, List.length_take, List.length_drop, List.length_range, Int.toNat_natCast, Nat.zero_add, List.map_eq_nil_iff]; (first | done | with_reducible assumption | omega | contradiction))) <| .c (show decide ((↑(List.map nodC l).length : Int) > 8) = false by (simp; omega)) <| .c (decide_eq_false (p := (a.lo > a.hi)) (by omega)) <| .c (Weak.int (k := .i64) (show ((0) : Int) = ((↑0 : Int)) from (by omega))) <| .c oz4 <| .n)

set_option maxRecDepth 100000 in
set_option maxHeartbeats 2000000 in
theorem rflow_a (l : List Nod) (a : Rng) (hl : l.length ≤ 1000) (h : l.length = 0 ∨ 8 < l.length ∨ a.lo > a.hi) : VC Try.prog 20 ([.sl 19 (l.map nodC), rch a]) (.tup [nilv, i64 (flowE l a).1, i64 (flowE l a).2]) := by
  rcases Bool.eq_false_or_eq_true ((↑(List.map nodC l).length : Int) == 0) with hc0 | hc0
  · have gc0 : (↑(List.map nodC l).length : Int) = 0 := bet hc0
    exact (VC.run (fn := Try.f20) (W := [.r [] [], .r [] [], .br true, .r [] []]) (r := AV.tup [AV.lit (Value.slice none 0 0), i64 (-1), i64 12]) Try.func20 (by kernel_rfl) (.c hc0 <| .n)).weak (WeakL.refl _) (Weak.tup (.cons (.refl _) (.cons (Weak.int (show ((-1) : Int) = ((flowE l a).fst) from (by (unfold flowE; (try simp only [List.length_map] at *); (repeat first | rw [if_pos (by omega)] | rw [if_neg (by omega)]))))) (.cons (Weak.int (show ((12) : Int) = ((flowE l a).snd) from (by (unfold flowE; (try simp only [List.length_map] at *); (repeat first | rw [if_pos (by omega)] | rw [if_neg (by omega)]))))) .nil))))
  · have gc0 : ¬(↑(List.map nodC l).length : Int) = 0 := bef hc0
    rcases Bool.eq_false_or_eq_true (decide ((↑(List.map nodC l).length : Int) > 8)) with hc1 | hc1
    · have gc1 := of_decide_eq_true hc1
      exact (VC.run (fn := Try.f20) (W := [.r [] [], .r [] [], .br false, .r [] [], .br true, .r [] []]) (r := AV.tup [AV.lit (Value.slice none 0 0), i64 (-1), i64 4]) Try.func20 (by kernel_rfl) (.c hc0 <| .c hc1 <| .n)).weak (WeakL.refl _) (Weak.tup (.cons (.refl _) (.cons (Weak.int (show ((-1) : Int) = ((flowE l a).fst) from (by (unfold flowE; (try simp only [List.length_map] at *); (repeat first | rw [if_pos (by omega)] | rw [if_neg (by omega)]))))) (.cons (Weak.int (show ((4) : Int) = ((flowE l a).snd) from (by (unfold flowE; (try simp only [List.length_map] at *); (repeat first | rw [if_pos (by omega)] | rw [if_neg (by omega)]))))) .nil))))
    · have gc1 := of_decide_eq_false hc1
      exact (VC.run (fn := Try.f20) (W := [.r [] [], .r [] [], .br false, .r [] [], .br false, .r [] [], .br true, .r [] []]) (r := AV.tup [AV.lit (Value.slice none 0 0), i64 (-1), i64 2]) Try.func20 (by kernel_rfl) (.c hc0 <| .c hc1 <| .c (show decide (a.lo > a.hi) = true by (simp only [decide_eq_true_eq, decide_eq_false_iff_not, beq_iff_eq, bne_iff_ne, ne_eq, beq_eq_false_iff_ne, bne_eq_false_iff_eq, Bool.not_eq_true', Bool.not_eq_false', Bool.not_eq_eq_eq_not, Bool.not_true, Bool.not_false, Classical.not_not, Int.not_lt, Int.not_le, Bool.and_eq_true, Bool.and_eq_false_iff, Bool.or_eq_true, Bool.or_eq_false_iff, Bool.and_true, Bool.true_and, Bool.and_false, Bool.false_and, Bool.or_false, Bool.false_or, eqNums, List.length_map, List.length_append, List.length_cons, List.length_nil, List.length_set, List.length_replicate, List.length_take, List.length_drop, List.length_range, Int.toNat_natCast, Nat.zero_add, List.map_eq_nil_iff] at *; (first | done | with_reducible assumption | omega | contradiction))) <| .n)).weak (WeakL.refl _) (Weak.tup (.cons (.refl _) (.cons (Weak.int (show ((-1) : Int) = ((flowE l a).fst) from (by (unfold flowE; (try simp only [List.length_map] at *); (repeat first | rw [if_pos (by omega)] | rw [if_neg (by omega)]))))) (.cons (Weak.int (show ((2) : Int) = ((flowE l a).snd) from (by (unfold flowE; (try simp only [List.length_map] at *); (repeat first | rw [if_pos (by omega)] | rw [if_neg (by omega)]))))) .nil))))
theorem rflow_n (l : List Nod) (a : Rng) (okl : ∀ n ∈ l, n.Ok) (wl : ∀ n ∈ l, n.w.length ≤ 100000 ∧ n.b.length ≤ 100000) (ha : a.In8) (hl : l.length ≤ 1000) (h : ¬ FOK l a) : VC Try.prog 20 [.sl 19 (l.map nodC), rch a] (.tup [nilv, i64 (flowE l a).1, i64 (flowE l a).2]) := by
  rcases FOK.cases l a with q | q | ⟨i, e, f, m, h1, h2, h3⟩
  · exact absurd q h
  · exact rflow_a l a hl q
  · rw [flowE_at i e f h1 h2 h3]; exact rflow_m l a m okl wl ha i f h1 h2 h3
noncomputable def guardFlows_l_I (l : List Rng) (k : Nat) : VS := stt 136 [(9, .sl 2 (l.map rchC)), (12, .sl 2 (l.map rchC)), (19, i64 k)] []
noncomputable def guardFlows_l_Z (l : List Rng) : VS := guardFlows_l_I l (l.length)
set_option maxRecDepth 100000 in
set_option maxHeartbeats 2000000 in
theorem guardFlows_l_s (l : List Rng) (hl : l.length ≤ 1000) (k : Nat) (hk : k < l.length) : VT Try.prog (fnC Try.f3 [1, 1, 1, 1, 1, 1, 1, 0, 1, 0, 0]) (guardFlows_l_I l k) .normal (guardFlows_l_I l (k + 1)) := by
  have oz1 := (show 0 ≤ (↑k : Int) by omega)
  have oz2 := (map_at (rchC) (default) (l := l) (i := k) hk)
  exact VT.run (W := [.r [] [], .br true, .r [] [.row (sO oz2), .row (sO oz2), .op false, .op false, .op false, .row (sO oz2), .op false, .op false, .op false, .op false, .op false, .row (sO oz2), .op false, .op false, .op false, .sel 1], .br false, .r [] [.n ((↑k : Int) + 1)]]) (G := [.any (rg [(105, 18), (134, 1)]), .weak 19 (i64 (↑(k + 1) : Int)), .sort]) (by kernel_rfl) (.c (show decide ((↑k : Int) < (↑(List.map rchC l).length : Int)) = true by (simp; omega)) <| .c oz1 <| .c oz2 <| .c oz1 <| .c oz2 <| .c oz1 <| .c oz2 <| .c oz1 <| .c oz2 <| .c (show ((l.getD k default).lo != (l.getD k default).lo || (l.getD k default).hi != (l.getD k default).hi) = false by (simp; done)) <| .c (IntWalk.i64_in ((↑k : Int) + 1) (by omega)) <| .c (Weak.int (k := .i64) (show (((↑k : Int) + 1) : Int) = ((↑(k + 1) : Int)) from (by omega))) <| .n)
set_option maxRecDepth 100000 in
set_option maxHeartbeats 2000000 in
theorem guardFlows_l_e (l : List Rng) (hl : l.length ≤ 1000) : VT Try.prog (fnC Try.f3 [1, 1, 1, 1, 1, 1, 1, 0, 1, 0, 0]) (guardFlows_l_I l (l.length)) (.exit 0) (guardFlows_l_Z l) := by
  exact VT.run (W := [.r [] [], .br false]) (G := [.any (rg [(105, 4)]), .sort]) (by kernel_rfl) (.c (show decide ((↑l.length : Int) < (↑(List.map rchC l).length : Int)) = false by (simp; done)) <| .n)
theorem guardFlows_l (l : List Rng) (hl : l.length ≤ 1000) : VT Try.prog (fnC Try.f3 [1, 1, 1, 1, 1, 1, 1, 0, 1, 0]) (guardFlows_l_I l 0) (.exit 0) (guardFlows_l_Z l) :=
  VT.loop (fun k => guardFlows_l_I l k) (l.length) (fun k hk => guardFlows_l_s l hl k hk) (guardFlows_l_e l hl) (by intro h; cases h)

set_option maxRecDepth 100000 in
set_option maxHeartbeats 2000000 in
theorem guardFlows_y (l : List Nod) (lo hi : Int) (n : Nod) (okl : ∀ n ∈ l, n.Ok) (okn : n.Ok) (h1 : In8 lo) (h2 : In8 hi) (h : FOK l ⟨lo, hi⟩) (few : fewB l 0 = true) : VC Try.prog 3 ([.sl 19 (l.map nodC), i8 lo, i8 hi, nod n]) (bv true) := by
  have q1 : Rng.In8 ⟨lo, hi⟩ := ⟨h1, h2⟩
  have q2 : Rng.In8 ⟨hi, lo⟩ := ⟨h2, h1⟩
  have q3 := few_wide few
  have q4 := growL_len stepR l ⟨lo, hi⟩ l.length
  have q5 := few_facts few
  have oz0 := (show WeakL [AV.sl 19 (List.map nodC l), AV.agg [i64 0, i64 0, i64 0, AV.lit (Value.slice none 0 0)]] [AV.sl 19 (List.map nodC l), AV.agg [i64 0, i64 0, i64 0, AV.sl 1 []]] from (.cons (.refl _) (.cons (Weak.agg (.cons (.refl _) (.cons (.refl _) (.cons (.refl _) (.cons (Weak.nil _) .nil))))) .nil)))
  have oz1 := @few_0 (l)
  have oz2 := @fewK0_v (n)
  rcases Bool.eq_false_or_eq_true (!fewB l 0 || !(decide (n.w.length ≤ 2000) && decide (n.b.length ≤ 200))) with hc0 | hc0
  · have gc0 : fewB l 0 = false ∨ ¬n.w.length ≤ 2000 ∨ ¬n.b.length ≤ 200 := by first | (simp only [Bool.or_eq_true, Bool.or_eq_false_iff, Bool.and_eq_true, Bool.and_eq_false_iff, Bool.not_eq_true', Bool.not_eq_false', decide_eq_true_eq, decide_eq_false_iff_not, beq_iff_eq, bne_iff_ne, ne_eq, beq_eq_false_iff_ne, bne_eq_false_iff_eq, eqNums, Bool.and_true] at hc0; first | exact hc0 | omega) | simpa using hc0 | (simp at hc0 ⊢; omega)
    have oz4 := @known32_v
    exact VC.run (fn := Try.f3) (W := [.r [] [], .r [] [.call (aO oz1) (rO oz1), .op false, .op false, .op false, .callr (rO oz2), .op false, .sel 1], .br true, .r [] [.callr (rO oz4)]]) Try.func3 (by kernel_rfl) (.c oz0 <| .c oz1 <| .c oz2 <| .c hc0 <| .c oz4 <| .n)
  · have gc0 : fewB l 0 = true ∧ n.w.length ≤ 2000 ∧ n.b.length ≤ 200 := by first | (simp only [Bool.or_eq_true, Bool.or_eq_false_iff, Bool.and_eq_true, Bool.and_eq_false_iff, Bool.not_eq_true', Bool.not_eq_false', decide_eq_true_eq, decide_eq_false_iff_not, beq_iff_eq, bne_iff_ne, ne_eq, beq_eq_false_iff_ne, bne_eq_false_iff_eq, eqNums, Bool.and_true] at hc0; first | exact hc0 | omega) | simpa using hc0 | (simp at hc0 ⊢; omega)
    have oz4 := @flow_y (l) (Rng.mk lo hi) okl q3 q1 h
    have oz5 := @rflow_y (l) (Rng.mk lo hi) okl q3 q1 h
    have oz6 := @gnode_v (n) (Rng.mk lo hi) (Rng.mk hi lo) okn q1 q2 (by omega) (by omega)
    have oz7 := @refGNode_v (n) (Rng.mk lo hi) (Rng.mk hi lo) okn q1 q2 (by omega) (by omega)
    have oz10 := @guardFlows_l (growL stepR l (Rng.mk lo hi) l.length) (by omega)
    have oz11 := @known32_v
    exact VC.run (fn := Try.f3) (W := [.r [] [], .r [] [.call (aO oz1) (rO oz1), .op false, .op false, .op false, .callr (rO oz2), .op false, .sel 1], .br false, .r [] [.callr (rO oz4)], .r [] [.callr (rO oz5)], .r [] [.callr (rO oz6)], .r [] [.callr (rO oz7)], .r [] [.op false, .op false, .op false, .sel 1, .op false, .op false, .op false, .op false, .op false, .sel 1, .op false, .op false, .op false, .op false, .op false, .sel 1, .op false, .op false, .op false, .op false, .op false, .sel 1, .op false, .op false, .op false, .sel 1], .br false, .r [] [], .code [.any (rg [(0, 4), (7, 2), (10, 2), (13, 6), (20, 5), (29, 1), (31, 44), (78, 2), (85, 2), (92, 2), (99, 2), (104, 1)]), .drop [7, 15, 17], .weak 19 (i64 (↑0 : Int)), .sort] (Exit.exit 0) (zO oz10), .r [] [.callr (rO oz11)]]) Try.func3 (by kernel_rfl) (.c oz0 <| .c oz1 <| .c oz2 <| .c hc0 <| .c oz4 <| .c oz5 <| .c oz6 <| .c oz7 <| .c (show ((↑l.length : Int) != (↑l.length : Int) || false || (↑(List.map rchC (growL stepR l (Rng.mk lo hi) l.length)).length : Int) != (↑(List.map rchC (growL stepR l (Rng.mk lo hi) l.length)).length : Int) || (nodeR n (Rng.mk lo hi) (Rng.mk hi lo)).fst.lo != (nodeR n (Rng.mk lo hi) (Rng.mk hi lo)).fst.lo || (nodeR n (Rng.mk lo hi) (Rng.mk hi lo)).fst.hi != (nodeR n (Rng.mk lo hi) (Rng.mk hi lo)).fst.hi || (nodeR n (Rng.mk lo hi) (Rng.mk hi lo)).snd != (nodeR n (Rng.mk lo hi) (Rng.mk hi lo)).snd) = false by (simp; done)) <| .c (Weak.int (k := .i64) (show ((0) : Int) = ((↑0 : Int)) from (by omega))) <| .c oz10 <| .c oz11 <| .n)

set_option maxRecDepth 100000 in
set_option maxHeartbeats 2000000 in
theorem guardFlows_n (l : List Nod) (lo hi : Int) (n : Nod) (okl : ∀ n ∈ l, n.Ok) (okn : n.Ok) (h1 : In8 lo) (h2 : In8 hi) (h : ¬ FOK l ⟨lo, hi⟩) (few : fewB l 0 = true) : VC Try.prog 3 ([.sl 19 (l.map nodC), i8 lo, i8 hi, nod n]) (bv true) := by
  have q1 : Rng.In8 ⟨lo, hi⟩ := ⟨h1, h2⟩
  have q2 : Rng.In8 ⟨hi, lo⟩ := ⟨h2, h1⟩
  have q3 := few_wide few
  have q5 := few_facts few
  have oz0 := (show WeakL [AV.sl 19 (List.map nodC l), AV.agg [i64 0, i64 0, i64 0, AV.lit (Value.slice none 0 0)]] [AV.sl 19 (List.map nodC l), AV.agg [i64 0, i64 0, i64 0, AV.sl 1 []]] from (.cons (.refl _) (.cons (Weak.agg (.cons (.refl _) (.cons (.refl _) (.cons (.refl _) (.cons (Weak.nil _) .nil))))) .nil)))
  have oz1 := @few_0 (l)
  have oz2 := @fewK0_v (n)
  rcases Bool.eq_false_or_eq_true (!fewB l 0 || !(decide (n.w.length ≤ 2000) && decide (n.b.length ≤ 200))) with hc0 | hc0
  · have gc0 : fewB l 0 = false ∨ ¬n.w.length ≤ 2000 ∨ ¬n.b.length ≤ 200 := by first | (simp only [Bool.or_eq_true, Bool.or_eq_false_iff, Bool.and_eq_true, Bool.and_eq_false_iff, Bool.not_eq_true', Bool.not_eq_false', decide_eq_true_eq, decide_eq_false_iff_not, beq_iff_eq, bne_iff_ne, ne_eq, beq_eq_false_iff_ne, bne_eq_false_iff_eq, eqNums, Bool.and_true] at hc0; first | exact hc0 | omega) | simpa using hc0 | (simp at hc0 ⊢; omega)
    have oz4 := @known32_v
    exact VC.run (fn := Try.f3) (W := [.r [] [], .r [] [.call (aO oz1) (rO oz1), .op false, .op false, .op false, .callr (rO oz2), .op false, .sel 1], .br true, .r [] [.callr (rO oz4)]]) Try.func3 (by kernel_rfl) (.c oz0 <| .c oz1 <| .c oz2 <| .c hc0 <| .c oz4 <| .n)
  · have gc0 : fewB l 0 = true ∧ n.w.length ≤ 2000 ∧ n.b.length ≤ 200 := by first | (simp only [Bool.or_eq_true, Bool.or_eq_false_iff, Bool.and_eq_true, Bool.and_eq_false_iff, Bool.not_eq_true', Bool.not_eq_false', decide_eq_true_eq, decide_eq_false_iff_not, beq_iff_eq, bne_iff_ne, ne_eq, beq_eq_false_iff_ne, bne_eq_false_iff_eq, eqNums, Bool.and_true] at hc0; first | exact hc0 | omega) | simpa using hc0 | (simp at hc0 ⊢; omega)
    have oz4 := @flow_n (l) (Rng.mk lo hi) okl q3 q1 (by omega) h
    have oz5 := @rflow_n (l) (Rng.mk lo hi) okl q3 q1 (by omega) h
    have oz6 := @gnode_v (n) (Rng.mk lo hi) (Rng.mk hi lo) okn q1 q2 (by omega) (by omega)
    have oz7 := @refGNode_v (n) (Rng.mk lo hi) (Rng.mk hi lo) okn q1 q2 (by omega) (by omega)
    have oz9 := (show Weak (AV.lit (Value.slice none 0 0)) (AV.sl 2 []) from (Weak.nil _))
    have oz12 := @guardFlows_l ([]) (by (simp; done))
    have oz13 := @known32_v
    exact VC.run (fn := Try.f3) (W := [.r [] [], .r [] [.call (aO oz1) (rO oz1), .op false, .op false, .op false, .callr (rO oz2), .op false, .sel 1], .br false, .r [] [.callr (rO oz4)], .r [] [.callr (rO oz5)], .r [] [.callr (rO oz6)], .r [] [.callr (rO oz7)], .r [] [.op false, .op false, .op false, .sel 1, .op false, .op false, .op false, .op false, .op false, .sel 1, .op false, .op false, .op false, .op false, .op false, .sel 1, .op false, .op false, .op false, .op false, .op false, .sel 1, .op false, .op false, .op false, .sel 1], .br false, .r [] [], .code [.any (rg [(0, 4), (7, 2), (10, 2), (13, 6), (20, 5), (29, 1), (31, 44), (78, 2), (85, 2), (92, 2), (99, 2), (104, 1)]), .drop [7, 15, 17], .weak 9 (AV.sl 2 (List.map rchC [])), .weak 12 (AV.sl 2 (List.map rchC [])), .weak 19 (i64 (↑0 : Int)), .sort] (Exit.exit 0) (zO oz12), .r [] [.callr (rO oz13)]]) Try.func3 (by kernel_rfl) (.c oz0 <| .c oz1 <| .c oz2 <| .c hc0 <| .c oz4 <| .c oz5 <| .c oz6 <| .c oz7 <| .c (show ((flowE l (Rng.mk lo hi)).fst != (flowE l (Rng.mk lo hi)).fst || (flowE l (Rng.mk lo hi)).snd != (flowE l (Rng.mk lo hi)).snd || false || (nodeR n (Rng.mk lo hi) (Rng.mk hi lo)).fst.lo != (nodeR n (Rng.mk lo hi) (Rng.mk hi lo)).fst.lo || (nodeR n (Rng.mk lo hi) (Rng.mk hi lo)).fst.hi != (nodeR n (Rng.mk lo hi) (Rng.mk hi lo)).fst.hi || (nodeR n (Rng.mk lo hi) (Rng.mk hi lo)).snd != (nodeR n (Rng.mk lo hi) (Rng.mk hi lo)).snd) = false by (simp; done)) <| .c oz9 <| .c oz9 <| .c (Weak.int (k := .i64) (show ((0) : Int) = ((↑0 : Int)) from (by omega))) <| .c oz12 <| .c oz13 <| .n)

set_option maxRecDepth 100000 in
set_option maxHeartbeats 2000000 in
theorem guardFlows_x (l : List Nod) (lo hi : Int) (n : Nod) (few : fewB l 0 = false) : VC Try.prog 3 ([.sl 19 (l.map nodC), i8 lo, i8 hi, nod n]) (bv true) := by
  have oz1 := @few_0 (l)
  have oz2 := @fewK0_v (n)
  have oz4 := @known32_v
  exact VC.run (fn := Try.f3) (W := [.r [] [], .r [] [.call (aO oz1) (rO oz1), .op false, .op false, .op false, .callr (rO oz2), .op false, .sel 1], .br true, .r [] [.callr (rO oz4)]]) Try.func3 (by kernel_rfl) (.c (show WeakL [AV.sl 19 (List.map nodC l), AV.agg [i64 0, i64 0, i64 0, AV.lit (Value.slice none 0 0)]] [AV.sl 19 (List.map nodC l), AV.agg [i64 0, i64 0, i64 0, AV.sl 1 []]] from (.cons (.refl _) (.cons (Weak.agg (.cons (.refl _) (.cons (.refl _) (.cons (.refl _) (.cons (Weak.nil _) .nil))))) .nil))) <| .c oz1 <| .c oz2 <| .c (show (!fewB l 0 || !(decide (n.w.length ≤ 2000) && decide (n.b.length ≤ 200))) = true by (rw [few]; rfl)) <| .c oz4 <| .n)
theorem guardFlows_v (l : List Nod) (lo hi : Int) (n : Nod) (okl : ∀ n ∈ l, n.Ok) (okn : n.Ok) (h1 : In8 lo) (h2 : In8 hi) : VC Try.prog 3 [.sl 19 (l.map nodC), i8 lo, i8 hi, nod n] (bv true) := by
  cases few : fewB l 0 with
  | false => exact guardFlows_x l lo hi n few
  | true =>
    by_cases h : FOK l ⟨lo, hi⟩
    · exact guardFlows_y l lo hi n okl okn h1 h2 h few
    · exact guardFlows_n l lo hi n okl okn h1 h2 h few
end Go.Proofs.Ytdmomnaoegkpiaa

