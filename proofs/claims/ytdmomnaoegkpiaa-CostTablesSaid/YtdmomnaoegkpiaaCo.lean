/- What nodes and blocks cost, by the program and by the document. No condition. -/
import Derived.Test.YtdmomnaoegkpiaaGs3
import Derived.Test.YtdmomnaoegkpiaaBlc
namespace Go.Proofs.Ytdmomnaoegkpiaa
open Go.RowKit
set_option linter.unusedSimpArgs false
set_option linter.unusedVariables false
set_option linter.unnecessarySimpa false

/-- What a node costs. -/
def costE (n : Nod) (a b : Shp) : Int :=
  if (shapeE n a b).2 ≠ 0 then 0
  else if n.kd = 1 then elems (shapeE n a b).1.h (shapeE n a b).1.x (shapeE n a b).1.c * n.nk * n.nk * a.c
  else if n.kd = 2 ∨ n.kd = 4 ∨ n.kd = 5 then elems (shapeE n a b).1.h (shapeE n a b).1.x (shapeE n a b).1.c * n.nk * n.nk
  else if n.kd = 3 then elems (shapeE n a b).1.h (shapeE n a b).1.x (shapeE n a b).1.c * elems a.h a.x a.c
  else elems (shapeE n a b).1.h (shapeE n a b).1.x (shapeE n a b).1.c
theorem slide_k {t : Shp} {k s p o : Int} (h : (slideE t k s p o).2 = 0) : 1 ≤ k ∧ k ≤ 5 ∧ 1 ≤ t.c ∧ t.c ≤ 1024 := by
  have h1 := slideE_ok h
  have h2 := elems_ok h1.1
  omega
theorem shapeE_k {n : Nod} {a b : Shp} (h : (shapeE n a b).2 = 0) (hk : n.kd = 1 ∨ n.kd = 2 ∨ n.kd = 4 ∨ n.kd = 5) : 1 ≤ n.nk ∧ n.nk ≤ 5 ∧ 1 ≤ a.c ∧ a.c ≤ 1024 := by
  unfold shapeE at h
  split at h
  · unfold convE at h
    split at h
    · rename_i c; exact absurd h c
    · rename_i c; exact slide_k (Classical.not_not.1 c)
  · split at h
    · unfold depthE at h
      split at h
      · rename_i c; exact absurd h c
      · rename_i c; exact slide_k (Classical.not_not.1 c)
    · split at h
      · omega
      · split at h
        · exact slide_k h
        · omega
theorem cost_bd {e k c : Int} (e0 : 0 ≤ e) (e1 : e ≤ 1024) (k0 : 1 ≤ k) (k1 : k ≤ 5) (c0 : 1 ≤ c) (c1 : c ≤ 1024) : (0 ≤ e * k ∧ e * k ≤ 5120) ∧ (0 ≤ e * k * k ∧ e * k * k ≤ 25600) ∧ (0 ≤ e * k * k * c ∧ e * k * k * c ≤ 26214400) := by
  have a1 := mul_bd (A := 1024) (B := 5) (a := e) (b := k) e0 e1 (by omega) k1
  have a2 := mul_bd (A := 5120) (B := 5) (a := e * k) (b := k) (by omega) (by omega) (by omega) k1
  have a3 := mul_bd (A := 25600) (B := 1024) (a := e * k * k) (b := c) (by omega) (by omega) (by omega) c1
  omega
theorem elems2_bd (a b : Shp) : 0 ≤ elems a.h a.x a.c * elems b.h b.x b.c ∧ elems a.h a.x a.c * elems b.h b.x b.c ≤ 1048576 := by
  have h1 := elems_in a.h a.x a.c
  have h2 := elems_in b.h b.x b.c
  have := mul_bd (A := 1024) (B := 1024) h1.1 h1.2 h2.1 h2.2
  omega
theorem costE_bd (n : Nod) (a b : Shp) : 0 ≤ costE n a b ∧ costE n a b ≤ 26214400 := by
  have q1 := elems_in (shapeE n a b).1.h (shapeE n a b).1.x (shapeE n a b).1.c
  have q2 := elems2_bd (shapeE n a b).1 a
  unfold costE
  split
  · omega
  · rename_i h
    have h := Classical.not_not.1 h
    split
    · have q := shapeE_k h (by omega)
      have := cost_bd q1.1 q1.2 q.1 q.2.1 q.2.2.1 q.2.2.2
      omega
    · split
      · have q := shapeE_k h (by omega)
        have := cost_bd q1.1 q1.2 q.1 q.2.1 q.2.2.1 q.2.2.2
        omega
      · split <;> omega
set_option maxRecDepth 100000 in
set_option maxHeartbeats 2000000 in
theorem work_v (a : Shp) (n : Nod) (ok : a.Ok) (okn : n.Ok) (hk : n.kd = 1) (h : (convE a n).2 = 0) : VC Try.prog 86 ([shp a, nod n]) (i64 (elems (convE a n).1.h (convE a n).1.x (convE a n).1.c * n.nk * n.nk * a.c)) := by
  obtain ⟨p1, p2, p3⟩ := id ok
  have q0 : shapeE n a a = convE a n := if_pos hk
  have q1 := elems_in (convE a n).1.h (convE a n).1.x (convE a n).1.c
  have q := shapeE_k (n := n) (a := a) (b := a) (q0 ▸ h) (.inl hk)
  have q2 := cost_bd q1.1 q1.2 q.1 q.2.1 q.2.2.1 q.2.2.2
  have q3 := (convE_told a n).ok
  obtain ⟨p4, p5, p6⟩ := id q3
  have oz0 := @convShape_v (a) (n) ok okn
  have oz2 := @elems_v ((convE a n).fst.h) ((convE a n).fst.x) ((convE a n).fst.c) p4 p5 p6
  have oz3 := (IntWalk.i64_in (elems (convE a n).fst.h (convE a n).fst.x (convE a n).fst.c * n.nk) (by omega))
  have oz4 := (IntWalk.i64_in (elems (convE a n).fst.h (convE a n).fst.x (convE a n).fst.c * n.nk * n.nk) (by omega))
  have oz5 := (IntWalk.i64_in (elems (convE a n).fst.h (convE a n).fst.x (convE a n).fst.c * n.nk * n.nk * a.c) (by omega))
  exact VC.run (fn := Try.f86) (W := [.r [] [], .r [] [.callr (rO oz0)], .r [] [], .br false, .r [] [.callr (rO oz2), .n (nO oz3), .n (nO oz4), .n (nO oz5)]]) Try.func86 (by kernel_rfl) (.c oz0 <| .c (show ((convE a n).snd != 0) = false by (simp; omega)) <| .c oz2 <| .c oz3 <| .c oz4 <| .c oz5 <| .n)
theorem costE_1 {n : Nod} {a b : Shp} (h : (shapeE n a b).2 = 0) (hk : n.kd = 1) : costE n a b = elems (convE a n).1.h (convE a n).1.x (convE a n).1.c * n.nk * n.nk * a.c := by
  have e : shapeE n a b = convE a n := if_pos hk
  unfold costE; rw [if_neg (by omega), if_pos hk, e]
theorem cost_k {n : Nod} {a b : Shp} (h : (shapeE n a b).2 = 0) (hk : n.kd = 1 ∨ n.kd = 2 ∨ n.kd = 4 ∨ n.kd = 5) : (0 ≤ elems (shapeE n a b).1.h (shapeE n a b).1.x (shapeE n a b).1.c * n.nk ∧ elems (shapeE n a b).1.h (shapeE n a b).1.x (shapeE n a b).1.c * n.nk ≤ 5120) ∧
    (0 ≤ elems (shapeE n a b).1.h (shapeE n a b).1.x (shapeE n a b).1.c * n.nk * n.nk ∧ elems (shapeE n a b).1.h (shapeE n a b).1.x (shapeE n a b).1.c * n.nk * n.nk ≤ 25600) ∧
    (0 ≤ elems (shapeE n a b).1.h (shapeE n a b).1.x (shapeE n a b).1.c * n.nk * n.nk * a.c ∧ elems (shapeE n a b).1.h (shapeE n a b).1.x (shapeE n a b).1.c * n.nk * n.nk * a.c ≤ 26214400) := by
  have q1 := elems_in (shapeE n a b).1.h (shapeE n a b).1.x (shapeE n a b).1.c
  have q := shapeE_k h hk
  exact cost_bd q1.1 q1.2 q.1 q.2.1 q.2.2.1 q.2.2.2
set_option maxRecDepth 100000 in
set_option maxHeartbeats 2000000 in
theorem costNode_v (n : Nod) (a b : Shp) (okn : n.Ok) (ok : a.Ok) (okb : b.Ok) : VC Try.prog 31 ([nod n, shp a, shp b]) (i64 (costE n a b)) := by
  obtain ⟨p1, p2, p3⟩ := id ok
  have q0 : n.kd = 1 → shapeE n a b = convE a n := fun h => if_pos h
  have q1 := elems_in (shapeE n a b).1.h (shapeE n a b).1.x (shapeE n a b).1.c
  have q2 := elems2_bd (shapeE n a b).1 a
  have q3 := (shapeE_told n a b).ok
  obtain ⟨p4, p5, p6⟩ := id q3
  have qk := @cost_k n a b
  have oz0 := @kshape_v (n) (a) (b) ok okb okn
  rcases Bool.eq_false_or_eq_true ((shapeE n a b).snd != 0) with hc0 | hc0
  · have gc0 : ¬(shapeE n a b).snd = 0 := bdt hc0
    exact (VC.run (fn := Try.f31) (W := [.r [] [], .r [] [.callr (rO oz0)], .r [] [], .br true, .r [] []]) (r := i64 0) Try.func31 (by kernel_rfl) (.c oz0 <| .c hc0 <| .n)).weak (WeakL.refl _) (Weak.int (show ((0) : Int) = (costE n a b) from (by (unfold costE; (repeat first | rw [if_pos (by omega)] | rw [if_neg (by omega)])))))
  · have gc0 : (shapeE n a b).snd = 0 := bdf hc0
    have oz2 := @elems_v ((shapeE n a b).fst.h) ((shapeE n a b).fst.x) ((shapeE n a b).fst.c) p4 p5 p6
    rcases Bool.eq_false_or_eq_true (n.kd == 1) with hc1 | hc1
    · have gc1 : n.kd = 1 := bet hc1
      have oz4 := @work_v (a) (n) ok okn gc1 (by (rw [← q0 (by omega)]; omega))
      exact (VC.run (fn := Try.f31) (W := [.r [] [], .r [] [.callr (rO oz0)], .r [] [], .br false, .r [] [.callr (rO oz2)], .r [] [], .r [] [], .br true, .r [] [.callr (rO oz4)]]) (r := i64 (elems (convE a n).fst.h (convE a n).fst.x (convE a n).fst.c * n.nk * n.nk * a.c)) Try.func31 (by kernel_rfl) (.c oz0 <| .c hc0 <| .c oz2 <| .c hc1 <| .c oz4 <| .n)).weak (WeakL.refl _) (Weak.int (show ((elems (convE a n).fst.h (convE a n).fst.x (convE a n).fst.c * n.nk * n.nk * a.c) : Int) = (costE n a b) from (by (exact (costE_1 (by omega) (by omega)).symm))))
    · have gc1 : ¬n.kd = 1 := bef hc1
      rcases Bool.eq_false_or_eq_true (n.kd == 2) with hc2 | hc2
      · have gc2 : n.kd = 2 := bet hc2
        have oz6 := (IntWalk.i64_in (elems (shapeE n a b).fst.h (shapeE n a b).fst.x (shapeE n a b).fst.c * n.nk) (by omega))
        have oz7 := (IntWalk.i64_in (elems (shapeE n a b).fst.h (shapeE n a b).fst.x (shapeE n a b).fst.c * n.nk * n.nk) (by omega))
        exact (VC.run (fn := Try.f31) (W := [.r [] [], .r [] [.callr (rO oz0)], .r [] [], .br false, .r [] [.callr (rO oz2)], .r [] [], .r [] [], .br false, .r [] [], .br true, .br true, .r [] [.n (nO oz6), .n (nO oz7)]]) (r := i64 (elems (shapeE n a b).fst.h (shapeE n a b).fst.x (shapeE n a b).fst.c * n.nk * n.nk)) Try.func31 (by kernel_rfl) (.c oz0 <| .c hc0 <| .c oz2 <| .c hc1 <| .c hc2 <| .c hc2 <| .c oz6 <| .c oz7 <| .n)).weak (WeakL.refl _) (Weak.int (show ((elems (shapeE n a b).fst.h (shapeE n a b).fst.x (shapeE n a b).fst.c * n.nk * n.nk) : Int) = (costE n a b) from (by (unfold costE; (repeat first | rw [if_pos (by omega)] | rw [if_neg (by omega)])))))
      · have gc2 : ¬n.kd = 2 := bef hc2
        rcases Bool.eq_false_or_eq_true (n.kd == 4) with hc3 | hc3
        · have gc3 : n.kd = 4 := bet hc3
          have oz7 := (IntWalk.i64_in (elems (shapeE n a b).fst.h (shapeE n a b).fst.x (shapeE n a b).fst.c * n.nk) (by omega))
          have oz8 := (IntWalk.i64_in (elems (shapeE n a b).fst.h (shapeE n a b).fst.x (shapeE n a b).fst.c * n.nk * n.nk) (by omega))
          exact (VC.run (fn := Try.f31) (W := [.r [] [], .r [] [.callr (rO oz0)], .r [] [], .br false, .r [] [.callr (rO oz2)], .r [] [], .r [] [], .br false, .r [] [], .br false, .r [] [], .br true, .br true, .r [] [.n (nO oz7), .n (nO oz8)]]) (r := i64 (elems (shapeE n a b).fst.h (shapeE n a b).fst.x (shapeE n a b).fst.c * n.nk * n.nk)) Try.func31 (by kernel_rfl) (.c oz0 <| .c hc0 <| .c oz2 <| .c hc1 <| .c hc2 <| .c hc3 <| .c hc3 <| .c oz7 <| .c oz8 <| .n)).weak (WeakL.refl _) (Weak.int (show ((elems (shapeE n a b).fst.h (shapeE n a b).fst.x (shapeE n a b).fst.c * n.nk * n.nk) : Int) = (costE n a b) from (by (unfold costE; (repeat first | rw [if_pos (by omega)] | rw [if_neg (by omega)])))))
        · have gc3 : ¬n.kd = 4 := bef hc3
          rcases Bool.eq_false_or_eq_true (n.kd == 5) with hc4 | hc4
          · have gc4 : n.kd = 5 := bet hc4
            have oz7 := (IntWalk.i64_in (elems (shapeE n a b).fst.h (shapeE n a b).fst.x (shapeE n a b).fst.c * n.nk) (by omega))
            have oz8 := (IntWalk.i64_in (elems (shapeE n a b).fst.h (shapeE n a b).fst.x (shapeE n a b).fst.c * n.nk * n.nk) (by omega))
            exact (VC.run (fn := Try.f31) (W := [.r [] [], .r [] [.callr (rO oz0)], .r [] [], .br false, .r [] [.callr (rO oz2)], .r [] [], .r [] [], .br false, .r [] [], .br false, .r [] [], .br false, .r [] [], .br true, .r [] [.n (nO oz7), .n (nO oz8)]]) (r := i64 (elems (shapeE n a b).fst.h (shapeE n a b).fst.x (shapeE n a b).fst.c * n.nk * n.nk)) Try.func31 (by kernel_rfl) (.c oz0 <| .c hc0 <| .c oz2 <| .c hc1 <| .c hc2 <| .c hc3 <| .c hc4 <| .c oz7 <| .c oz8 <| .n)).weak (WeakL.refl _) (Weak.int (show ((elems (shapeE n a b).fst.h (shapeE n a b).fst.x (shapeE n a b).fst.c * n.nk * n.nk) : Int) = (costE n a b) from (by (unfold costE; (repeat first | rw [if_pos (by omega)] | rw [if_neg (by omega)])))))
          · have gc4 : ¬n.kd = 5 := bef hc4
            rcases Bool.eq_false_or_eq_true (n.kd == 3) with hc5 | hc5
            · have gc5 : n.kd = 3 := bet hc5
              have oz8 := @elems_v (a.h) (a.x) (a.c) p1 p2 p3
              have oz9 := (IntWalk.i64_in (elems (shapeE n a b).fst.h (shapeE n a b).fst.x (shapeE n a b).fst.c * elems a.h a.x a.c) (by omega))
              exact (VC.run (fn := Try.f31) (W := [.r [] [], .r [] [.callr (rO oz0)], .r [] [], .br false, .r [] [.callr (rO oz2)], .r [] [], .r [] [], .br false, .r [] [], .br false, .r [] [], .br false, .r [] [], .br false, .r [] [], .br true, .r [] [.callr (rO oz8), .n (nO oz9)]]) (r := i64 (elems (shapeE n a b).fst.h (shapeE n a b).fst.x (shapeE n a b).fst.c * elems a.h a.x a.c)) Try.func31 (by kernel_rfl) (.c oz0 <| .c hc0 <| .c oz2 <| .c hc1 <| .c hc2 <| .c hc3 <| .c hc4 <| .c hc5 <| .c oz8 <| .c oz9 <| .n)).weak (WeakL.refl _) (Weak.int (show ((elems (shapeE n a b).fst.h (shapeE n a b).fst.x (shapeE n a b).fst.c * elems a.h a.x a.c) : Int) = (costE n a b) from (by (unfold costE; (repeat first | rw [if_pos (by omega)] | rw [if_neg (by omega)])))))
            · have gc5 : ¬n.kd = 3 := bef hc5
              exact (VC.run (fn := Try.f31) (W := [.r [] [], .r [] [.callr (rO oz0)], .r [] [], .br false, .r [] [.callr (rO oz2)], .r [] [], .r [] [], .br false, .r [] [], .br false, .r [] [], .br false, .r [] [], .br false, .r [] [], .br false, .r [] []]) (r := i64 (elems (shapeE n a b).fst.h (shapeE n a b).fst.x (shapeE n a b).fst.c)) Try.func31 (by kernel_rfl) (.c oz0 <| .c hc0 <| .c oz2 <| .c hc1 <| .c hc2 <| .c hc3 <| .c hc4 <| .c hc5 <| .n)).weak (WeakL.refl _) (Weak.int (show ((elems (shapeE n a b).fst.h (shapeE n a b).fst.x (shapeE n a b).fst.c) : Int) = (costE n a b) from (by (unfold costE; (repeat first | rw [if_pos (by omega)] | rw [if_neg (by omega)])))))

set_option maxRecDepth 100000 in
set_option maxHeartbeats 2000000 in
theorem refCostNode_v (n : Nod) (a b : Shp) (okn : n.Ok) (ok : a.Ok) (okb : b.Ok) : VC Try.prog 32 ([nod n, shp a, shp b]) (i64 (costE n a b)) := by
  obtain ⟨p1, p2, p3⟩ := id ok
  have q1 := elems_in (shapeE n a b).1.h (shapeE n a b).1.x (shapeE n a b).1.c
  have q2 := elems2_bd (shapeE n a b).1 a
  have q3 := (shapeE_told n a b).ok
  obtain ⟨p4, p5, p6⟩ := id q3
  have qk := @cost_k n a b
  have oz0 := @refKshape_v (n) (a) (b) ok okb okn
  rcases Bool.eq_false_or_eq_true ((shapeE n a b).snd != 0) with hc0 | hc0
  · have gc0 : ¬(shapeE n a b).snd = 0 := bdt hc0
    exact (VC.run (fn := Try.f32) (W := [.r [] [], .r [] [.callr (rO oz0)], .r [] [], .br true, .r [] []]) (r := i64 0) Try.func32 (by kernel_rfl) (.c oz0 <| .c hc0 <| .n)).weak (WeakL.refl _) (Weak.int (show ((0) : Int) = (costE n a b) from (by (unfold costE; (repeat first | rw [if_pos (by omega)] | rw [if_neg (by omega)])))))
  · have gc0 : (shapeE n a b).snd = 0 := bdf hc0
    have oz2 := @refElems_v ((shapeE n a b).fst.h) ((shapeE n a b).fst.x) ((shapeE n a b).fst.c) p4 p5 p6
    rcases Bool.eq_false_or_eq_true (n.kd == 1) with hc1 | hc1
    · have gc1 : n.kd = 1 := bet hc1
      have oz4 := (IntWalk.i64_in (elems (shapeE n a b).fst.h (shapeE n a b).fst.x (shapeE n a b).fst.c * n.nk) (by omega))
      have oz5 := (IntWalk.i64_in (elems (shapeE n a b).fst.h (shapeE n a b).fst.x (shapeE n a b).fst.c * n.nk * n.nk) (by omega))
      have oz6 := (IntWalk.i64_in (elems (shapeE n a b).fst.h (shapeE n a b).fst.x (shapeE n a b).fst.c * n.nk * n.nk * a.c) (by omega))
      exact (VC.run (fn := Try.f32) (W := [.r [] [], .r [] [.callr (rO oz0)], .r [] [], .br false, .r [] [.callr (rO oz2)], .r [] [], .br true, .r [] [.n (nO oz4), .n (nO oz5), .n (nO oz6)]]) (r := i64 (elems (shapeE n a b).fst.h (shapeE n a b).fst.x (shapeE n a b).fst.c * n.nk * n.nk * a.c)) Try.func32 (by kernel_rfl) (.c oz0 <| .c hc0 <| .c oz2 <| .c hc1 <| .c oz4 <| .c oz5 <| .c oz6 <| .n)).weak (WeakL.refl _) (Weak.int (show ((elems (shapeE n a b).fst.h (shapeE n a b).fst.x (shapeE n a b).fst.c * n.nk * n.nk * a.c) : Int) = (costE n a b) from (by (unfold costE; (repeat first | rw [if_pos (by omega)] | rw [if_neg (by omega)])))))
    · have gc1 : ¬n.kd = 1 := bef hc1
      rcases Bool.eq_false_or_eq_true (n.kd == 2 || n.kd == 4 || n.kd == 5) with hc2 | hc2
      · have gc2 : (n.kd = 2 ∨ n.kd = 4) ∨ n.kd = 5 := by first | (simp only [Bool.or_eq_true, Bool.or_eq_false_iff, Bool.and_eq_true, Bool.and_eq_false_iff, Bool.not_eq_true', Bool.not_eq_false', decide_eq_true_eq, decide_eq_false_iff_not, beq_iff_eq, bne_iff_ne, ne_eq, beq_eq_false_iff_ne, bne_eq_false_iff_eq, eqNums, Bool.and_true] at hc2; first | exact hc2 | omega) | simpa using hc2 | (simp at hc2 ⊢; omega)
        have oz5 := (IntWalk.i64_in (elems (shapeE n a b).fst.h (shapeE n a b).fst.x (shapeE n a b).fst.c * n.nk) (by omega))
        have oz6 := (IntWalk.i64_in (elems (shapeE n a b).fst.h (shapeE n a b).fst.x (shapeE n a b).fst.c * n.nk * n.nk) (by omega))
        exact (VC.run (fn := Try.f32) (W := [.r [] [], .r [] [.callr (rO oz0)], .r [] [], .br false, .r [] [.callr (rO oz2)], .r [] [], .br false, .r [] [.op false, .op false, .op false, .sel 1, .op false, .op false, .op false, .sel 1], .br true, .r [] [.n (nO oz5), .n (nO oz6)]]) (r := i64 (elems (shapeE n a b).fst.h (shapeE n a b).fst.x (shapeE n a b).fst.c * n.nk * n.nk)) Try.func32 (by kernel_rfl) (.c oz0 <| .c hc0 <| .c oz2 <| .c hc1 <| .c hc2 <| .c oz5 <| .c oz6 <| .n)).weak (WeakL.refl _) (Weak.int (show ((elems (shapeE n a b).fst.h (shapeE n a b).fst.x (shapeE n a b).fst.c * n.nk * n.nk) : Int) = (costE n a b) from (by (unfold costE; (repeat first | rw [if_pos (by omega)] | rw [if_neg (by omega)])))))
      · have gc2 : (¬n.kd = 2 ∧ ¬n.kd = 4) ∧ ¬n.kd = 5 := by first | (simp only [Bool.or_eq_true, Bool.or_eq_false_iff, Bool.and_eq_true, Bool.and_eq_false_iff, Bool.not_eq_true', Bool.not_eq_false', decide_eq_true_eq, decide_eq_false_iff_not, beq_iff_eq, bne_iff_ne, ne_eq, beq_eq_false_iff_ne, bne_eq_false_iff_eq, eqNums, Bool.and_true] at hc2; first | exact hc2 | omega) | simpa using hc2 | (simp at hc2 ⊢; omega)
        rcases Bool.eq_false_or_eq_true (n.kd == 3) with hc3 | hc3
        · have gc3 : n.kd = 3 := bet hc3
          have oz6 := @refElems_v (a.h) (a.x) (a.c) p1 p2 p3
          have oz7 := (IntWalk.i64_in (elems (shapeE n a b).fst.h (shapeE n a b).fst.x (shapeE n a b).fst.c * elems a.h a.x a.c) (by omega))
          exact (VC.run (fn := Try.f32) (W := [.r [] [], .r [] [.callr (rO oz0)], .r [] [], .br false, .r [] [.callr (rO oz2)], .r [] [], .br false, .r [] [.op false, .op false, .op false, .sel 1, .op false, .op false, .op false, .sel 1], .br false, .r [] [], .br true, .r [] [.callr (rO oz6), .n (nO oz7)]]) (r := i64 (elems (shapeE n a b).fst.h (shapeE n a b).fst.x (shapeE n a b).fst.c * elems a.h a.x a.c)) Try.func32 (by kernel_rfl) (.c oz0 <| .c hc0 <| .c oz2 <| .c hc1 <| .c hc2 <| .c hc3 <| .c oz6 <| .c oz7 <| .n)).weak (WeakL.refl _) (Weak.int (show ((elems (shapeE n a b).fst.h (shapeE n a b).fst.x (shapeE n a b).fst.c * elems a.h a.x a.c) : Int) = (costE n a b) from (by (unfold costE; (repeat first | rw [if_pos (by omega)] | rw [if_neg (by omega)])))))
        · have gc3 : ¬n.kd = 3 := bef hc3
          exact (VC.run (fn := Try.f32) (W := [.r [] [], .r [] [.callr (rO oz0)], .r [] [], .br false, .r [] [.callr (rO oz2)], .r [] [], .br false, .r [] [.op false, .op false, .op false, .sel 1, .op false, .op false, .op false, .sel 1], .br false, .r [] [], .br false, .r [] []]) (r := i64 (elems (shapeE n a b).fst.h (shapeE n a b).fst.x (shapeE n a b).fst.c)) Try.func32 (by kernel_rfl) (.c oz0 <| .c hc0 <| .c oz2 <| .c hc1 <| .c hc2 <| .c hc3 <| .n)).weak (WeakL.refl _) (Weak.int (show ((elems (shapeE n a b).fst.h (shapeE n a b).fst.x (shapeE n a b).fst.c) : Int) = (costE n a b) from (by (unfold costE; (repeat first | rw [if_pos (by omega)] | rw [if_neg (by omega)])))))
/-- What nodes cost together, 1 for the block itself. -/
def costL (l : List Nod) (S : List Shp) : Nat → Int
  | 0 => 1
  | k + 1 => costL l S k + costE (l.getD k default) (S.getD (l.getD k default).na.toNat default) (S.getD (secN (l.getD k default)).toNat default)
theorem costL_bd (l : List Nod) (S : List Shp) : ∀ k, 1 ≤ costL l S k ∧ costL l S k ≤ 1 + 26214400 * k
  | 0 => by simp [costL]
  | k + 1 => by
    have h1 := costL_bd l S k
    have h2 := costE_bd (l.getD k default) (S.getD (l.getD k default).na.toNat default) (S.getD (secN (l.getD k default)).toNat default)
    rw [costL]; omega
def exitC (x : Blc) (a : Shp) (cl : Int) : Int := if x.ex = true then min (max cl 0) 16 * (elems (lastS x.n a).h (lastS x.n a).x (lastS x.n a).c + 1) else 0
def blockC (x : Blc) (a : Shp) (cl : Int) : Int := costL x.n (shpsL x.n a) x.n.length + exitC x a cl
theorem shps_at {l : List Nod} {a : Shp} (h : SOK l a) {k : Nat} (hk : k < l.length) : (0 ≤ (l.getD k default).na ∧ (l.getD k default).na.toNat < (shpsL l a).length ∧ 0 ≤ secN (l.getD k default) ∧ (secN (l.getD k default)).toNat < (shpsL l a).length ∧ (l.getD k default).na < (shpsL l a).length ∧ secN (l.getD k default) < (shpsL l a).length) ∧ ((shpsL l a).getD (l.getD k default).na.toNat default).Ok ∧ ((shpsL l a).getD (secN (l.getD k default)).toNat default).Ok := by
  have q := h.k k hk
  unfold errL at q
  obtain ⟨_, c2, _⟩ := nextE_ok q
  have q2 := grow_ok (l := l) h.i.ok k
  obtain ⟨c4, _, _⟩ := there_at q2 c2
  have q1 := growL_len nextE l a k
  have q3 : (shpsL l a).length = l.length + 1 := growL_len nextE l a l.length
  have q4 := grow_ok (l := l) h.i.ok l.length
  exact ⟨⟨by omega, by omega, by omega, by omega, by omega, by omega⟩, getD_in q4 (show _ < (shpsL l a).length by omega), getD_in q4 (show _ < (shpsL l a).length by omega)⟩
noncomputable def cblock_l_I (x : Blc) (a : Shp) (cl : Int) (k : Nat) : VS := stt 71 [(2, i64 cl), (3, .ptr 3 0 0), (8, .sl 3 ((shpsL x.n a).map shpC)), (11, i64 (costL x.n (shpsL x.n a) k)), (27, .sl 19 (x.n.map nodC)), (28, i64 x.n.length), (29, i64 k)] [(3, .var (blcC x))]
noncomputable def cblock_l_Z (x : Blc) (a : Shp) (cl : Int) : VS := cblock_l_I x a cl (x.n.length)
set_option maxRecDepth 100000 in
set_option maxHeartbeats 2000000 in
theorem cblock_l_s (x : Blc) (a : Shp) (cl : Int) (ok : x.Ok) (h : SOK x.n a) (k : Nat) (hk : k < x.n.length) : VT Try.prog (fnC Try.f28 [1, 1, 1, 1, 0, 1, 0, 0]) (cblock_l_I x a cl k) .normal (cblock_l_I x a cl (k + 1)) := by
  have q1 := costL_bd x.n (shpsL x.n a) k
  have q2 := costE_bd (x.n.getD k default) ((shpsL x.n a).getD (x.n.getD k default).na.toNat default) ((shpsL x.n a).getD (secN (x.n.getD k default)).toNat default)
  have q3 := h.f
  obtain ⟨c4, c5, c6⟩ := shps_at h hk
  have q4 := getD_in ok.n hk
  have q5 : (List.map shpC (shpsL x.n a)).length = (shpsL x.n a).length := List.length_map _
  have q6 : (x.n.getD k default).kd = 6 → secN (x.n.getD k default) = (x.n.getD k default).nb := fun h => if_pos h
  have q7 : ¬ (x.n.getD k default).kd = 6 → secN (x.n.getD k default) = (x.n.getD k default).na := fun h => if_neg h
  have q8 : (x.n.getD k default).kd = 6 → ((shpsL x.n a).getD (x.n.getD k default).nb.toNat default).Ok ∧ (x.n.getD k default).nb < (shpsL x.n a).length ∧ costE (x.n.getD k default) ((shpsL x.n a).getD (x.n.getD k default).na.toNat default) ((shpsL x.n a).getD (x.n.getD k default).nb.toNat default) ≤ 26214400 ∧ 0 ≤ costE (x.n.getD k default) ((shpsL x.n a).getD (x.n.getD k default).na.toNat default) ((shpsL x.n a).getD (x.n.getD k default).nb.toNat default) := fun h => by rw [← q6 h]; exact ⟨c6, by omega, q2.2, q2.1⟩
  have q9 : ¬ (x.n.getD k default).kd = 6 → costE (x.n.getD k default) ((shpsL x.n a).getD (x.n.getD k default).na.toNat default) ((shpsL x.n a).getD (x.n.getD k default).na.toNat default) ≤ 26214400 ∧ 0 ≤ costE (x.n.getD k default) ((shpsL x.n a).getD (x.n.getD k default).na.toNat default) ((shpsL x.n a).getD (x.n.getD k default).na.toNat default) := fun h => by
    have q2 := q2; rw [q7 h] at q2; exact ⟨q2.2, q2.1⟩
  have oz0 := (decide_eq_true (p := ((↑k : Int) < (↑x.n.length : Int))) (by omega))
  have oz1 := (show 0 ≤ (↑k : Int) by omega)
  have oz2 := (map_at (nodC) (default) (l := x.n) (i := k) hk)
  rcases Bool.eq_false_or_eq_true ((x.n.getD k default).kd == 6) with hc0 | hc0
  · have gc0 : (x.n.getD k default).kd = 6 := bet hc0
    have oz5 := (map_at (shpC) (default) (l := shpsL x.n a) (i := (x.n.getD k default).na.toNat) (by omega))
    have oz7 := (map_at (shpC) (default) (l := shpsL x.n a) (i := (x.n.getD k default).nb.toNat) (by omega))
    have oz8 := @costNode_v (x.n.getD k default) ((shpsL x.n a).getD (x.n.getD k default).na.toNat default) ((shpsL x.n a).getD (x.n.getD k default).nb.toNat default) q4 c5 (by (exact (q8 (by omega)).1))
    have oz9 := (IntWalk.i64_in (costL x.n (shpsL x.n a) k + costE (x.n.getD k default) ((shpsL x.n a).getD (x.n.getD k default).na.toNat default) ((shpsL x.n a).getD (x.n.getD k default).nb.toNat default)) (by omega))
    have oz11 := (Weak.int (k := .i64) (show ((costL x.n (shpsL x.n a) k + costE (x.n.getD k default) ((shpsL x.n a).getD (x.n.getD k default).na.toNat default) ((shpsL x.n a).getD (x.n.getD k default).nb.toNat default)) : Int) = (costL x.n (shpsL x.n a) (k + 1)) from (by (rw [costL, q6 (by omega)]))))
    exact VT.run (W := [.r [] [], .br true, .r [] [.row (sO oz2)], .r [] [], .r [] [], .br true, .r [] [], .r [] [.row (sO oz5), .row (sO oz7), .callr (rO oz8), .n (nO oz9)], .r [] [.n ((↑k : Int) + 1)]]) (G := [.any (rg [(13, 2), (30, 24)]), .drop [13], .weak 11 (wO oz11), .weak 29 (i64 (↑(k + 1) : Int)), .sort]) (by kernel_rfl) (.c oz0 <| .c oz1 <| .c oz2 <| .c hc0 <| .c (show 0 ≤ (x.n.getD k default).na by omega) <| .c oz5 <| .c (show 0 ≤ (x.n.getD k default).nb by omega) <| .c oz7 <| .c oz8 <| .c oz9 <| .c (IntWalk.i64_in ((↑k : Int) + 1) (by omega)) <| .c oz11 <| .c (Weak.int (k := .i64) (show (((↑k : Int) + 1) : Int) = ((↑(k + 1) : Int)) from (by omega))) <| .n)
  · have gc0 : ¬(x.n.getD k default).kd = 6 := bef hc0
    have oz4 := (show 0 ≤ (x.n.getD k default).na by omega)
    have oz5 := (map_at (shpC) (default) (l := shpsL x.n a) (i := (x.n.getD k default).na.toNat) (by omega))
    have oz8 := @costNode_v (x.n.getD k default) ((shpsL x.n a).getD (x.n.getD k default).na.toNat default) ((shpsL x.n a).getD (x.n.getD k default).na.toNat default) q4 c5 c5
    have oz9 := (IntWalk.i64_in (costL x.n (shpsL x.n a) k + costE (x.n.getD k default) ((shpsL x.n a).getD (x.n.getD k default).na.toNat default) ((shpsL x.n a).getD (x.n.getD k default).na.toNat default)) (by omega))
    have oz11 := (Weak.int (k := .i64) (show ((costL x.n (shpsL x.n a) k + costE (x.n.getD k default) ((shpsL x.n a).getD (x.n.getD k default).na.toNat default) ((shpsL x.n a).getD (x.n.getD k default).na.toNat default)) : Int) = (costL x.n (shpsL x.n a) (k + 1)) from (by (rw [costL, q7 (by omega)]))))
    exact VT.run (W := [.r [] [], .br true, .r [] [.row (sO oz2)], .r [] [], .r [] [], .br false, .r [] [.row (sO oz5), .row (sO oz5), .callr (rO oz8), .n (nO oz9)], .r [] [.n ((↑k : Int) + 1)]]) (G := [.any (rg [(13, 2), (30, 8), (40, 14)]), .drop [13], .weak 11 (wO oz11), .weak 29 (i64 (↑(k + 1) : Int)), .sort]) (by kernel_rfl) (.c oz0 <| .c oz1 <| .c oz2 <| .c hc0 <| .c oz4 <| .c oz5 <| .c oz4 <| .c oz5 <| .c oz8 <| .c oz9 <| .c (IntWalk.i64_in ((↑k : Int) + 1) (by omega)) <| .c oz11 <| .c (Weak.int (k := .i64) (show (((↑k : Int) + 1) : Int) = ((↑(k + 1) : Int)) from (by omega))) <| .n)
set_option maxRecDepth 100000 in
set_option maxHeartbeats 2000000 in
theorem cblock_l_e (x : Blc) (a : Shp) (cl : Int) (ok : x.Ok) (h : SOK x.n a) : VT Try.prog (fnC Try.f28 [1, 1, 1, 1, 0, 1, 0, 0]) (cblock_l_I x a cl (x.n.length)) (.exit 0) (cblock_l_Z x a cl) := by
  exact VT.run (W := [.r [] [], .br false]) (G := [.any [30], .sort]) (by kernel_rfl) (.c (decide_eq_false (p := ((↑x.n.length : Int) < (↑x.n.length : Int))) (by omega)) <| .n)
theorem cblock_l (x : Blc) (a : Shp) (cl : Int) (ok : x.Ok) (h : SOK x.n a) : VT Try.prog (fnC Try.f28 [1, 1, 1, 1, 0, 1, 0]) (cblock_l_I x a cl 0) (.exit 0) (cblock_l_Z x a cl) :=
  VT.loop (fun k => cblock_l_I x a cl k) (x.n.length) (fun k hk => cblock_l_s x a cl ok h k hk) (cblock_l_e x a cl ok h) (by intro h; cases h)
theorem minmax (c : Int) : (if 16 < (if 0 > c then 0 else c) then 16 else (if 0 > c then 0 else c)) = min (max c 0) 16 := by omega
theorem exitC_bd (x : Blc) (a : Shp) (cl : Int) : 0 ≤ exitC x a cl ∧ exitC x a cl ≤ 16400 := by
  have q := elems_in (lastS x.n a).h (lastS x.n a).x (lastS x.n a).c
  have := mul_bd (A := 16) (B := 1025) (a := min (max cl 0) 16) (b := elems (lastS x.n a).h (lastS x.n a).x (lastS x.n a).c + 1) (by omega) (by omega) (by omega) (by omega)
  unfold exitC; split <;> omega
theorem cblock_e {x : Blc} {a : Shp} {cl : Int} (f8 : x.n.length ≤ 8) (h : x.ex = true) : IntKind.i64.wrap (costL x.n (shpsL x.n a) x.n.length + IntKind.i64.wrap ((if 16 < if 0 > cl then 0 else cl then 16 else if 0 > cl then 0 else cl) *
    IntKind.i64.wrap (elems (lastS x.n a).h (lastS x.n a).x (lastS x.n a).c + 1))) = blockC x a cl := by
  have q := elems_in (lastS x.n a).h (lastS x.n a).x (lastS x.n a).c
  have q2 := costL_bd x.n (shpsL x.n a) x.n.length
  have q3 := exitC_bd x a cl
  have e : exitC x a cl = min (max cl 0) 16 * (elems (lastS x.n a).h (lastS x.n a).x (lastS x.n a).c + 1) := if_pos h
  rw [IntWalk.i64_in (elems (lastS x.n a).h (lastS x.n a).x (lastS x.n a).c + 1) (by omega), minmax, ← e, IntWalk.i64_in (exitC x a cl) (by omega), IntWalk.i64_in (costL x.n (shpsL x.n a) x.n.length + exitC x a cl) (by omega)]
  rfl
theorem blockC_n {x : Blc} {a : Shp} {cl : Int} (h : x.ex = false) : costL x.n (shpsL x.n a) x.n.length = blockC x a cl := by
  unfold blockC exitC; rw [h]; simp
theorem blockC_bd {x : Blc} {a : Shp} {cl : Int} (f8 : x.n.length ≤ 8) : 1 ≤ blockC x a cl ∧ blockC x a cl ≤ 300000000 := by
  have q2 := costL_bd x.n (shpsL x.n a) x.n.length
  have q3 := exitC_bd x a cl
  unfold blockC; omega
set_option maxRecDepth 100000 in
set_option maxHeartbeats 2000000 in
theorem cblock_y (x : Blc) (a : Shp) (cl : Int) (ok : x.Ok) (ws : ∀ n ∈ x.n, n.w.length ≤ 100000 ∧ n.b.length ≤ 100000) (h : SOK x.n a) : VC Try.prog 28 ([blc x, shp a, i64 cl]) (.tup [i64 (blockC x a cl), i64 0]) := by
  have q1 := ok.n
  have q2 := costL_bd x.n (shpsL x.n a) x.n.length
  have q3 := h.f
  have l1 := shpsL_len x.n a
  have l3 : (List.map shpC (shpsL x.n a)).length = (shpsL x.n a).length := List.length_map _
  have ix : ((↑(List.map shpC (shpsL x.n a)).length : Int) - 1).toNat = x.n.length := by omega
  have s3 := lastS_ok (l := x.n) h.i.ok
  have s4 := @cblock_e x a cl q3
  have oz0 := @shapes_y (x.n) (a) q1 ws h
  have oz1 := (show false = false by with_reducible rfl)
  have oz2 := (Weak.int (k := .i64) (show ((1) : Int) = (costL x.n (shpsL x.n a) 0) from (by rfl)))
  have oz3 := (Weak.int (k := .i64) (show (((↑(List.map nodC x.n).length : Int)) : Int) = ((↑x.n.length : Int)) from (by (simp; done))))
  have oz4 := (Weak.int (k := .i64) (show ((0) : Int) = ((↑0 : Int)) from (by omega)))
  have oz5 := @cblock_l (x) (a) (cl) ok h
  rcases Bool.eq_false_or_eq_true (x.ex) with hc0 | hc0
  · have gc0 : x.ex = true := by first | exact hc0 | exact of_decide_eq_true hc0 | exact of_decide_eq_false hc0 | simpa [eqNums] using hc0 | (simp [eqNums] at hc0 ⊢; first | done | assumption | omega)
    have oz7 := (IntWalk.i64_in ((↑(List.map shpC (shpsL x.n a)).length : Int) - 1) (by omega))
    have oz9 := (map_at (shpC) (default) (l := shpsL x.n a) (i := ((↑(List.map shpC (shpsL x.n a)).length : Int) - 1).toNat) (by omega))
    have oz10 := @elems_v (((shpsL x.n a).getD ((↑(List.map shpC (shpsL x.n a)).length : Int) - 1).toNat default).h) (((shpsL x.n a).getD ((↑(List.map shpC (shpsL x.n a)).length : Int) - 1).toNat default).x) (((shpsL x.n a).getD ((↑(List.map shpC (shpsL x.n a)).length : Int) - 1).toNat default).c) (by (rw [ix]; exact s3.h)) (by (rw [ix]; exact s3.x)) (by (rw [ix]; exact s3.c))
    exact (VC.run (fn := Try.f28) (W := [.r [] [], .r [] [.callr (rO oz0)], .r [] [], .br false, .r [] [], .r [] [], .code [.any (rg [(0, 2), (4, 1), (6, 2), (9, 2), (15, 10), (26, 1)]), .drop [4], .weak 11 (wO oz2), .weak 28 (wO oz3), .weak 29 (wO oz4), .sort] (Exit.exit 0) (zO oz5), .r [] [], .br true, .r [] [.n (nO oz7), .row (sO oz9), .callr (rO oz10), .w, .w, .w], .r [] []]) (r := AV.tup [i64 (IntKind.i64.wrap (costL x.n (shpsL x.n a) x.n.length + IntKind.i64.wrap ((if 16 < if 0 > cl then 0 else cl then 16 else if 0 > cl then 0 else cl) * IntKind.i64.wrap (elems ((shpsL x.n a).getD ((↑(List.map shpC (shpsL x.n a)).length : Int) - 1).toNat default).h ((shpsL x.n a).getD ((↑(List.map shpC (shpsL x.n a)).length : Int) - 1).toNat default).x ((shpsL x.n a).getD ((↑(List.map shpC (shpsL x.n a)).length : Int) - 1).toNat default).c + 1)))), i64 0]) Try.func28 (by kernel_rfl) (.c oz0 <| .c oz1 <| .c oz2 <| .c oz3 <| .c oz4 <| .c oz5 <| .c hc0 <| .c oz7 <| .c (show 0 ≤ (↑(List.map shpC (shpsL x.n a)).length : Int) - 1 by omega) <| .c oz9 <| .c oz10 <| .n)).weak (WeakL.refl _) (Weak.tup (.cons (Weak.int (show ((IntKind.i64.wrap (costL x.n (shpsL x.n a) x.n.length + IntKind.i64.wrap ((if 16 < if 0 > cl then 0 else cl then 16 else if 0 > cl then 0 else cl) * IntKind.i64.wrap (elems ((shpsL x.n a).getD ((↑(List.map shpC (shpsL x.n a)).length : Int) - 1).toNat default).h ((shpsL x.n a).getD ((↑(List.map shpC (shpsL x.n a)).length : Int) - 1).toNat default).x ((shpsL x.n a).getD ((↑(List.map shpC (shpsL x.n a)).length : Int) - 1).toNat default).c + 1)))) : Int) = (blockC x a cl) from (by (rw [ix]; exact s4 (by assumption))))) (.cons (.refl _) .nil)))
  · have gc0 : x.ex = false := by first | exact hc0 | exact of_decide_eq_true hc0 | exact of_decide_eq_false hc0 | simpa [eqNums] using hc0 | (simp [eqNums] at hc0 ⊢; first | done | assumption | omega)
    exact (VC.run (fn := Try.f28) (W := [.r [] [], .r [] [.callr (rO oz0)], .r [] [], .br false, .r [] [], .r [] [], .code [.any (rg [(0, 2), (4, 1), (6, 2), (9, 2), (15, 10), (26, 1)]), .drop [4], .weak 11 (wO oz2), .weak 28 (wO oz3), .weak 29 (wO oz4), .sort] (Exit.exit 0) (zO oz5), .r [] [], .br false, .r [] []]) (r := AV.tup [i64 (costL x.n (shpsL x.n a) x.n.length), i64 0]) Try.func28 (by kernel_rfl) (.c oz0 <| .c oz1 <| .c oz2 <| .c oz3 <| .c oz4 <| .c oz5 <| .c hc0 <| .n)).weak (WeakL.refl _) (Weak.tup (.cons (Weak.int (show ((costL x.n (shpsL x.n a) x.n.length) : Int) = (blockC x a cl) from (by (exact blockC_n (by assumption))))) (.cons (.refl _) .nil)))

set_option maxRecDepth 100000 in
set_option maxHeartbeats 2000000 in
theorem cblock_n (x : Blc) (a : Shp) (cl : Int) (ok : x.Ok) (oka : a.Ok) (sm : x.n.length ≤ 12) (ws : ∀ n ∈ x.n, n.w.length ≤ 100000 ∧ n.b.length ≤ 100000) (h : ¬ SOK x.n a) : VC Try.prog 28 ([blc x, shp a, i64 cl]) (.tup [i64 0, i64 (shapesE x.n a).2]) := by
  have q1 := ok.n
  have q6 := shapesE_n h
  have oz0 := @shapes_n (x.n) (a) q1 ws oka (by omega) h
  exact VC.run (fn := Try.f28) (W := [.r [] [], .r [] [.callr (rO oz0)], .r [] [], .br true, .r [] []]) Try.func28 (by kernel_rfl) (.c oz0 <| .c (show ((shapesE x.n a).snd != 0) = true by (simp; omega)) <| .n)

set_option maxRecDepth 100000 in
set_option maxHeartbeats 2000000 in
theorem cout_y (x : Blc) (a : Shp) (ok : x.Ok) (ws : ∀ n ∈ x.n, n.w.length ≤ 100000 ∧ n.b.length ≤ 100000) (h : SOK x.n a) : VC Try.prog 29 ([blc x, shp a]) (.tup [shp (lastS x.n a), i64 0]) := by
  have q1 := ok.n
  have q3 := h.f
  have l1 := growL_len nextE x.n a x.n.length
  have l3 : (List.map shpC (growL nextE x.n a x.n.length)).length = (growL nextE x.n a x.n.length).length := List.length_map _
  have ix : ((↑(List.map shpC (growL nextE x.n a x.n.length)).length : Int) - 1).toNat = x.n.length := by omega
  have oz0 := @shapes_y (x.n) (a) q1 ws h
  have oz2 := (IntWalk.i64_in ((↑(List.map shpC (growL nextE x.n a x.n.length)).length : Int) - 1) (by omega))
  have oz4 := (map_at (shpC) (default) (l := growL nextE x.n a x.n.length) (i := ((↑(List.map shpC (growL nextE x.n a x.n.length)).length : Int) - 1).toNat) (by omega))
  exact (VC.run (fn := Try.f29) (W := [.r [] [], .r [] [.callr (rO oz0)], .r [] [], .br false, .r [] [.n (nO oz2), .row (sO oz4)]]) (r := AV.tup [AV.agg [i64 ((growL nextE x.n a x.n.length).getD ((↑(List.map shpC (growL nextE x.n a x.n.length)).length : Int) - 1).toNat default).h, i64 ((growL nextE x.n a x.n.length).getD ((↑(List.map shpC (growL nextE x.n a x.n.length)).length : Int) - 1).toNat default).x, i64 ((growL nextE x.n a x.n.length).getD ((↑(List.map shpC (growL nextE x.n a x.n.length)).length : Int) - 1).toNat default).c], i64 0]) Try.func29 (by kernel_rfl) (.c oz0 <| .c (show false = false by with_reducible rfl) <| .c oz2 <| .c (show 0 ≤ (↑(List.map shpC (growL nextE x.n a x.n.length)).length : Int) - 1 by omega) <| .c oz4 <| .n)).weak (WeakL.refl _) (Weak.tup (.cons (Weak.agg (.cons (Weak.int (show ((((growL nextE x.n a x.n.length).getD ((↑(List.map shpC (growL nextE x.n a x.n.length)).length : Int) - 1).toNat default).h) : Int) = ((lastS x.n a).h) from (by (rw [ix] <;> rfl)))) (.cons (Weak.int (show ((((growL nextE x.n a x.n.length).getD ((↑(List.map shpC (growL nextE x.n a x.n.length)).length : Int) - 1).toNat default).x) : Int) = ((lastS x.n a).x) from (by (rw [ix] <;> rfl)))) (.cons (Weak.int (show ((((growL nextE x.n a x.n.length).getD ((↑(List.map shpC (growL nextE x.n a x.n.length)).length : Int) - 1).toNat default).c) : Int) = ((lastS x.n a).c) from (by (rw [ix] <;> rfl)))) .nil)))) (.cons (.refl _) .nil)))

set_option maxRecDepth 100000 in
set_option maxHeartbeats 2000000 in
theorem cout_n (x : Blc) (a : Shp) (ok : x.Ok) (oka : a.Ok) (sm : x.n.length ≤ 12) (ws : ∀ n ∈ x.n, n.w.length ≤ 100000 ∧ n.b.length ≤ 100000) (h : ¬ SOK x.n a) : VC Try.prog 29 ([blc x, shp a]) (.tup [shp zsh, i64 (shapesE x.n a).2]) := by
  have q1 := ok.n
  have q6 := shapesE_n h
  have oz0 := @shapes_n (x.n) (a) q1 ws oka (by omega) h
  exact VC.run (fn := Try.f29) (W := [.r [] [], .r [] [.callr (rO oz0)], .r [] [], .br true, .r [] []]) Try.func29 (by kernel_rfl) (.c oz0 <| .c (show ((shapesE x.n a).snd != 0) = true by (simp; omega)) <| .n)

noncomputable def rcblock_l_I (x : Blc) (a : Shp) (cl : Int) (k : Nat) : VS := stt 90 [(2, i64 cl), (3, .ptr 3 0 0), (7, .ptr 7 0 0), (9, .sl 3 ((shpsL x.n a).map shpC)), (12, i64 (costL x.n (shpsL x.n a) k)), (13, i64 k)] [(3, .var (blcC x)), (7, .var [i64 0, i64 0, i64 0])]
noncomputable def rcblock_l_Z (x : Blc) (a : Shp) (cl : Int) : VS := rcblock_l_I x a cl (x.n.length)
set_option maxRecDepth 100000 in
set_option maxHeartbeats 2000000 in
theorem rcblock_l_s (x : Blc) (a : Shp) (cl : Int) (ok : x.Ok) (h : SOK x.n a) (k : Nat) (hk : k < x.n.length) : VT Try.prog (fnC Try.f30 [1, 1, 1, 1, 0, 1, 0, 0]) (rcblock_l_I x a cl k) .normal (rcblock_l_I x a cl (k + 1)) := by
  have q1 := costL_bd x.n (shpsL x.n a) k
  have q2 := costE_bd (x.n.getD k default) ((shpsL x.n a).getD (x.n.getD k default).na.toNat default) ((shpsL x.n a).getD (secN (x.n.getD k default)).toNat default)
  have q3 := h.f
  obtain ⟨c4, c5, c6⟩ := shps_at h hk
  have q4 := getD_in ok.n hk
  have q5 : (List.map shpC (shpsL x.n a)).length = (shpsL x.n a).length := List.length_map _
  have q6 : (x.n.getD k default).kd = 6 → secN (x.n.getD k default) = (x.n.getD k default).nb := fun h => if_pos h
  have q7 : ¬ (x.n.getD k default).kd = 6 → secN (x.n.getD k default) = (x.n.getD k default).na := fun h => if_neg h
  have q8 : (x.n.getD k default).kd = 6 → ((shpsL x.n a).getD (x.n.getD k default).nb.toNat default).Ok ∧ (x.n.getD k default).nb < (shpsL x.n a).length ∧ costE (x.n.getD k default) ((shpsL x.n a).getD (x.n.getD k default).na.toNat default) ((shpsL x.n a).getD (x.n.getD k default).nb.toNat default) ≤ 26214400 ∧ 0 ≤ costE (x.n.getD k default) ((shpsL x.n a).getD (x.n.getD k default).na.toNat default) ((shpsL x.n a).getD (x.n.getD k default).nb.toNat default) ∧ 0 ≤ (x.n.getD k default).nb := fun h => by rw [← q6 h]; exact ⟨c6, by omega, q2.2, q2.1, by omega⟩
  have q9 : ¬ (x.n.getD k default).kd = 6 → costE (x.n.getD k default) ((shpsL x.n a).getD (x.n.getD k default).na.toNat default) ((shpsL x.n a).getD (x.n.getD k default).na.toNat default) ≤ 26214400 ∧ 0 ≤ costE (x.n.getD k default) ((shpsL x.n a).getD (x.n.getD k default).na.toNat default) ((shpsL x.n a).getD (x.n.getD k default).na.toNat default) := fun h => by
    have q2 := q2; rw [q7 h] at q2; exact ⟨q2.2, q2.1⟩
  have oz0 := (show decide ((↑k : Int) < (↑(List.map nodC x.n).length : Int)) = true by (simp; omega))
  have oz1 := (show 0 ≤ (↑k : Int) by omega)
  have oz2 := (map_at (nodC) (default) (l := x.n) (i := k) hk)
  rcases Bool.eq_false_or_eq_true ((x.n.getD k default).kd == 6) with hc0 | hc0
  · have gc0 : (x.n.getD k default).kd = 6 := bet hc0
    have oz5 := (map_at (shpC) (default) (l := shpsL x.n a) (i := (x.n.getD k default).na.toNat) (by omega))
    have oz7 := (map_at (shpC) (default) (l := shpsL x.n a) (i := (x.n.getD k default).nb.toNat) (by omega))
    have oz8 := @refCostNode_v (x.n.getD k default) ((shpsL x.n a).getD (x.n.getD k default).na.toNat default) ((shpsL x.n a).getD (x.n.getD k default).nb.toNat default) q4 c5 (by (exact (q8 (by omega)).1))
    have oz9 := (IntWalk.i64_in (costL x.n (shpsL x.n a) k + costE (x.n.getD k default) ((shpsL x.n a).getD (x.n.getD k default).na.toNat default) ((shpsL x.n a).getD (x.n.getD k default).nb.toNat default)) (by omega))
    have oz11 := (Weak.int (k := .i64) (show ((costL x.n (shpsL x.n a) k + costE (x.n.getD k default) ((shpsL x.n a).getD (x.n.getD k default).na.toNat default) ((shpsL x.n a).getD (x.n.getD k default).nb.toNat default)) : Int) = (costL x.n (shpsL x.n a) (k + 1)) from (by (rw [costL, q6 (by omega)]))))
    exact VT.run (W := [.r [] [], .br true, .r [] [.row (sO oz2)], .r [] [], .br true, .r [] [.row (sO oz5), .row (sO oz7), .callr (rO oz8), .n (nO oz9)], .r [] [.n ((↑k : Int) + 1)]]) (G := [.any (rg [(14, 1), (28, 29)]), .drop [14], .weak 12 (wO oz11), .weak 13 (i64 (↑(k + 1) : Int)), .sort]) (by kernel_rfl) (.c oz0 <| .c oz1 <| .c oz2 <| .c hc0 <| .c (show 0 ≤ (x.n.getD k default).na by omega) <| .c oz5 <| .c (show 0 ≤ (x.n.getD k default).nb by omega) <| .c oz7 <| .c oz8 <| .c oz9 <| .c (IntWalk.i64_in ((↑k : Int) + 1) (by omega)) <| .c oz11 <| .c (Weak.int (k := .i64) (show (((↑k : Int) + 1) : Int) = ((↑(k + 1) : Int)) from (by omega))) <| .n)
  · have gc0 : ¬(x.n.getD k default).kd = 6 := bef hc0
    have oz4 := (show 0 ≤ (x.n.getD k default).na by omega)
    have oz5 := (map_at (shpC) (default) (l := shpsL x.n a) (i := (x.n.getD k default).na.toNat) (by omega))
    have oz8 := @refCostNode_v (x.n.getD k default) ((shpsL x.n a).getD (x.n.getD k default).na.toNat default) ((shpsL x.n a).getD (x.n.getD k default).na.toNat default) q4 c5 c5
    have oz9 := (IntWalk.i64_in (costL x.n (shpsL x.n a) k + costE (x.n.getD k default) ((shpsL x.n a).getD (x.n.getD k default).na.toNat default) ((shpsL x.n a).getD (x.n.getD k default).na.toNat default)) (by omega))
    have oz11 := (Weak.int (k := .i64) (show ((costL x.n (shpsL x.n a) k + costE (x.n.getD k default) ((shpsL x.n a).getD (x.n.getD k default).na.toNat default) ((shpsL x.n a).getD (x.n.getD k default).na.toNat default)) : Int) = (costL x.n (shpsL x.n a) (k + 1)) from (by (rw [costL, q7 (by omega)]))))
    exact VT.run (W := [.r [] [], .br true, .r [] [.row (sO oz2)], .r [] [], .br false, .r [] [.row (sO oz5), .row (sO oz5), .callr (rO oz8), .n (nO oz9)], .r [] [.n ((↑k : Int) + 1)]]) (G := [.any (rg [(14, 1), (28, 15), (57, 14)]), .drop [14], .weak 12 (wO oz11), .weak 13 (i64 (↑(k + 1) : Int)), .sort]) (by kernel_rfl) (.c oz0 <| .c oz1 <| .c oz2 <| .c hc0 <| .c oz4 <| .c oz5 <| .c oz4 <| .c oz5 <| .c oz8 <| .c oz9 <| .c (IntWalk.i64_in ((↑k : Int) + 1) (by omega)) <| .c oz11 <| .c (Weak.int (k := .i64) (show (((↑k : Int) + 1) : Int) = ((↑(k + 1) : Int)) from (by omega))) <| .n)
set_option maxRecDepth 100000 in
set_option maxHeartbeats 2000000 in
theorem rcblock_l_e (x : Blc) (a : Shp) (cl : Int) (ok : x.Ok) (h : SOK x.n a) : VT Try.prog (fnC Try.f30 [1, 1, 1, 1, 0, 1, 0, 0]) (rcblock_l_I x a cl (x.n.length)) (.exit 0) (rcblock_l_Z x a cl) := by
  exact VT.run (W := [.r [] [], .br false]) (G := [.any (rg [(28, 5)]), .sort]) (by kernel_rfl) (.c (show decide ((↑x.n.length : Int) < (↑(List.map nodC x.n).length : Int)) = false by (simp; done)) <| .n)
theorem rcblock_l (x : Blc) (a : Shp) (cl : Int) (ok : x.Ok) (h : SOK x.n a) : VT Try.prog (fnC Try.f30 [1, 1, 1, 1, 0, 1, 0]) (rcblock_l_I x a cl 0) (.exit 0) (rcblock_l_Z x a cl) :=
  VT.loop (fun k => rcblock_l_I x a cl k) (x.n.length) (fun k hk => rcblock_l_s x a cl ok h k hk) (rcblock_l_e x a cl ok h) (by intro h; cases h)

set_option maxRecDepth 100000 in
set_option maxHeartbeats 2000000 in
theorem rcblock_y (x : Blc) (a : Shp) (cl : Int) (ok : x.Ok) (ws : ∀ n ∈ x.n, n.w.length ≤ 100000 ∧ n.b.length ≤ 100000) (h : SOK x.n a) : VC Try.prog 30 ([blc x, shp a, i64 cl]) (.tup [i64 (blockC x a cl), shp (lastS x.n a), i64 0]) := by
  have q1 := ok.n
  have q2 := costL_bd x.n (shpsL x.n a) x.n.length
  have q3 := h.f
  have l1 := shpsL_len x.n a
  have l3 : (List.map shpC (shpsL x.n a)).length = (shpsL x.n a).length := List.length_map _
  have ix : ((↑(List.map shpC (shpsL x.n a)).length : Int) - 1).toNat = x.n.length := by omega
  have s3 := lastS_ok (l := x.n) h.i.ok
  have s4 := @cblock_e x a cl q3
  have oz0 := @rshapes_y (x.n) (a) q1 ws h
  have oz1 := (show false = false by with_reducible rfl)
  have oz2 := (Weak.int (k := .i64) (show ((1) : Int) = (costL x.n (shpsL x.n a) 0) from (by rfl)))
  have oz3 := (Weak.int (k := .i64) (show ((0) : Int) = ((↑0 : Int)) from (by omega)))
  have oz4 := @rcblock_l (x) (a) (cl) ok h
  have oz5 := (IntWalk.i64_in ((↑(List.map shpC (shpsL x.n a)).length : Int) - 1) (by omega))
  have oz6 := (show 0 ≤ (↑(List.map shpC (shpsL x.n a)).length : Int) - 1 by omega)
  have oz7 := (map_at (shpC) (default) (l := shpsL x.n a) (i := ((↑(List.map shpC (shpsL x.n a)).length : Int) - 1).toNat) (by omega))
  rcases Bool.eq_false_or_eq_true (x.ex) with hc0 | hc0
  · have gc0 : x.ex = true := by first | exact hc0 | exact of_decide_eq_true hc0 | exact of_decide_eq_false hc0 | simpa [eqNums] using hc0 | (simp [eqNums] at hc0 ⊢; first | done | assumption | omega)
    have oz9 := @refElems_v (((shpsL x.n a).getD ((↑(List.map shpC (shpsL x.n a)).length : Int) - 1).toNat default).h) (((shpsL x.n a).getD ((↑(List.map shpC (shpsL x.n a)).length : Int) - 1).toNat default).x) (((shpsL x.n a).getD ((↑(List.map shpC (shpsL x.n a)).length : Int) - 1).toNat default).c) (by (rw [ix]; exact s3.h)) (by (rw [ix]; exact s3.x)) (by (rw [ix]; exact s3.c))
    exact (VC.run (fn := Try.f30) (W := [.r [] [], .r [] [.callr (rO oz0)], .r [] [], .br false, .r [] [], .r [] [], .code [.any (rg [(0, 2), (4, 1), (6, 1), (8, 1), (10, 2), (16, 10)]), .drop [4], .weak 12 (wO oz2), .weak 13 (wO oz3), .sort] (Exit.exit 0) (zO oz4), .r [] [.n (nO oz5), .row (sO oz7)], .r [] [], .br true, .r [] [.callr (rO oz9), .w, .w, .w], .r [] []]) (r := AV.tup [i64 (IntKind.i64.wrap (costL x.n (shpsL x.n a) x.n.length + IntKind.i64.wrap ((if 16 < if 0 > cl then 0 else cl then 16 else if 0 > cl then 0 else cl) * IntKind.i64.wrap (elems ((shpsL x.n a).getD ((↑(List.map shpC (shpsL x.n a)).length : Int) - 1).toNat default).h ((shpsL x.n a).getD ((↑(List.map shpC (shpsL x.n a)).length : Int) - 1).toNat default).x ((shpsL x.n a).getD ((↑(List.map shpC (shpsL x.n a)).length : Int) - 1).toNat default).c + 1)))), AV.agg [i64 ((shpsL x.n a).getD ((↑(List.map shpC (shpsL x.n a)).length : Int) - 1).toNat default).h, i64 ((shpsL x.n a).getD ((↑(List.map shpC (shpsL x.n a)).length : Int) - 1).toNat default).x, i64 ((shpsL x.n a).getD ((↑(List.map shpC (shpsL x.n a)).length : Int) - 1).toNat default).c], i64 0]) Try.func30 (by kernel_rfl) (.c oz0 <| .c oz1 <| .c oz2 <| .c oz3 <| .c oz4 <| .c oz5 <| .c oz6 <| .c oz7 <| .c hc0 <| .c oz9 <| .n)).weak (WeakL.refl _) (Weak.tup (.cons (Weak.int (show ((IntKind.i64.wrap (costL x.n (shpsL x.n a) x.n.length + IntKind.i64.wrap ((if 16 < if 0 > cl then 0 else cl then 16 else if 0 > cl then 0 else cl) * IntKind.i64.wrap (elems ((shpsL x.n a).getD ((↑(List.map shpC (shpsL x.n a)).length : Int) - 1).toNat default).h ((shpsL x.n a).getD ((↑(List.map shpC (shpsL x.n a)).length : Int) - 1).toNat default).x ((shpsL x.n a).getD ((↑(List.map shpC (shpsL x.n a)).length : Int) - 1).toNat default).c + 1)))) : Int) = (blockC x a cl) from (by (rw [ix]; exact s4 (by assumption))))) (.cons (Weak.agg (.cons (Weak.int (show ((((shpsL x.n a).getD ((↑(List.map shpC (shpsL x.n a)).length : Int) - 1).toNat default).h) : Int) = ((lastS x.n a).h) from (by (rw [ix] <;> rfl)))) (.cons (Weak.int (show ((((shpsL x.n a).getD ((↑(List.map shpC (shpsL x.n a)).length : Int) - 1).toNat default).x) : Int) = ((lastS x.n a).x) from (by (rw [ix] <;> rfl)))) (.cons (Weak.int (show ((((shpsL x.n a).getD ((↑(List.map shpC (shpsL x.n a)).length : Int) - 1).toNat default).c) : Int) = ((lastS x.n a).c) from (by (rw [ix] <;> rfl)))) .nil)))) (.cons (.refl _) .nil))))
  · have gc0 : x.ex = false := by first | exact hc0 | exact of_decide_eq_true hc0 | exact of_decide_eq_false hc0 | simpa [eqNums] using hc0 | (simp [eqNums] at hc0 ⊢; first | done | assumption | omega)
    exact (VC.run (fn := Try.f30) (W := [.r [] [], .r [] [.callr (rO oz0)], .r [] [], .br false, .r [] [], .r [] [], .code [.any (rg [(0, 2), (4, 1), (6, 1), (8, 1), (10, 2), (16, 10)]), .drop [4], .weak 12 (wO oz2), .weak 13 (wO oz3), .sort] (Exit.exit 0) (zO oz4), .r [] [.n (nO oz5), .row (sO oz7)], .r [] [], .br false, .r [] []]) (r := AV.tup [i64 (costL x.n (shpsL x.n a) x.n.length), AV.agg [i64 ((shpsL x.n a).getD ((↑(List.map shpC (shpsL x.n a)).length : Int) - 1).toNat default).h, i64 ((shpsL x.n a).getD ((↑(List.map shpC (shpsL x.n a)).length : Int) - 1).toNat default).x, i64 ((shpsL x.n a).getD ((↑(List.map shpC (shpsL x.n a)).length : Int) - 1).toNat default).c], i64 0]) Try.func30 (by kernel_rfl) (.c oz0 <| .c oz1 <| .c oz2 <| .c oz3 <| .c oz4 <| .c oz5 <| .c oz6 <| .c oz7 <| .c hc0 <| .n)).weak (WeakL.refl _) (Weak.tup (.cons (Weak.int (show ((costL x.n (shpsL x.n a) x.n.length) : Int) = (blockC x a cl) from (by (exact blockC_n (by assumption))))) (.cons (Weak.agg (.cons (Weak.int (show ((((shpsL x.n a).getD ((↑(List.map shpC (shpsL x.n a)).length : Int) - 1).toNat default).h) : Int) = ((lastS x.n a).h) from (by (rw [ix] <;> rfl)))) (.cons (Weak.int (show ((((shpsL x.n a).getD ((↑(List.map shpC (shpsL x.n a)).length : Int) - 1).toNat default).x) : Int) = ((lastS x.n a).x) from (by (rw [ix] <;> rfl)))) (.cons (Weak.int (show ((((shpsL x.n a).getD ((↑(List.map shpC (shpsL x.n a)).length : Int) - 1).toNat default).c) : Int) = ((lastS x.n a).c) from (by (rw [ix] <;> rfl)))) .nil)))) (.cons (.refl _) .nil))))

set_option maxRecDepth 100000 in
set_option maxHeartbeats 2000000 in
theorem rcblock_n (x : Blc) (a : Shp) (cl : Int) (ok : x.Ok) (oka : a.Ok) (sm : x.n.length ≤ 12) (ws : ∀ n ∈ x.n, n.w.length ≤ 100000 ∧ n.b.length ≤ 100000) (h : ¬ SOK x.n a) : VC Try.prog 30 ([blc x, shp a, i64 cl]) (.tup [i64 0, shp zsh, i64 (shapesE x.n a).2]) := by
  have q1 := ok.n
  have q6 := shapesE_n h
  have oz0 := @rshapes_n (x.n) (a) q1 ws oka (by omega) h
  exact VC.run (fn := Try.f30) (W := [.r [] [], .r [] [.callr (rO oz0)], .r [] [], .br true, .r [] []]) Try.func30 (by kernel_rfl) (.c oz0 <| .c (show ((shapesE x.n a).snd != 0) = true by (simp; omega)) <| .n)
end Go.Proofs.Ytdmomnaoegkpiaa

