/- Windows over a tensor: shapes and sums, by the program and by the document. No condition. -/
import Derived.Test.YtgecmooedhnenaaSt2
namespace Go.Proofs.Ytgecmooedhnenaa
open Go.RowKit
set_option linter.unusedSimpArgs false
set_option linter.unusedVariables false
set_option linter.unnecessarySimpa false

/-- Sums. -/
def sumN (f : Nat → Int) : Nat → Int
  | 0 => 0
  | n + 1 => sumN f n + f n
theorem sumN_congr {f g : Nat → Int} : ∀ n, (∀ k, k < n → f k = g k) → sumN f n = sumN g n
  | 0, _ => rfl
  | n + 1, h => by rw [sumN, sumN, sumN_congr n fun k hk => h k (by omega), h n (by omega)]
theorem sumN_bd {f : Nat → Int} {B : Int} : ∀ n, (∀ k, k < n → -B ≤ f k ∧ f k ≤ B) → -(n * B) ≤ sumN f n ∧ sumN f n ≤ n * B
  | 0, _ => by simp [sumN]
  | n + 1, h => by
    have h1 := sumN_bd n fun k hk => h k (by omega)
    have h2 := h n (by omega)
    rw [sumN, succ_mul']; omega
theorem sumN_zero {f : Nat → Int} (n : Nat) (h : ∀ k, k < n → f k = 0) : sumN f n = 0 := by
  have := sumN_bd (f := f) (B := 0) n fun k hk => by rw [h k hk]; omega
  omega
theorem idx_bd {a b m n : Int} (a0 : 0 ≤ a) (a1 : a < m) (b0 : 0 ≤ b) (b1 : b < n) : 0 ≤ a * n + b ∧ a * n + b < m * n := by
  have h1 : 0 ≤ a * n := Int.mul_nonneg a0 (by omega)
  have h2 : (a + 1) * n ≤ m * n := Int.mul_le_mul_of_nonneg_right (by omega) (by omega)
  rw [Int.add_mul, Int.one_mul] at h2
  omega
theorem mul_bd {a b A B : Int} (a0 : 0 ≤ a) (a1 : a ≤ A) (b0 : 0 ≤ b) (b1 : b ≤ B) : 0 ≤ a * b ∧ a * b ≤ A * B :=
  ⟨Int.mul_nonneg a0 b0, Int.mul_le_mul a1 b1 b0 (by omega)⟩

theorem slideE_ok {t : Shp} {k s p o : Int} (h : (slideE t k s p o).2 = 0) : 0 < elems t.h t.x t.c ∧ 1 ≤ k ∧ k ≤ 5 ∧ 1 ≤ s ∧ s ≤ 4 ∧ 0 ≤ p ∧ p ≤ 4 ∧ p < k ∧ t.h + 2 * p ≥ k ∧ t.x + 2 * p ≥ k ∧
    (slideE t k s p o).1 = ⟨(t.h + 2 * p - k) / s + 1, (t.x + 2 * p - k) / s + 1, o⟩ ∧ 0 < elems ((t.h + 2 * p - k) / s + 1) ((t.x + 2 * p - k) / s + 1) o := by
  have step : ∀ n, (stepsE n k s p).2 = 0 → (1 ≤ n ∧ 1 ≤ k ∧ k ≤ 5 ∧ 1 ≤ s ∧ s ≤ 4 ∧ 0 ≤ p ∧ p ≤ 4 ∧ p < k ∧ n + 2 * p ≥ k) ∧ (stepsE n k s p).1 = (n + 2 * p - k) / s + 1 := by
    intro n hn
    unfold stepsE at hn ⊢
    split at hn
    · simp at hn
    · split at hn
      · simp at hn
      · rename_i h1 h2
        rw [if_neg h1, if_neg h2]
        exact ⟨by omega, rfl⟩
  unfold slideE at h ⊢
  split at h
  · simp at h
  · split at h
    · rename_i h1 h2; exact absurd h h2
    · split at h
      · rename_i h1 h2 h3; exact absurd h h3
      · split at h
        · simp at h
        · rename_i h1 h2 h3 h4
          have a1 := step t.h (by omega)
          have a2 := step t.x (by omega)
          rw [if_neg h1, if_neg h2, if_neg h3, if_neg h4]
          rw [a1.2, a2.2] at h4 ⊢
          refine ⟨by omega, by omega, by omega, by omega, by omega, by omega, by omega, by omega, by omega, by omega, rfl, by omega⟩
theorem elems_ok {h x c : Int} (q : 0 < elems h x c) : 1 ≤ h ∧ h ≤ 16 ∧ 1 ≤ x ∧ x ≤ 16 ∧ 1 ≤ c ∧ c ≤ 1024 ∧ h * x * c ≤ 1024 ∧ elems h x c = h * x * c := by
  unfold elems at q ⊢
  split at q
  · rename_i g; rw [if_pos g]; obtain ⟨g1, g2, g3, g4, g5, g6, g7⟩ := g; exact ⟨g1, g2, g3, g4, g5, g6, g7, rfl⟩
  · omega
theorem wts_bd {t : Shp} {k s p o : Int} (h : (slideE t k s p o).2 = 0) : (0 ≤ o * k ∧ o * k ≤ 5120) ∧ (0 ≤ o * k * k ∧ o * k * k ≤ 25600) ∧ (0 ≤ o * k * k * t.c ∧ o * k * k * t.c ≤ 26214400) := by
  have h1 := slideE_ok h
  have h2 := elems_ok h1.1
  have h3 := elems_ok h1.2.2.2.2.2.2.2.2.2.2.2
  have a1 := mul_bd (A := 1024) (B := 5) (a := o) (b := k) (by omega) (by omega) (by omega) (by omega)
  have a2 := mul_bd (A := 5120) (B := 5) (a := o * k) (b := k) (by omega) (by omega) (by omega) (by omega)
  have a3 := mul_bd (A := 25600) (B := 1024) (a := o * k * k) (b := t.c) (by omega) (by omega) (by omega) (by omega)
  omega
/-- The shape of what a node makes, or why there is none. -/
def convE (t : Shp) (n : Nod) : Shp × Int :=
  if (slideE t n.nk n.ns n.np n.no).2 ≠ 0 then (⟨0, 0, 0⟩, (slideE t n.nk n.ns n.np n.no).2)
  else if (n.w.length : Int) ≠ n.no * n.nk * n.nk * t.c ∨ 16384 < (n.w.length : Int) ∨ (n.b.length : Int) ≠ n.no then (⟨0, 0, 0⟩, 9) else ((slideE t n.nk n.ns n.np n.no).1, 0)
set_option maxRecDepth 100000 in
set_option maxHeartbeats 2000000 in
theorem convShape_v (t : Shp) (n : Nod) (ok : t.Ok) (okn : n.Ok) : VC Try.prog 224 ([shp t, nod n]) (.tup [shp (convE t n).1, i64 (convE t n).2]) := by
  have q2 := okn.no
  have oz0 := @slide_v (t) (n.nk) (n.ns) (n.np) (n.no) ok q2
  rcases Bool.eq_false_or_eq_true ((slideE t n.nk n.ns n.np n.no).snd != 0) with hc0 | hc0
  · have gc0 : ¬(slideE t n.nk n.ns n.np n.no).snd = 0 := bdt hc0
    exact (VC.run (fn := Try.f224) (W := [.r [] [], .r [] [.callr (rO oz0)], .r [] [], .br true, .r [] []]) (r := AV.tup [AV.agg [i64 0, i64 0, i64 0], i64 (slideE t n.nk n.ns n.np n.no).snd]) Try.func224 (by kernel_rfl) (.c oz0 <| .c hc0 <| .n)).to (by (simp only [convE]; rw [if_pos (by omega)]))
  · have gc0 : (slideE t n.nk n.ns n.np n.no).snd = 0 := bdf hc0
    have oz2 := (show IntKind.i64.wrap (n.no * n.nk) = n.no * n.nk by with_reducible exact IntWalk.i64_in _ (by have := wts_bd (t := t) (k := n.nk) (s := n.ns) (p := n.np) (o := n.no) (by omega); omega))
    have oz3 := (show IntKind.i64.wrap (n.no * n.nk * n.nk) = n.no * n.nk * n.nk by with_reducible exact IntWalk.i64_in _ (by have := wts_bd (t := t) (k := n.nk) (s := n.ns) (p := n.np) (o := n.no) (by omega); omega))
    rcases Bool.eq_false_or_eq_true ((↑(List.map (row1 IntKind.i8) n.w).length : Int) != n.no * n.nk * n.nk * t.c || decide ((↑(List.map (row1 IntKind.i8) n.w).length : Int) > 16384) || (↑(List.map (row1 IntKind.i32) n.b).length : Int) != n.no) with hc1 | hc1
    · have gc1 : (¬(↑(List.map (row1 IntKind.i8) n.w).length : Int) = n.no * n.nk * n.nk * t.c ∨ (↑(List.map (row1 IntKind.i8) n.w).length : Int) > 16384) ∨ ¬(↑(List.map (row1 IntKind.i32) n.b).length : Int) = n.no := by first | (simp only [Bool.or_eq_true, Bool.or_eq_false_iff, Bool.and_eq_true, Bool.and_eq_false_iff, Bool.not_eq_true', Bool.not_eq_false', decide_eq_true_eq, decide_eq_false_iff_not, beq_iff_eq, bne_iff_ne, ne_eq, beq_eq_false_iff_ne, bne_eq_false_iff_eq, eqNums, Bool.and_true] at hc1; first | exact hc1 | omega) | simpa using hc1 | (simp at hc1 ⊢; omega)
      have oz4 := (show IntKind.i64.wrap (n.no * n.nk * n.nk * t.c) = n.no * n.nk * n.nk * t.c by with_reducible exact IntWalk.i64_in _ (by have := wts_bd (t := t) (k := n.nk) (s := n.ns) (p := n.np) (o := n.no) (by omega); omega))
      exact (VC.run (fn := Try.f224) (W := [.r [] [], .r [] [.callr (rO oz0)], .r [] [], .br false, .r [] [.n (nO oz2), .n (nO oz3), .n (nO oz4), .op false, .op false, .op false, .op false, .sel 1, .op false, .op false, .op false, .op false, .op false, .op false, .sel 1], .br true, .r [] []]) (r := AV.tup [AV.agg [i64 0, i64 0, i64 0], i64 9]) Try.func224 (by kernel_rfl) (.c oz0 <| .c hc0 <| .c oz2 <| .c oz3 <| .c oz4 <| .c hc1 <| .n)).to (by (simp only [convE, List.length_map] at *; rw [if_neg (by omega), if_pos (by omega)]))
    · have gc1 : ((↑(List.map (row1 IntKind.i8) n.w).length : Int) = n.no * n.nk * n.nk * t.c ∧ ¬(↑(List.map (row1 IntKind.i8) n.w).length : Int) > 16384) ∧ (↑(List.map (row1 IntKind.i32) n.b).length : Int) = n.no := by first | (simp only [Bool.or_eq_true, Bool.or_eq_false_iff, Bool.and_eq_true, Bool.and_eq_false_iff, Bool.not_eq_true', Bool.not_eq_false', decide_eq_true_eq, decide_eq_false_iff_not, beq_iff_eq, bne_iff_ne, ne_eq, beq_eq_false_iff_ne, bne_eq_false_iff_eq, eqNums, Bool.and_true] at hc1; first | exact hc1 | omega) | simpa using hc1 | (simp at hc1 ⊢; omega)
      exact (VC.run (fn := Try.f224) (W := [.r [] [], .r [] [.callr (rO oz0)], .r [] [], .br false, .r [] [.n (nO oz2), .n (nO oz3), .n (n.no * n.nk * n.nk * t.c), .op false, .op false, .op false, .op false, .sel 1, .op false, .op false, .op false, .op false, .op false, .op false, .sel 1], .br false, .r [] []]) (r := AV.tup [AV.agg [i64 (slideE t n.nk n.ns n.np n.no).fst.h, i64 (slideE t n.nk n.ns n.np n.no).fst.x, i64 (slideE t n.nk n.ns n.np n.no).fst.c], i64 0]) Try.func224 (by kernel_rfl) (.c oz0 <| .c hc0 <| .c oz2 <| .c oz3 <| .c (IntWalk.i64_in (n.no * n.nk * n.nk * t.c) (by omega)) <| .c hc1 <| .n)).to (by (simp only [convE, List.length_map] at *; rw [if_neg (by omega), if_neg (by omega)]))

set_option maxRecDepth 100000 in
set_option maxHeartbeats 2000000 in
theorem refConvShape_v (t : Shp) (n : Nod) (ok : t.Ok) (okn : n.Ok) : VC Try.prog 139 ([shp t, nod n]) (.tup [shp (convE t n).1, i64 (convE t n).2]) := by
  have q2 := okn.no
  have oz0 := @refSlide_v (t) (n.nk) (n.ns) (n.np) (n.no) ok q2
  rcases Bool.eq_false_or_eq_true ((slideE t n.nk n.ns n.np n.no).snd != 0) with hc0 | hc0
  · have gc0 : ¬(slideE t n.nk n.ns n.np n.no).snd = 0 := bdt hc0
    exact (VC.run (fn := Try.f139) (W := [.r [] [], .r [] [.callr (rO oz0)], .r [] [], .br true, .r [] []]) (r := AV.tup [AV.agg [i64 0, i64 0, i64 0], i64 (slideE t n.nk n.ns n.np n.no).snd]) Try.func139 (by kernel_rfl) (.c oz0 <| .c hc0 <| .n)).to (by (simp only [convE]; rw [if_pos (by omega)]))
  · have gc0 : (slideE t n.nk n.ns n.np n.no).snd = 0 := bdf hc0
    have oz2 := (show IntKind.i64.wrap (n.no * n.nk) = n.no * n.nk by with_reducible exact IntWalk.i64_in _ (by have := wts_bd (t := t) (k := n.nk) (s := n.ns) (p := n.np) (o := n.no) (by omega); omega))
    have oz3 := (show IntKind.i64.wrap (n.no * n.nk * n.nk) = n.no * n.nk * n.nk by with_reducible exact IntWalk.i64_in _ (by have := wts_bd (t := t) (k := n.nk) (s := n.ns) (p := n.np) (o := n.no) (by omega); omega))
    rcases Bool.eq_false_or_eq_true ((↑(List.map (row1 IntKind.i8) n.w).length : Int) != n.no * n.nk * n.nk * t.c || decide ((↑(List.map (row1 IntKind.i8) n.w).length : Int) > 16384) || (↑(List.map (row1 IntKind.i32) n.b).length : Int) != n.no) with hc1 | hc1
    · have gc1 : (¬(↑(List.map (row1 IntKind.i8) n.w).length : Int) = n.no * n.nk * n.nk * t.c ∨ (↑(List.map (row1 IntKind.i8) n.w).length : Int) > 16384) ∨ ¬(↑(List.map (row1 IntKind.i32) n.b).length : Int) = n.no := by first | (simp only [Bool.or_eq_true, Bool.or_eq_false_iff, Bool.and_eq_true, Bool.and_eq_false_iff, Bool.not_eq_true', Bool.not_eq_false', decide_eq_true_eq, decide_eq_false_iff_not, beq_iff_eq, bne_iff_ne, ne_eq, beq_eq_false_iff_ne, bne_eq_false_iff_eq, eqNums, Bool.and_true] at hc1; first | exact hc1 | omega) | simpa using hc1 | (simp at hc1 ⊢; omega)
      have oz4 := (show IntKind.i64.wrap (n.no * n.nk * n.nk * t.c) = n.no * n.nk * n.nk * t.c by with_reducible exact IntWalk.i64_in _ (by have := wts_bd (t := t) (k := n.nk) (s := n.ns) (p := n.np) (o := n.no) (by omega); omega))
      exact (VC.run (fn := Try.f139) (W := [.r [] [], .r [] [.callr (rO oz0)], .r [] [], .br false, .r [] [.n (nO oz2), .n (nO oz3), .n (nO oz4), .op false, .op false, .op false, .op false, .sel 1, .op false, .op false, .op false, .op false, .op false, .op false, .sel 1], .br true, .r [] []]) (r := AV.tup [AV.agg [i64 0, i64 0, i64 0], i64 9]) Try.func139 (by kernel_rfl) (.c oz0 <| .c hc0 <| .c oz2 <| .c oz3 <| .c oz4 <| .c hc1 <| .n)).to (by (simp only [convE, List.length_map] at *; rw [if_neg (by omega), if_pos (by omega)]))
    · have gc1 : ((↑(List.map (row1 IntKind.i8) n.w).length : Int) = n.no * n.nk * n.nk * t.c ∧ ¬(↑(List.map (row1 IntKind.i8) n.w).length : Int) > 16384) ∧ (↑(List.map (row1 IntKind.i32) n.b).length : Int) = n.no := by first | (simp only [Bool.or_eq_true, Bool.or_eq_false_iff, Bool.and_eq_true, Bool.and_eq_false_iff, Bool.not_eq_true', Bool.not_eq_false', decide_eq_true_eq, decide_eq_false_iff_not, beq_iff_eq, bne_iff_ne, ne_eq, beq_eq_false_iff_ne, bne_eq_false_iff_eq, eqNums, Bool.and_true] at hc1; first | exact hc1 | omega) | simpa using hc1 | (simp at hc1 ⊢; omega)
      exact (VC.run (fn := Try.f139) (W := [.r [] [], .r [] [.callr (rO oz0)], .r [] [], .br false, .r [] [.n (nO oz2), .n (nO oz3), .n (n.no * n.nk * n.nk * t.c), .op false, .op false, .op false, .op false, .sel 1, .op false, .op false, .op false, .op false, .op false, .op false, .sel 1], .br false, .r [] []]) (r := AV.tup [AV.agg [i64 (slideE t n.nk n.ns n.np n.no).fst.h, i64 (slideE t n.nk n.ns n.np n.no).fst.x, i64 (slideE t n.nk n.ns n.np n.no).fst.c], i64 0]) Try.func139 (by kernel_rfl) (.c oz0 <| .c hc0 <| .c oz2 <| .c oz3 <| .c (IntWalk.i64_in (n.no * n.nk * n.nk * t.c) (by omega)) <| .c hc1 <| .n)).to (by (simp only [convE, List.length_map] at *; rw [if_neg (by omega), if_neg (by omega)]))
end Go.Proofs.Ytgecmooedhnenaa

