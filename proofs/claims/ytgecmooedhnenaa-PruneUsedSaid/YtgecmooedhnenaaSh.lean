/- Shapes of what nodes make that sum. No condition. -/
import Derived.Test.YtgecmooedhnenaaCv
namespace Go.Proofs.Ytgecmooedhnenaa
open Go.RowKit
set_option linter.unusedSimpArgs false
set_option linter.unusedVariables false
set_option linter.unnecessarySimpa false

/-- The shape of what a node makes, or why there is none. -/
def depthE (t : Shp) (n : Nod) : Shp × Int :=
  if (slideE t n.nk n.ns n.np t.c).2 ≠ 0 then (⟨0, 0, 0⟩, (slideE t n.nk n.ns n.np t.c).2)
  else if (n.w.length : Int) ≠ t.c * n.nk * n.nk ∨ 16384 < (n.w.length : Int) ∨ (n.b.length : Int) ≠ t.c then (⟨0, 0, 0⟩, 9) else ((slideE t n.nk n.ns n.np t.c).1, 0)
set_option maxRecDepth 100000 in
set_option maxHeartbeats 2000000 in
theorem depthShape_v (t : Shp) (n : Nod) (ok : t.Ok) (okn : n.Ok) : VC Try.prog 225 ([shp t, nod n]) (.tup [shp (depthE t n).1, i64 (depthE t n).2]) := by
  have q2 := ok.c
  have q3 := fun h => wts_bd (t := t) (k := n.nk) (s := n.ns) (p := n.np) (o := t.c) h
  have oz0 := @slide_v (t) (n.nk) (n.ns) (n.np) (t.c) ok q2
  rcases Bool.eq_false_or_eq_true ((slideE t n.nk n.ns n.np t.c).snd != 0) with hc0 | hc0
  · have gc0 : ¬(slideE t n.nk n.ns n.np t.c).snd = 0 := bdt hc0
    exact (VC.run (fn := Try.f225) (W := [.r [] [], .r [] [.callr (rO oz0)], .r [] [], .br true, .r [] []]) (r := AV.tup [AV.agg [i64 0, i64 0, i64 0], i64 (slideE t n.nk n.ns n.np t.c).snd]) Try.func225 (by kernel_rfl) (.c oz0 <| .c hc0 <| .n)).to (by (simp only [depthE]; rw [if_pos (by omega)]))
  · have gc0 : (slideE t n.nk n.ns n.np t.c).snd = 0 := bdf hc0
    have oz2 := (IntWalk.i64_in (t.c * n.nk) (by omega))
    have oz3 := (IntWalk.i64_in (t.c * n.nk * n.nk) (by omega))
    rcases Bool.eq_false_or_eq_true ((↑(List.map (row1 IntKind.i8) n.w).length : Int) != t.c * n.nk * n.nk || decide ((↑(List.map (row1 IntKind.i8) n.w).length : Int) > 16384) || (↑(List.map (row1 IntKind.i32) n.b).length : Int) != t.c) with hc1 | hc1
    · have gc1 : (¬(↑(List.map (row1 IntKind.i8) n.w).length : Int) = t.c * n.nk * n.nk ∨ (↑(List.map (row1 IntKind.i8) n.w).length : Int) > 16384) ∨ ¬(↑(List.map (row1 IntKind.i32) n.b).length : Int) = t.c := by first | (simp only [Bool.or_eq_true, Bool.or_eq_false_iff, Bool.and_eq_true, Bool.and_eq_false_iff, Bool.not_eq_true', Bool.not_eq_false', decide_eq_true_eq, decide_eq_false_iff_not, beq_iff_eq, bne_iff_ne, ne_eq, beq_eq_false_iff_ne, bne_eq_false_iff_eq, eqNums, Bool.and_true] at hc1; first | exact hc1 | omega) | simpa using hc1 | (simp at hc1 ⊢; omega)
      exact (VC.run (fn := Try.f225) (W := [.r [] [], .r [] [.callr (rO oz0)], .r [] [], .br false, .r [] [.n (nO oz2), .n (nO oz3), .op false, .op false, .op false, .op false, .sel 1, .op false, .op false, .op false, .op false, .op false, .op false, .sel 1], .br true, .r [] []]) (r := AV.tup [AV.agg [i64 0, i64 0, i64 0], i64 9]) Try.func225 (by kernel_rfl) (.c oz0 <| .c hc0 <| .c oz2 <| .c oz3 <| .c hc1 <| .n)).to (by (simp only [depthE, List.length_map] at *; rw [if_neg (by omega), if_pos (by omega)]))
    · have gc1 : ((↑(List.map (row1 IntKind.i8) n.w).length : Int) = t.c * n.nk * n.nk ∧ ¬(↑(List.map (row1 IntKind.i8) n.w).length : Int) > 16384) ∧ (↑(List.map (row1 IntKind.i32) n.b).length : Int) = t.c := by first | (simp only [Bool.or_eq_true, Bool.or_eq_false_iff, Bool.and_eq_true, Bool.and_eq_false_iff, Bool.not_eq_true', Bool.not_eq_false', decide_eq_true_eq, decide_eq_false_iff_not, beq_iff_eq, bne_iff_ne, ne_eq, beq_eq_false_iff_ne, bne_eq_false_iff_eq, eqNums, Bool.and_true] at hc1; first | exact hc1 | omega) | simpa using hc1 | (simp at hc1 ⊢; omega)
      exact (VC.run (fn := Try.f225) (W := [.r [] [], .r [] [.callr (rO oz0)], .r [] [], .br false, .r [] [.n (nO oz2), .n (nO oz3), .op false, .op false, .op false, .op false, .sel 1, .op false, .op false, .op false, .op false, .op false, .op false, .sel 1], .br false, .r [] []]) (r := AV.tup [AV.agg [i64 (slideE t n.nk n.ns n.np t.c).fst.h, i64 (slideE t n.nk n.ns n.np t.c).fst.x, i64 (slideE t n.nk n.ns n.np t.c).fst.c], i64 0]) Try.func225 (by kernel_rfl) (.c oz0 <| .c hc0 <| .c oz2 <| .c oz3 <| .c hc1 <| .n)).to (by (simp only [depthE, List.length_map] at *; rw [if_neg (by omega), if_neg (by omega)]))

set_option maxRecDepth 100000 in
set_option maxHeartbeats 2000000 in
theorem refDepthShape_v (t : Shp) (n : Nod) (ok : t.Ok) (okn : n.Ok) : VC Try.prog 140 ([shp t, nod n]) (.tup [shp (depthE t n).1, i64 (depthE t n).2]) := by
  have q2 := ok.c
  have q3 := fun h => wts_bd (t := t) (k := n.nk) (s := n.ns) (p := n.np) (o := t.c) h
  have oz0 := @refSlide_v (t) (n.nk) (n.ns) (n.np) (t.c) ok q2
  rcases Bool.eq_false_or_eq_true ((slideE t n.nk n.ns n.np t.c).snd != 0) with hc0 | hc0
  · have gc0 : ¬(slideE t n.nk n.ns n.np t.c).snd = 0 := bdt hc0
    exact (VC.run (fn := Try.f140) (W := [.r [] [], .r [] [.callr (rO oz0)], .r [] [], .br true, .r [] []]) (r := AV.tup [AV.agg [i64 0, i64 0, i64 0], i64 (slideE t n.nk n.ns n.np t.c).snd]) Try.func140 (by kernel_rfl) (.c oz0 <| .c hc0 <| .n)).to (by (simp only [depthE]; rw [if_pos (by omega)]))
  · have gc0 : (slideE t n.nk n.ns n.np t.c).snd = 0 := bdf hc0
    have oz2 := (IntWalk.i64_in (t.c * n.nk) (by omega))
    have oz3 := (IntWalk.i64_in (t.c * n.nk * n.nk) (by omega))
    rcases Bool.eq_false_or_eq_true ((↑(List.map (row1 IntKind.i8) n.w).length : Int) != t.c * n.nk * n.nk || decide ((↑(List.map (row1 IntKind.i8) n.w).length : Int) > 16384) || (↑(List.map (row1 IntKind.i32) n.b).length : Int) != t.c) with hc1 | hc1
    · have gc1 : (¬(↑(List.map (row1 IntKind.i8) n.w).length : Int) = t.c * n.nk * n.nk ∨ (↑(List.map (row1 IntKind.i8) n.w).length : Int) > 16384) ∨ ¬(↑(List.map (row1 IntKind.i32) n.b).length : Int) = t.c := by first | (simp only [Bool.or_eq_true, Bool.or_eq_false_iff, Bool.and_eq_true, Bool.and_eq_false_iff, Bool.not_eq_true', Bool.not_eq_false', decide_eq_true_eq, decide_eq_false_iff_not, beq_iff_eq, bne_iff_ne, ne_eq, beq_eq_false_iff_ne, bne_eq_false_iff_eq, eqNums, Bool.and_true] at hc1; first | exact hc1 | omega) | simpa using hc1 | (simp at hc1 ⊢; omega)
      exact (VC.run (fn := Try.f140) (W := [.r [] [], .r [] [.callr (rO oz0)], .r [] [], .br false, .r [] [.n (nO oz2), .n (nO oz3), .op false, .op false, .op false, .op false, .sel 1, .op false, .op false, .op false, .op false, .op false, .op false, .sel 1], .br true, .r [] []]) (r := AV.tup [AV.agg [i64 0, i64 0, i64 0], i64 9]) Try.func140 (by kernel_rfl) (.c oz0 <| .c hc0 <| .c oz2 <| .c oz3 <| .c hc1 <| .n)).to (by (simp only [depthE, List.length_map] at *; rw [if_neg (by omega), if_pos (by omega)]))
    · have gc1 : ((↑(List.map (row1 IntKind.i8) n.w).length : Int) = t.c * n.nk * n.nk ∧ ¬(↑(List.map (row1 IntKind.i8) n.w).length : Int) > 16384) ∧ (↑(List.map (row1 IntKind.i32) n.b).length : Int) = t.c := by first | (simp only [Bool.or_eq_true, Bool.or_eq_false_iff, Bool.and_eq_true, Bool.and_eq_false_iff, Bool.not_eq_true', Bool.not_eq_false', decide_eq_true_eq, decide_eq_false_iff_not, beq_iff_eq, bne_iff_ne, ne_eq, beq_eq_false_iff_ne, bne_eq_false_iff_eq, eqNums, Bool.and_true] at hc1; first | exact hc1 | omega) | simpa using hc1 | (simp at hc1 ⊢; omega)
      exact (VC.run (fn := Try.f140) (W := [.r [] [], .r [] [.callr (rO oz0)], .r [] [], .br false, .r [] [.n (nO oz2), .n (nO oz3), .op false, .op false, .op false, .op false, .sel 1, .op false, .op false, .op false, .op false, .op false, .op false, .sel 1], .br false, .r [] []]) (r := AV.tup [AV.agg [i64 (slideE t n.nk n.ns n.np t.c).fst.h, i64 (slideE t n.nk n.ns n.np t.c).fst.x, i64 (slideE t n.nk n.ns n.np t.c).fst.c], i64 0]) Try.func140 (by kernel_rfl) (.c oz0 <| .c hc0 <| .c oz2 <| .c oz3 <| .c hc1 <| .n)).to (by (simp only [depthE, List.length_map] at *; rw [if_neg (by omega), if_neg (by omega)]))
theorem elems_in (h x c : Int) : 0 ≤ elems h x c ∧ elems h x c ≤ 1024 := by
  unfold elems; split
  · rename_i g
    have := Int.mul_nonneg (Int.mul_nonneg (show 0 ≤ h by omega) (show 0 ≤ x by omega)) (show 0 ≤ c by omega)
    omega
  · omega
def denseE (t : Shp) (n : Nod) : Shp × Int :=
  if elems t.h t.x t.c = 0 ∨ elems 1 1 n.no = 0 then (⟨0, 0, 0⟩, 5)
  else if (n.w.length : Int) ≠ n.no * elems t.h t.x t.c ∨ 16384 < (n.w.length : Int) ∨ (n.b.length : Int) ≠ n.no then (⟨0, 0, 0⟩, 9) else (⟨1, 1, n.no⟩, 0)
set_option maxRecDepth 100000 in
set_option maxHeartbeats 2000000 in
theorem denseShape_v (t : Shp) (n : Nod) (ok : t.Ok) (okn : n.Ok) : VC Try.prog 226 ([shp t, nod n]) (.tup [shp (denseE t n).1, i64 (denseE t n).2]) := by
  obtain ⟨p1, p2, p3⟩ := id ok
  have q2 := elems_in t.h t.x t.c
  have q3 := elems_in 1 1 n.no
  have q4 : 0 < elems 1 1 n.no → 1 ≤ n.no ∧ n.no ≤ 1024 := fun h => by have := elems_ok h; omega
  have q5 : 0 < elems 1 1 n.no → 0 ≤ n.no * elems t.h t.x t.c ∧ n.no * elems t.h t.x t.c ≤ 1024 * 1024 := fun h => mul_bd (by have := q4 h; omega) (q4 h).2 q2.1 q2.2
  have oz0 := @sRight_v (t) ok
  have oz1 := @sRight_v (Shp.mk 1 1 n.no) (by (exact Shp.mk_ok ⟨by decide, by decide⟩ ⟨by decide, by decide⟩ okn.no))
  rcases Bool.eq_false_or_eq_true (!decide (0 < elems t.h t.x t.c) || !decide (0 < elems 1 1 n.no)) with hc0 | hc0
  · have gc0 : ¬0 < elems t.h t.x t.c ∨ ¬0 < elems 1 1 n.no := by first | (simp only [Bool.or_eq_true, Bool.or_eq_false_iff, Bool.and_eq_true, Bool.and_eq_false_iff, Bool.not_eq_true', Bool.not_eq_false', decide_eq_true_eq, decide_eq_false_iff_not, beq_iff_eq, bne_iff_ne, ne_eq, beq_eq_false_iff_ne, bne_eq_false_iff_eq, eqNums, Bool.and_true] at hc0; first | exact hc0 | omega) | simpa using hc0 | (simp at hc0 ⊢; omega)
    exact (VC.run (fn := Try.f226) (W := [.r [] [], .r [] [], .r [] [.callr (rO oz0), .op false, .op false, .callr (rO oz1), .op false, .sel 1], .br true, .r [] []]) (r := AV.tup [AV.agg [i64 0, i64 0, i64 0], i64 5]) Try.func226 (by kernel_rfl) (.c oz0 <| .c oz1 <| .c hc0 <| .n)).to (by (simp only [denseE]; rw [if_pos (by omega)]))
  · have gc0 : 0 < elems t.h t.x t.c ∧ 0 < elems 1 1 n.no := by first | (simp only [Bool.or_eq_true, Bool.or_eq_false_iff, Bool.and_eq_true, Bool.and_eq_false_iff, Bool.not_eq_true', Bool.not_eq_false', decide_eq_true_eq, decide_eq_false_iff_not, beq_iff_eq, bne_iff_ne, ne_eq, beq_eq_false_iff_ne, bne_eq_false_iff_eq, eqNums, Bool.and_true] at hc0; first | exact hc0 | omega) | simpa using hc0 | (simp at hc0 ⊢; omega)
    have oz3 := @elems_v (t.h) (t.x) (t.c) p1 p2 p3
    have oz4 := (IntWalk.i64_in (n.no * elems t.h t.x t.c) (by omega))
    rcases Bool.eq_false_or_eq_true ((↑(List.map (row1 IntKind.i8) n.w).length : Int) != n.no * elems t.h t.x t.c || decide ((↑(List.map (row1 IntKind.i8) n.w).length : Int) > 16384) || (↑(List.map (row1 IntKind.i32) n.b).length : Int) != n.no) with hc1 | hc1
    · have gc1 : (¬(↑(List.map (row1 IntKind.i8) n.w).length : Int) = n.no * elems t.h t.x t.c ∨ (↑(List.map (row1 IntKind.i8) n.w).length : Int) > 16384) ∨ ¬(↑(List.map (row1 IntKind.i32) n.b).length : Int) = n.no := by first | (simp only [Bool.or_eq_true, Bool.or_eq_false_iff, Bool.and_eq_true, Bool.and_eq_false_iff, Bool.not_eq_true', Bool.not_eq_false', decide_eq_true_eq, decide_eq_false_iff_not, beq_iff_eq, bne_iff_ne, ne_eq, beq_eq_false_iff_ne, bne_eq_false_iff_eq, eqNums, Bool.and_true] at hc1; first | exact hc1 | omega) | simpa using hc1 | (simp at hc1 ⊢; omega)
      exact (VC.run (fn := Try.f226) (W := [.r [] [], .r [] [], .r [] [.callr (rO oz0), .op false, .op false, .callr (rO oz1), .op false, .sel 1], .br false, .r [] [.callr (rO oz3), .n (nO oz4), .op false, .op false, .op false, .op false, .sel 1, .op false, .op false, .op false, .op false, .op false, .op false, .sel 1], .br true, .r [] []]) (r := AV.tup [AV.agg [i64 0, i64 0, i64 0], i64 9]) Try.func226 (by kernel_rfl) (.c oz0 <| .c oz1 <| .c hc0 <| .c oz3 <| .c oz4 <| .c hc1 <| .n)).to (by (simp only [denseE, List.length_map] at *; rw [if_neg (by omega), if_pos (by omega)]))
    · have gc1 : ((↑(List.map (row1 IntKind.i8) n.w).length : Int) = n.no * elems t.h t.x t.c ∧ ¬(↑(List.map (row1 IntKind.i8) n.w).length : Int) > 16384) ∧ (↑(List.map (row1 IntKind.i32) n.b).length : Int) = n.no := by first | (simp only [Bool.or_eq_true, Bool.or_eq_false_iff, Bool.and_eq_true, Bool.and_eq_false_iff, Bool.not_eq_true', Bool.not_eq_false', decide_eq_true_eq, decide_eq_false_iff_not, beq_iff_eq, bne_iff_ne, ne_eq, beq_eq_false_iff_ne, bne_eq_false_iff_eq, eqNums, Bool.and_true] at hc1; first | exact hc1 | omega) | simpa using hc1 | (simp at hc1 ⊢; omega)
      exact (VC.run (fn := Try.f226) (W := [.r [] [], .r [] [], .r [] [.callr (rO oz0), .op false, .op false, .callr (rO oz1), .op false, .sel 1], .br false, .r [] [.callr (rO oz3), .n (nO oz4), .op false, .op false, .op false, .op false, .sel 1, .op false, .op false, .op false, .op false, .op false, .op false, .sel 1], .br false, .r [] []]) (r := AV.tup [AV.agg [i64 1, i64 1, i64 n.no], i64 0]) Try.func226 (by kernel_rfl) (.c oz0 <| .c oz1 <| .c hc0 <| .c oz3 <| .c oz4 <| .c hc1 <| .n)).to (by (simp only [denseE, List.length_map] at *; rw [if_neg (by omega), if_neg (by omega)]))

set_option maxRecDepth 100000 in
set_option maxHeartbeats 2000000 in
theorem refDenseShape_v (t : Shp) (n : Nod) (ok : t.Ok) (okn : n.Ok) : VC Try.prog 141 ([shp t, nod n]) (.tup [shp (denseE t n).1, i64 (denseE t n).2]) := by
  obtain ⟨p1, p2, p3⟩ := id ok
  have p4 := okn.no
  have p5 : In64 1 := ⟨by decide, by decide⟩
  have q2 := elems_in t.h t.x t.c
  have q3 := elems_in 1 1 n.no
  have q4 : 0 < elems 1 1 n.no → 1 ≤ n.no ∧ n.no ≤ 1024 := fun h => by have := elems_ok h; omega
  have q5 : 0 < elems 1 1 n.no → 0 ≤ n.no * elems t.h t.x t.c ∧ n.no * elems t.h t.x t.c ≤ 1024 * 1024 := fun h => mul_bd (by have := q4 h; omega) (q4 h).2 q2.1 q2.2
  have oz0 := @refElems_v (t.h) (t.x) (t.c) p1 p2 p3
  have oz1 := @refElems_v (1) (1) (n.no) p5 p5 p4
  rcases Bool.eq_false_or_eq_true (elems t.h t.x t.c == 0 || elems 1 1 n.no == 0) with hc0 | hc0
  · have gc0 : elems t.h t.x t.c = 0 ∨ elems 1 1 n.no = 0 := by first | (simp only [Bool.or_eq_true, Bool.or_eq_false_iff, Bool.and_eq_true, Bool.and_eq_false_iff, Bool.not_eq_true', Bool.not_eq_false', decide_eq_true_eq, decide_eq_false_iff_not, beq_iff_eq, bne_iff_ne, ne_eq, beq_eq_false_iff_ne, bne_eq_false_iff_eq, eqNums, Bool.and_true] at hc0; first | exact hc0 | omega) | simpa using hc0 | (simp at hc0 ⊢; omega)
    exact (VC.run (fn := Try.f141) (W := [.r [] [], .r [] [], .r [] [.callr (rO oz0), .op false, .op false, .callr (rO oz1), .op false, .sel 1], .br true, .r [] []]) (r := AV.tup [AV.agg [i64 0, i64 0, i64 0], i64 5]) Try.func141 (by kernel_rfl) (.c oz0 <| .c oz1 <| .c hc0 <| .n)).to (by (simp only [denseE]; rw [if_pos (by omega)]))
  · have gc0 : ¬elems t.h t.x t.c = 0 ∧ ¬elems 1 1 n.no = 0 := by first | (simp only [Bool.or_eq_true, Bool.or_eq_false_iff, Bool.and_eq_true, Bool.and_eq_false_iff, Bool.not_eq_true', Bool.not_eq_false', decide_eq_true_eq, decide_eq_false_iff_not, beq_iff_eq, bne_iff_ne, ne_eq, beq_eq_false_iff_ne, bne_eq_false_iff_eq, eqNums, Bool.and_true] at hc0; first | exact hc0 | omega) | simpa using hc0 | (simp at hc0 ⊢; omega)
    have oz4 := (IntWalk.i64_in (n.no * elems t.h t.x t.c) (by omega))
    rcases Bool.eq_false_or_eq_true ((↑(List.map (row1 IntKind.i8) n.w).length : Int) != n.no * elems t.h t.x t.c || decide ((↑(List.map (row1 IntKind.i8) n.w).length : Int) > 16384) || (↑(List.map (row1 IntKind.i32) n.b).length : Int) != n.no) with hc1 | hc1
    · have gc1 : (¬(↑(List.map (row1 IntKind.i8) n.w).length : Int) = n.no * elems t.h t.x t.c ∨ (↑(List.map (row1 IntKind.i8) n.w).length : Int) > 16384) ∨ ¬(↑(List.map (row1 IntKind.i32) n.b).length : Int) = n.no := by first | (simp only [Bool.or_eq_true, Bool.or_eq_false_iff, Bool.and_eq_true, Bool.and_eq_false_iff, Bool.not_eq_true', Bool.not_eq_false', decide_eq_true_eq, decide_eq_false_iff_not, beq_iff_eq, bne_iff_ne, ne_eq, beq_eq_false_iff_ne, bne_eq_false_iff_eq, eqNums, Bool.and_true] at hc1; first | exact hc1 | omega) | simpa using hc1 | (simp at hc1 ⊢; omega)
      exact (VC.run (fn := Try.f141) (W := [.r [] [], .r [] [], .r [] [.callr (rO oz0), .op false, .op false, .callr (rO oz1), .op false, .sel 1], .br false, .r [] [.callr (rO oz0), .n (nO oz4), .op false, .op false, .op false, .op false, .sel 1, .op false, .op false, .op false, .op false, .op false, .op false, .sel 1], .br true, .r [] []]) (r := AV.tup [AV.agg [i64 0, i64 0, i64 0], i64 9]) Try.func141 (by kernel_rfl) (.c oz0 <| .c oz1 <| .c hc0 <| .c oz0 <| .c oz4 <| .c hc1 <| .n)).to (by (simp only [denseE, List.length_map] at *; rw [if_neg (by omega), if_pos (by omega)]))
    · have gc1 : ((↑(List.map (row1 IntKind.i8) n.w).length : Int) = n.no * elems t.h t.x t.c ∧ ¬(↑(List.map (row1 IntKind.i8) n.w).length : Int) > 16384) ∧ (↑(List.map (row1 IntKind.i32) n.b).length : Int) = n.no := by first | (simp only [Bool.or_eq_true, Bool.or_eq_false_iff, Bool.and_eq_true, Bool.and_eq_false_iff, Bool.not_eq_true', Bool.not_eq_false', decide_eq_true_eq, decide_eq_false_iff_not, beq_iff_eq, bne_iff_ne, ne_eq, beq_eq_false_iff_ne, bne_eq_false_iff_eq, eqNums, Bool.and_true] at hc1; first | exact hc1 | omega) | simpa using hc1 | (simp at hc1 ⊢; omega)
      exact (VC.run (fn := Try.f141) (W := [.r [] [], .r [] [], .r [] [.callr (rO oz0), .op false, .op false, .callr (rO oz1), .op false, .sel 1], .br false, .r [] [.callr (rO oz0), .n (nO oz4), .op false, .op false, .op false, .op false, .sel 1, .op false, .op false, .op false, .op false, .op false, .op false, .sel 1], .br false, .r [] []]) (r := AV.tup [AV.agg [i64 1, i64 1, i64 n.no], i64 0]) Try.func141 (by kernel_rfl) (.c oz0 <| .c oz1 <| .c hc0 <| .c oz0 <| .c oz4 <| .c hc1 <| .n)).to (by (simp only [denseE, List.length_map] at *; rw [if_neg (by omega), if_neg (by omega)]))
end Go.Proofs.Ytgecmooedhnenaa

