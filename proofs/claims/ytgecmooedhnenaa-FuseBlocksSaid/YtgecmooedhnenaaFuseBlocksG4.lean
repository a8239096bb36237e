/- Texts of this claim, put together: Sh, KnE, Gs, PrM, GrM, Gd, FuM, FuI, GdN, EqB, PrA, PrB. No condition. -/
import Derived.Test.YtgecmooedhnenaaFuseBlocksG3
set_option linter.unusedVariables false
set_option linter.unusedSimpArgs false
set_option linter.unnecessarySimpa false
/- Shapes of what nodes make that sum. No condition. -/
namespace Go.Proofs.Ytgecmooedhnenaa
open Go.RowKit
set_option linter.unusedSimpArgs false
set_option linter.unusedVariables false
set_option linter.unnecessarySimpa false

/-- The shape of what a node makes, or why there is none. -/
def depthE (t : Shp) (n : Nod) : Shp × Int :=
  if (slideE t n.nk n.ns n.np t.c).2 ≠ 0 then (⟨0, 0, 0⟩, (slideE t n.nk n.ns n.np t.c).2)
  else if (n.w.length : Int) ≠ t.c * n.nk * n.nk ∨ 16384 < (n.w.length : Int) ∨ (n.b.length : Int) ≠ t.c then (⟨0, 0, 0⟩, 9) else ((slideE t n.nk n.ns n.np t.c).1, 0)
set_option maxRecDepth 100000 in
set_option maxHeartbeats 2000000 in
theorem depthShape_v (t : Shp) (n : Nod) (ok : t.Ok) (okn : n.Ok) : VC Try.prog 225 ([shp t, nod n]) (.tup [shp (depthE t n).1, i64 (depthE t n).2]) := by
  have q2 := ok.c
  have q3 := fun h => wts_bd (t := t) (k := n.nk) (s := n.ns) (p := n.np) (o := t.c) h
  have oz0 := @slide_v (t) (n.nk) (n.ns) (n.np) (t.c) ok q2
  rcases Bool.eq_false_or_eq_true ((slideE t n.nk n.ns n.np t.c).snd != 0) with hc0 | hc0
  · have gc0 : ¬(slideE t n.nk n.ns n.np t.c).snd = 0 := bdt hc0
    exact (VC.run (fn := Try.f225) (W := [.r [] [], .r [] [.callr (rO oz0)], .r [] [], .br true, .r [] []]) (r := AV.tup [AV.agg [i64 0, i64 0, i64 0], i64 (slideE t n.nk n.ns n.np t.c).snd]) Try.func225 (by kernel_rfl) (.c oz0 <| .c hc0 <| .n)).to (by (simp only [depthE]; rw [if_pos (by omega)]))
  · have gc0 : (slideE t n.nk n.ns n.np t.c).snd = 0 := bdf hc0
    have oz2 := (IntWalk.i64_in (t.c * n.nk) (by omega))
    have oz3 := (IntWalk.i64_in (t.c * n.nk * n.nk) (by omega))
    rcases Bool.eq_false_or_eq_true ((↑(List.map (row1 IntKind.i8) n.w).length : Int) != t.c * n.nk * n.nk || decide ((↑(List.map (row1 IntKind.i8) n.w).length : Int) > 16384) || (↑(List.map (row1 IntKind.i32) n.b).length : Int) != t.c) with hc1 | hc1
    · have gc1 : (¬(↑(List.map (row1 IntKind.i8) n.w).length : Int) = t.c * n.nk * n.nk ∨ (↑(List.map (row1 IntKind.i8) n.w).length : Int) > 16384) ∨ ¬(↑(List.map (row1 IntKind.i32) n.b).length : Int) = t.c := by first | (simp only [Bool.or_eq_true, Bool.or_eq_false_iff, Bool.and_eq_true, Bool.and_eq_false_iff, Bool.not_eq_true', Bool.not_eq_false', decide_eq_true_eq, decide_eq_false_iff_not, beq_iff_eq, bne_iff_ne, ne_eq, beq_eq_false_iff_ne, bne_eq_false_iff_eq, eqNums, Bool.and_true] at hc1; first | exact hc1 | omega) | simpa using hc1 | (simp at hc1 ⊢; omega) | (apply Classical.byContradiction; intro hn; simp_all [eqNums]; done) | (apply Classical.byContradiction; intro hn; simp [eqNums] at hc1 hn; omega)
      exact (VC.run (fn := Try.f225) (W := [.r [] [], .r [] [.callr (rO oz0)], .r [] [], .br false, .r [] [.n (nO oz2), .n (nO oz3), .op false, .op false, .op false, .op false, .sel 1, .op false, .op false, .op false, .op false, .op false, .op false, .sel 1], .br true, .r [] []]) (r := AV.tup [AV.agg [i64 0, i64 0, i64 0], i64 9]) Try.func225 (by kernel_rfl) (.c oz0 <| .c hc0 <| .c oz2 <| .c oz3 <| .c hc1 <| .n)).to (by (simp only [depthE, List.length_map] at *; rw [if_neg (by omega), if_pos (by omega)]))
    · have gc1 : ((↑(List.map (row1 IntKind.i8) n.w).length : Int) = t.c * n.nk * n.nk ∧ ¬(↑(List.map (row1 IntKind.i8) n.w).length : Int) > 16384) ∧ (↑(List.map (row1 IntKind.i32) n.b).length : Int) = t.c := by first | (simp only [Bool.or_eq_true, Bool.or_eq_false_iff, Bool.and_eq_true, Bool.and_eq_false_iff, Bool.not_eq_true', Bool.not_eq_false', decide_eq_true_eq, decide_eq_false_iff_not, beq_iff_eq, bne_iff_ne, ne_eq, beq_eq_false_iff_ne, bne_eq_false_iff_eq, eqNums, Bool.and_true] at hc1; first | exact hc1 | omega) | simpa using hc1 | (simp at hc1 ⊢; omega) | (apply Classical.byContradiction; intro hn; simp_all [eqNums]; done) | (apply Classical.byContradiction; intro hn; simp [eqNums] at hc1 hn; omega)
      exact (VC.run (fn := Try.f225) (W := [.r [] [], .r [] [.callr (rO oz0)], .r [] [], .br false, .r [] [.n (nO oz2), .n (nO oz3), .op false, .op false, .op false, .op false, .sel 1, .op false, .op false, .op false, .op false, .op false, .op false, .sel 1], .br false, .r [] []]) (r := AV.tup [AV.agg [i64 (slideE t n.nk n.ns n.np t.c).fst.h, i64 (slideE t n.nk n.ns n.np t.c).fst.x, i64 (slideE t n.nk n.ns n.np t.c).fst.c], i64 0]) Try.func225 (by kernel_rfl) (.c oz0 <| .c hc0 <| .c oz2 <| .c oz3 <| .c hc1 <| .n)).to (by (simp only [depthE, List.length_map] at *; rw [if_neg (by omega), if_neg (by omega)]))

set_option maxRecDepth 100000 in
set_option maxHeartbeats 2000000 in
theorem refDepthShape_v (t : Shp) (n : Nod) (ok : t.Ok) (okn : n.Ok) : VC Try.prog 140 ([shp t, nod n]) (.tup [shp (depthE t n).1, i64 (depthE t n).2]) := by
  have q2 := ok.c
  have q3 := fun h => wts_bd (t := t) (k := n.nk) (s := n.ns) (p := n.np) (o := t.c) h
  have oz0 := @refSlide_v (t) (n.nk) (n.ns) (n.np) (t.c) ok q2
  rcases Bool.eq_false_or_eq_true ((slideE t n.nk n.ns n.np t.c).snd != 0) with hc0 | hc0
  · have gc0 : ¬(slideE t n.nk n.ns n.np t.c).snd = 0 := bdt hc0
    exact (VC.run (fn := Try.f140) (W := [.r [] [], .r [] [.callr (rO oz0)], .r [] [], .br true, .r [] []]) (r := AV.tup [AV.agg [i64 0, i64 0, i64 0], i64 (slideE t n.nk n.ns n.np t.c).snd]) Try.func140 (by kernel_rfl) (.c oz0 <| .c hc0 <| .n)).to (by (simp only [depthE]; rw [if_pos (by omega)]))
  · have gc0 : (slideE t n.nk n.ns n.np t.c).snd = 0 := bdf hc0
    have oz2 := (IntWalk.i64_in (t.c * n.nk) (by omega))
    have oz3 := (IntWalk.i64_in (t.c * n.nk * n.nk) (by omega))
    rcases Bool.eq_false_or_eq_true ((↑(List.map (row1 IntKind.i8) n.w).length : Int) != t.c * n.nk * n.nk || decide ((↑(List.map (row1 IntKind.i8) n.w).length : Int) > 16384) || (↑(List.map (row1 IntKind.i32) n.b).length : Int) != t.c) with hc1 | hc1
    · have gc1 : (¬(↑(List.map (row1 IntKind.i8) n.w).length : Int) = t.c * n.nk * n.nk ∨ (↑(List.map (row1 IntKind.i8) n.w).length : Int) > 16384) ∨ ¬(↑(List.map (row1 IntKind.i32) n.b).length : Int) = t.c := by first | (simp only [Bool.or_eq_true, Bool.or_eq_false_iff, Bool.and_eq_true, Bool.and_eq_false_iff, Bool.not_eq_true', Bool.not_eq_false', decide_eq_true_eq, decide_eq_false_iff_not, beq_iff_eq, bne_iff_ne, ne_eq, beq_eq_false_iff_ne, bne_eq_false_iff_eq, eqNums, Bool.and_true] at hc1; first | exact hc1 | omega) | simpa using hc1 | (simp at hc1 ⊢; omega) | (apply Classical.byContradiction; intro hn; simp_all [eqNums]; done) | (apply Classical.byContradiction; intro hn; simp [eqNums] at hc1 hn; omega)
      exact (VC.run (fn := Try.f140) (W := [.r [] [], .r [] [.callr (rO oz0)], .r [] [], .br false, .r [] [.n (nO oz2), .n (nO oz3), .op false, .op false, .op false, .op false, .sel 1, .op false, .op false, .op false, .op false, .op false, .op false, .sel 1], .br true, .r [] []]) (r := AV.tup [AV.agg [i64 0, i64 0, i64 0], i64 9]) Try.func140 (by kernel_rfl) (.c oz0 <| .c hc0 <| .c oz2 <| .c oz3 <| .c hc1 <| .n)).to (by (simp only [depthE, List.length_map] at *; rw [if_neg (by omega), if_pos (by omega)]))
    · have gc1 : ((↑(List.map (row1 IntKind.i8) n.w).length : Int) = t.c * n.nk * n.nk ∧ ¬(↑(List.map (row1 IntKind.i8) n.w).length : Int) > 16384) ∧ (↑(List.map (row1 IntKind.i32) n.b).length : Int) = t.c := by first | (simp only [Bool.or_eq_true, Bool.or_eq_false_iff, Bool.and_eq_true, Bool.and_eq_false_iff, Bool.not_eq_true', Bool.not_eq_false', decide_eq_true_eq, decide_eq_false_iff_not, beq_iff_eq, bne_iff_ne, ne_eq, beq_eq_false_iff_ne, bne_eq_false_iff_eq, eqNums, Bool.and_true] at hc1; first | exact hc1 | omega) | simpa using hc1 | (simp at hc1 ⊢; omega) | (apply Classical.byContradiction; intro hn; simp_all [eqNums]; done) | (apply Classical.byContradiction; intro hn; simp [eqNums] at hc1 hn; omega)
      exact (VC.run (fn := Try.f140) (W := [.r [] [], .r [] [.callr (rO oz0)], .r [] [], .br false, .r [] [.n (nO oz2), .n (nO oz3), .op false, .op false, .op false, .op false, .sel 1, .op false, .op false, .op false, .op false, .op false, .op false, .sel 1], .br false, .r [] []]) (r := AV.tup [AV.agg [i64 (slideE t n.nk n.ns n.np t.c).fst.h, i64 (slideE t n.nk n.ns n.np t.c).fst.x, i64 (slideE t n.nk n.ns n.np t.c).fst.c], i64 0]) Try.func140 (by kernel_rfl) (.c oz0 <| .c hc0 <| .c oz2 <| .c oz3 <| .c hc1 <| .n)).to (by (simp only [depthE, List.length_map] at *; rw [if_neg (by omega), if_neg (by omega)]))
theorem elems_in (h x c : Int) : 0 ≤ elems h x c ∧ elems h x c ≤ 1024 := by
  unfold elems; split
  · rename_i g
    have := Int.mul_nonneg (Int.mul_nonneg (show 0 ≤ h by omega) (show 0 ≤ x by omega)) (show 0 ≤ c by omega)
    omega
  · omega
def denseE (t : Shp) (n : Nod) : Shp × Int :=
  if elems t.h t.x t.c = 0 ∨ elems 1 1 n.no = 0 then (⟨0, 0, 0⟩, 5)
  else if (n.w.length : Int) ≠ n.no * elems t.h t.x t.c ∨ 16384 < (n.w.length : Int) ∨ (n.b.length : Int) ≠ n.no then (⟨0, 0, 0⟩, 9) else (⟨1, 1, n.no⟩, 0)
set_option maxRecDepth 100000 in
set_option maxHeartbeats 2000000 in
theorem denseShape_v (t : Shp) (n : Nod) (ok : t.Ok) (okn : n.Ok) : VC Try.prog 226 ([shp t, nod n]) (.tup [shp (denseE t n).1, i64 (denseE t n).2]) := by
  obtain ⟨p1, p2, p3⟩ := id ok
  have q2 := elems_in t.h t.x t.c
  have q3 := elems_in 1 1 n.no
  have q4 : 0 < elems 1 1 n.no → 1 ≤ n.no ∧ n.no ≤ 1024 := fun h => by have := elems_ok h; omega
  have q5 : 0 < elems 1 1 n.no → 0 ≤ n.no * elems t.h t.x t.c ∧ n.no * elems t.h t.x t.c ≤ 1024 * 1024 := fun h => mul_bd (by have := q4 h; omega) (q4 h).2 q2.1 q2.2
  have oz0 := @sRight_v (t) ok
  have oz1 := @sRight_v (Shp.mk 1 1 n.no) (by (exact Shp.mk_ok ⟨by decide, by decide⟩ ⟨by decide, by decide⟩ okn.no))
  rcases Bool.eq_false_or_eq_true (!decide (0 < elems t.h t.x t.c) || !decide (0 < elems 1 1 n.no)) with hc0 | hc0
  · have gc0 : ¬0 < elems t.h t.x t.c ∨ ¬0 < elems 1 1 n.no := by first | (simp only [Bool.or_eq_true, Bool.or_eq_false_iff, Bool.and_eq_true, Bool.and_eq_false_iff, Bool.not_eq_true', Bool.not_eq_false', decide_eq_true_eq, decide_eq_false_iff_not, beq_iff_eq, bne_iff_ne, ne_eq, beq_eq_false_iff_ne, bne_eq_false_iff_eq, eqNums, Bool.and_true] at hc0; first | exact hc0 | omega) | simpa using hc0 | (simp at hc0 ⊢; omega) | (apply Classical.byContradiction; intro hn; simp_all [eqNums]; done) | (apply Classical.byContradiction; intro hn; simp [eqNums] at hc0 hn; omega)
    exact (VC.run (fn := Try.f226) (W := [.r [] [], .r [] [], .r [] [.callr (rO oz0), .op false, .op false, .callr (rO oz1), .op false, .sel 1], .br true, .r [] []]) (r := AV.tup [AV.agg [i64 0, i64 0, i64 0], i64 5]) Try.func226 (by kernel_rfl) (.c oz0 <| .c oz1 <| .c hc0 <| .n)).to (by (simp only [denseE]; rw [if_pos (by omega)]))
  · have gc0 : 0 < elems t.h t.x t.c ∧ 0 < elems 1 1 n.no := by first | (simp only [Bool.or_eq_true, Bool.or_eq_false_iff, Bool.and_eq_true, Bool.and_eq_false_iff, Bool.not_eq_true', Bool.not_eq_false', decide_eq_true_eq, decide_eq_false_iff_not, beq_iff_eq, bne_iff_ne, ne_eq, beq_eq_false_iff_ne, bne_eq_false_iff_eq, eqNums, Bool.and_true] at hc0; first | exact hc0 | omega) | simpa using hc0 | (simp at hc0 ⊢; omega) | (apply Classical.byContradiction; intro hn; simp_all [eqNums]; done) | (apply Classical.byContradiction; intro hn; simp [eqNums] at hc0 hn; omega)
    have oz3 := @elems_v (t.h) (t.x) (t.c) p1 p2 p3
    have oz4 := (IntWalk.i64_in (n.no * elems t.h t.x t.c) (by omega))
    rcases Bool.eq_false_or_eq_true ((↑(List.map (row1 IntKind.i8) n.w).length : Int) != n.no * elems t.h t.x t.c || decide ((↑(List.map (row1 IntKind.i8) n.w).length : Int) > 16384) || (↑(List.map (row1 IntKind.i32) n.b).length : Int) != n.no) with hc1 | hc1
    · have gc1 : (¬(↑(List.map (row1 IntKind.i8) n.w).length : Int) = n.no * elems t.h t.x t.c ∨ (↑(List.map (row1 IntKind.i8) n.w).length : Int) > 16384) ∨ ¬(↑(List.map (row1 IntKind.i32) n.b).length : Int) = n.no := by first | (simp only [Bool.or_eq_true, Bool.or_eq_false_iff, Bool.and_eq_true, Bool.and_eq_false_iff, Bool.not_eq_true', Bool.not_eq_false', decide_eq_true_eq, decide_eq_false_iff_not, beq_iff_eq, bne_iff_ne, ne_eq, beq_eq_false_iff_ne, bne_eq_false_iff_eq, eqNums, Bool.and_true] at hc1; first | exact hc1 | omega) | simpa using hc1 | (simp at hc1 ⊢; omega) | (apply Classical.byContradiction; intro hn; simp_all [eqNums]; done) | (apply Classical.byContradiction; intro hn; simp [eqNums] at hc1 hn; omega)
      exact (VC.run (fn := Try.f226) (W := [.r [] [], .r [] [], .r [] [.callr (rO oz0), .op false, .op false, .callr (rO oz1), .op false, .sel 1], .br false, .r [] [.callr (rO oz3), .n (nO oz4), .op false, .op false, .op false, .op false, .sel 1, .op false, .op false, .op false, .op false, .op false, .op false, .sel 1], .br true, .r [] []]) (r := AV.tup [AV.agg [i64 0, i64 0, i64 0], i64 9]) Try.func226 (by kernel_rfl) (.c oz0 <| .c oz1 <| .c hc0 <| .c oz3 <| .c oz4 <| .c hc1 <| .n)).to (by (simp only [denseE, List.length_map] at *; rw [if_neg (by omega), if_pos (by omega)]))
    · have gc1 : ((↑(List.map (row1 IntKind.i8) n.w).length : Int) = n.no * elems t.h t.x t.c ∧ ¬(↑(List.map (row1 IntKind.i8) n.w).length : Int) > 16384) ∧ (↑(List.map (row1 IntKind.i32) n.b).length : Int) = n.no := by first | (simp only [Bool.or_eq_true, Bool.or_eq_false_iff, Bool.and_eq_true, Bool.and_eq_false_iff, Bool.not_eq_true', Bool.not_eq_false', decide_eq_true_eq, decide_eq_false_iff_not, beq_iff_eq, bne_iff_ne, ne_eq, beq_eq_false_iff_ne, bne_eq_false_iff_eq, eqNums, Bool.and_true] at hc1; first | exact hc1 | omega) | simpa using hc1 | (simp at hc1 ⊢; omega) | (apply Classical.byContradiction; intro hn; simp_all [eqNums]; done) | (apply Classical.byContradiction; intro hn; simp [eqNums] at hc1 hn; omega)
      exact (VC.run (fn := Try.f226) (W := [.r [] [], .r [] [], .r [] [.callr (rO oz0), .op false, .op false, .callr (rO oz1), .op false, .sel 1], .br false, .r [] [.callr (rO oz3), .n (nO oz4), .op false, .op false, .op false, .op false, .sel 1, .op false, .op false, .op false, .op false, .op false, .op false, .sel 1], .br false, .r [] []]) (r := AV.tup [AV.agg [i64 1, i64 1, i64 n.no], i64 0]) Try.func226 (by kernel_rfl) (.c oz0 <| .c oz1 <| .c hc0 <| .c oz3 <| .c oz4 <| .c hc1 <| .n)).to (by (simp only [denseE, List.length_map] at *; rw [if_neg (by omega), if_neg (by omega)]))

set_option maxRecDepth 100000 in
set_option maxHeartbeats 2000000 in
theorem refDenseShape_v (t : Shp) (n : Nod) (ok : t.Ok) (okn : n.Ok) : VC Try.prog 141 ([shp t, nod n]) (.tup [shp (denseE t n).1, i64 (denseE t n).2]) := by
  obtain ⟨p1, p2, p3⟩ := id ok
  have p4 := okn.no
  have p5 : In64 1 := ⟨by decide, by decide⟩
  have q2 := elems_in t.h t.x t.c
  have q3 := elems_in 1 1 n.no
  have q4 : 0 < elems 1 1 n.no → 1 ≤ n.no ∧ n.no ≤ 1024 := fun h => by have := elems_ok h; omega
  have q5 : 0 < elems 1 1 n.no → 0 ≤ n.no * elems t.h t.x t.c ∧ n.no * elems t.h t.x t.c ≤ 1024 * 1024 := fun h => mul_bd (by have := q4 h; omega) (q4 h).2 q2.1 q2.2
  have oz0 := @refElems_v (t.h) (t.x) (t.c) p1 p2 p3
  have oz1 := @refElems_v (1) (1) (n.no) p5 p5 p4
  rcases Bool.eq_false_or_eq_true (elems t.h t.x t.c == 0 || elems 1 1 n.no == 0) with hc0 | hc0
  · have gc0 : elems t.h t.x t.c = 0 ∨ elems 1 1 n.no = 0 := by first | (simp only [Bool.or_eq_true, Bool.or_eq_false_iff, Bool.and_eq_true, Bool.and_eq_false_iff, Bool.not_eq_true', Bool.not_eq_false', decide_eq_true_eq, decide_eq_false_iff_not, beq_iff_eq, bne_iff_ne, ne_eq, beq_eq_false_iff_ne, bne_eq_false_iff_eq, eqNums, Bool.and_true] at hc0; first | exact hc0 | omega) | simpa using hc0 | (simp at hc0 ⊢; omega) | (apply Classical.byContradiction; intro hn; simp_all [eqNums]; done) | (apply Classical.byContradiction; intro hn; simp [eqNums] at hc0 hn; omega)
    exact (VC.run (fn := Try.f141) (W := [.r [] [], .r [] [], .r [] [.callr (rO oz0), .op false, .op false, .callr (rO oz1), .op false, .sel 1], .br true, .r [] []]) (r := AV.tup [AV.agg [i64 0, i64 0, i64 0], i64 5]) Try.func141 (by kernel_rfl) (.c oz0 <| .c oz1 <| .c hc0 <| .n)).to (by (simp only [denseE]; rw [if_pos (by omega)]))
  · have gc0 : ¬elems t.h t.x t.c = 0 ∧ ¬elems 1 1 n.no = 0 := by first | (simp only [Bool.or_eq_true, Bool.or_eq_false_iff, Bool.and_eq_true, Bool.and_eq_false_iff, Bool.not_eq_true', Bool.not_eq_false', decide_eq_true_eq, decide_eq_false_iff_not, beq_iff_eq, bne_iff_ne, ne_eq, beq_eq_false_iff_ne, bne_eq_false_iff_eq, eqNums, Bool.and_true] at hc0; first | exact hc0 | omega) | simpa using hc0 | (simp at hc0 ⊢; omega) | (apply Classical.byContradiction; intro hn; simp_all [eqNums]; done) | (apply Classical.byContradiction; intro hn; simp [eqNums] at hc0 hn; omega)
    have oz4 := (IntWalk.i64_in (n.no * elems t.h t.x t.c) (by omega))
    rcases Bool.eq_false_or_eq_true ((↑(List.map (row1 IntKind.i8) n.w).length : Int) != n.no * elems t.h t.x t.c || decide ((↑(List.map (row1 IntKind.i8) n.w).length : Int) > 16384) || (↑(List.map (row1 IntKind.i32) n.b).length : Int) != n.no) with hc1 | hc1
    · have gc1 : (¬(↑(List.map (row1 IntKind.i8) n.w).length : Int) = n.no * elems t.h t.x t.c ∨ (↑(List.map (row1 IntKind.i8) n.w).length : Int) > 16384) ∨ ¬(↑(List.map (row1 IntKind.i32) n.b).length : Int) = n.no := by first | (simp only [Bool.or_eq_true, Bool.or_eq_false_iff, Bool.and_eq_true, Bool.and_eq_false_iff, Bool.not_eq_true', Bool.not_eq_false', decide_eq_true_eq, decide_eq_false_iff_not, beq_iff_eq, bne_iff_ne, ne_eq, beq_eq_false_iff_ne, bne_eq_false_iff_eq, eqNums, Bool.and_true] at hc1; first | exact hc1 | omega) | simpa using hc1 | (simp at hc1 ⊢; omega) | (apply Classical.byContradiction; intro hn; simp_all [eqNums]; done) | (apply Classical.byContradiction; intro hn; simp [eqNums] at hc1 hn; omega)
      exact (VC.run (fn := Try.f141) (W := [.r [] [], .r [] [], .r [] [.callr (rO oz0), .op false, .op false, .callr (rO oz1), .op false, .sel 1], .br false, .r [] [.callr (rO oz0), .n (nO oz4), .op false, .op false, .op false, .op false, .sel 1, .op false, .op false, .op false, .op false, .op false, .op false, .sel 1], .br true, .r [] []]) (r := AV.tup [AV.agg [i64 0, i64 0, i64 0], i64 9]) Try.func141 (by kernel_rfl) (.c oz0 <| .c oz1 <| .c hc0 <| .c oz0 <| .c oz4 <| .c hc1 <| .n)).to (by (simp only [denseE, List.length_map] at *; rw [if_neg (by omega), if_pos (by omega)]))
    · have gc1 : ((↑(List.map (row1 IntKind.i8) n.w).length : Int) = n.no * elems t.h t.x t.c ∧ ¬(↑(List.map (row1 IntKind.i8) n.w).length : Int) > 16384) ∧ (↑(List.map (row1 IntKind.i32) n.b).length : Int) = n.no := by first | (simp only [Bool.or_eq_true, Bool.or_eq_false_iff, Bool.and_eq_true, Bool.and_eq_false_iff, Bool.not_eq_true', Bool.not_eq_false', decide_eq_true_eq, decide_eq_false_iff_not, beq_iff_eq, bne_iff_ne, ne_eq, beq_eq_false_iff_ne, bne_eq_false_iff_eq, eqNums, Bool.and_true] at hc1; first | exact hc1 | omega) | simpa using hc1 | (simp at hc1 ⊢; omega) | (apply Classical.byContradiction; intro hn; simp_all [eqNums]; done) | (apply Classical.byContradiction; intro hn; simp [eqNums] at hc1 hn; omega)
      exact (VC.run (fn := Try.f141) (W := [.r [] [], .r [] [], .r [] [.callr (rO oz0), .op false, .op false, .callr (rO oz1), .op false, .sel 1], .br false, .r [] [.callr (rO oz0), .n (nO oz4), .op false, .op false, .op false, .op false, .sel 1, .op false, .op false, .op false, .op false, .op false, .op false, .sel 1], .br false, .r [] []]) (r := AV.tup [AV.agg [i64 1, i64 1, i64 n.no], i64 0]) Try.func141 (by kernel_rfl) (.c oz0 <| .c oz1 <| .c hc0 <| .c oz0 <| .c oz4 <| .c hc1 <| .n)).to (by (simp only [denseE, List.length_map] at *; rw [if_neg (by omega), if_neg (by omega)]))
end Go.Proofs.Ytgecmooedhnenaa

/- The shape of what any node makes. No condition. -/
namespace Go.Proofs.Ytgecmooedhnenaa
open Go.RowKit
set_option linter.unusedSimpArgs false
set_option linter.unusedVariables false
set_option linter.unnecessarySimpa false

/-- A shape with more around it. -/
def aroundE (a : Shp) (p : Int) : Shp × Int := if p < 0 ∨ 4 < p then (⟨0, 0, 0⟩, 2) else if elems (a.h + 2 * p) (a.x + 2 * p) a.c = 0 then (⟨0, 0, 0⟩, 5) else (⟨a.h + 2 * p, a.x + 2 * p, a.c⟩, 0)
/-- The shape of what a node makes of one shape, or of two. -/
def shapeE (n : Nod) (a b : Shp) : Shp × Int :=
  if n.kd = 1 then convE a n else if n.kd = 2 then depthE a n else if n.kd = 3 then denseE a n else if n.kd = 4 ∨ n.kd = 5 then slideE a n.nk n.ns n.np a.c
  else if n.kd < 1 ∨ 9 < n.kd then (⟨0, 0, 0⟩, 6) else if elems a.h a.x a.c = 0 ∨ (n.kd = 6 ∧ ¬(a.h = b.h ∧ a.x = b.x ∧ a.c = b.c)) then (⟨0, 0, 0⟩, 5)
  else if n.kd = 9 then (⟨1, 1, elems a.h a.x a.c⟩, 0) else if n.kd = 8 then
    aroundE a n.np else (a, 0)
set_option maxRecDepth 100000 in
set_option maxHeartbeats 2000000 in
theorem around_v (a : Shp) (p : Int) (ok : a.Ok) (h0 : 0 < elems a.h a.x a.c) : VC Try.prog 235 ([shp a, i64 p]) (.tup [shp (aroundE a p).1, i64 (aroundE a p).2]) := by
  have q := elems_ok h0
  have q2 := elems_in (a.h + 2 * p) (a.x + 2 * p) a.c
  have q3 := ok.c
  rcases Bool.eq_false_or_eq_true (decide (p < 0) || decide (p > 4)) with hc0 | hc0
  · have gc0 : p < 0 ∨ p > 4 := by first | (simp only [Bool.or_eq_true, Bool.or_eq_false_iff, Bool.and_eq_true, Bool.and_eq_false_iff, Bool.not_eq_true', Bool.not_eq_false', decide_eq_true_eq, decide_eq_false_iff_not, beq_iff_eq, bne_iff_ne, ne_eq, beq_eq_false_iff_ne, bne_eq_false_iff_eq, eqNums, Bool.and_true] at hc0; first | exact hc0 | omega) | simpa using hc0 | (simp at hc0 ⊢; omega) | (apply Classical.byContradiction; intro hn; simp_all [eqNums]; done) | (apply Classical.byContradiction; intro hn; simp [eqNums] at hc0 hn; omega)
    exact (VC.run (fn := Try.f235) (W := [.r [] [], .r [] [.op false, .op false, .sel 1], .br true, .r [] []]) (r := AV.tup [AV.agg [i64 0, i64 0, i64 0], i64 2]) Try.func235 (by kernel_rfl) (.c hc0 <| .n)).weak (WeakL.refl _) (Weak.tup (.cons (Weak.agg (.cons (Weak.int (show ((0) : Int) = ((aroundE a p).fst.h) from (by (unfold aroundE; (repeat first | rw [if_pos (by omega)] | rw [if_neg (by omega)]))))) (.cons (Weak.int (show ((0) : Int) = ((aroundE a p).fst.x) from (by (unfold aroundE; (repeat first | rw [if_pos (by omega)] | rw [if_neg (by omega)]))))) (.cons (Weak.int (show ((0) : Int) = ((aroundE a p).fst.c) from (by (unfold aroundE; (repeat first | rw [if_pos (by omega)] | rw [if_neg (by omega)]))))) .nil)))) (.cons (Weak.int (show ((2) : Int) = ((aroundE a p).snd) from (by (unfold aroundE; (repeat first | rw [if_pos (by omega)] | rw [if_neg (by omega)]))))) .nil)))
  · have gc0 : ¬p < 0 ∧ ¬p > 4 := by first | (simp only [Bool.or_eq_true, Bool.or_eq_false_iff, Bool.and_eq_true, Bool.and_eq_false_iff, Bool.not_eq_true', Bool.not_eq_false', decide_eq_true_eq, decide_eq_false_iff_not, beq_iff_eq, bne_iff_ne, ne_eq, beq_eq_false_iff_ne, bne_eq_false_iff_eq, eqNums, Bool.and_true] at hc0; first | exact hc0 | omega) | simpa using hc0 | (simp at hc0 ⊢; omega) | (apply Classical.byContradiction; intro hn; simp_all [eqNums]; done) | (apply Classical.byContradiction; intro hn; simp [eqNums] at hc0 hn; omega)
    have oz1 := (IntWalk.i64_in (2 * p) (by omega))
    have oz2 := (IntWalk.i64_in (a.h + 2 * p) (by omega))
    have oz4 := (IntWalk.i64_in (a.x + 2 * p) (by omega))
    have oz5 := @sRight_v (Shp.mk (a.h + 2 * p) (a.x + 2 * p) a.c) (by (exact Shp.mk_ok ⟨by omega, by omega⟩ ⟨by omega, by omega⟩ q3))
    rcases Bool.eq_false_or_eq_true (!decide (0 < elems (a.h + 2 * p) (a.x + 2 * p) a.c)) with hc1 | hc1
    · have gc1 := bnt hc1
      exact (VC.run (fn := Try.f235) (W := [.r [] [], .r [] [.op false, .op false, .sel 1], .br false, .r [] [.n (nO oz1), .n (nO oz2), .n (nO oz1), .n (nO oz4)], .r [] [.callr (rO oz5)], .br true, .r [] []]) (r := AV.tup [AV.agg [i64 0, i64 0, i64 0], i64 5]) Try.func235 (by kernel_rfl) (.c hc0 <| .c oz1 <| .c oz2 <| .c oz1 <| .c oz4 <| .c oz5 <| .c hc1 <| .n)).weak (WeakL.refl _) (Weak.tup (.cons (Weak.agg (.cons (Weak.int (show ((0) : Int) = ((aroundE a p).fst.h) from (by (unfold aroundE; (repeat first | rw [if_pos (by omega)] | rw [if_neg (by omega)]))))) (.cons (Weak.int (show ((0) : Int) = ((aroundE a p).fst.x) from (by (unfold aroundE; (repeat first | rw [if_pos (by omega)] | rw [if_neg (by omega)]))))) (.cons (Weak.int (show ((0) : Int) = ((aroundE a p).fst.c) from (by (unfold aroundE; (repeat first | rw [if_pos (by omega)] | rw [if_neg (by omega)]))))) .nil)))) (.cons (Weak.int (show ((5) : Int) = ((aroundE a p).snd) from (by (unfold aroundE; (repeat first | rw [if_pos (by omega)] | rw [if_neg (by omega)]))))) .nil)))
    · have gc1 := bnf hc1
      exact (VC.run (fn := Try.f235) (W := [.r [] [], .r [] [.op false, .op false, .sel 1], .br false, .r [] [.n (nO oz1), .n (nO oz2), .n (nO oz1), .n (nO oz4)], .r [] [.callr (rO oz5)], .br false, .r [] []]) (r := AV.tup [AV.agg [i64 (a.h + 2 * p), i64 (a.x + 2 * p), i64 a.c], i64 0]) Try.func235 (by kernel_rfl) (.c hc0 <| .c oz1 <| .c oz2 <| .c oz1 <| .c oz4 <| .c oz5 <| .c hc1 <| .n)).weak (WeakL.refl _) (Weak.tup (.cons (Weak.agg (.cons (Weak.int (show ((a.h + 2 * p) : Int) = ((aroundE a p).fst.h) from (by (unfold aroundE; (repeat first | rw [if_pos (by omega)] | rw [if_neg (by omega)]))))) (.cons (Weak.int (show ((a.x + 2 * p) : Int) = ((aroundE a p).fst.x) from (by (unfold aroundE; (repeat first | rw [if_pos (by omega)] | rw [if_neg (by omega)]))))) (.cons (Weak.int (show ((a.c) : Int) = ((aroundE a p).fst.c) from (by (unfold aroundE; (repeat first | rw [if_pos (by omega)] | rw [if_neg (by omega)]))))) .nil)))) (.cons (Weak.int (show ((0) : Int) = ((aroundE a p).snd) from (by (unfold aroundE; (repeat first | rw [if_pos (by omega)] | rw [if_neg (by omega)]))))) .nil)))

set_option maxRecDepth 100000 in
set_option maxHeartbeats 2000000 in
theorem plainShape_v (n : Nod) (a b : Shp) (ok : a.Ok) (okb : b.Ok) (hk : 6 ≤ n.kd) (hk9 : n.kd ≤ 9) : VC Try.prog 228 ([nod n, shp a, shp b]) (.tup [shp (shapeE n a b).1, i64 (shapeE n a b).2]) := by
  obtain ⟨p1, p2, p3⟩ := id ok
  have q2 := elems_in a.h a.x a.c
  have oz0 := @sRight_v (a) ok
  rcases Bool.eq_false_or_eq_true (!decide (0 < elems a.h a.x a.c)) with hc0 | hc0
  · have gc0 := bnt hc0
    exact (VC.run (fn := Try.f228) (W := [.r [] [], .r [] [.callr (rO oz0)], .br true, .r [] []]) (r := AV.tup [AV.agg [i64 0, i64 0, i64 0], i64 5]) Try.func228 (by kernel_rfl) (.c oz0 <| .c hc0 <| .n)).weak (WeakL.refl _) (Weak.tup (.cons (Weak.agg (.cons (Weak.int (show ((0) : Int) = ((shapeE n a b).fst.h) from (by (unfold shapeE; (repeat first | rw [if_pos (by omega)] | rw [if_neg (by omega)]))))) (.cons (Weak.int (show ((0) : Int) = ((shapeE n a b).fst.x) from (by (unfold shapeE; (repeat first | rw [if_pos (by omega)] | rw [if_neg (by omega)]))))) (.cons (Weak.int (show ((0) : Int) = ((shapeE n a b).fst.c) from (by (unfold shapeE; (repeat first | rw [if_pos (by omega)] | rw [if_neg (by omega)]))))) .nil)))) (.cons (Weak.int (show ((5) : Int) = ((shapeE n a b).snd) from (by (unfold shapeE; (repeat first | rw [if_pos (by omega)] | rw [if_neg (by omega)]))))) .nil)))
  · have gc0 := bnf hc0
    rcases Bool.eq_false_or_eq_true (n.kd == 6) with hc1 | hc1
    · have gc1 : n.kd = 6 := bet hc1
      have oz3 := (show BinTo Try.prog BinOp.neq 24 (Operand.tmp 16) (Operand.tmp 17) (Value.agg #[Value.int IntKind.i64 a.h, Value.int IntKind.i64 a.x, Value.int IntKind.i64 a.c]) (Value.agg #[Value.int IntKind.i64 b.h, Value.int IntKind.i64 b.x, Value.int IntKind.i64 b.c]) (Value.bool !eqNums [(IntKind.i64, a.h, b.h), (IntKind.i64, a.x, b.x), (IntKind.i64, a.c, b.c)]) from ((bin_nums (l := [(IntKind.i64, a.h, b.h), (IntKind.i64, a.x, b.x), (IntKind.i64, a.c, b.c)]) (by kernel_rfl) (by kernel_rfl) (by kernel_rfl) (by kernel_rfl) _ _).2))
      rcases Bool.eq_false_or_eq_true (!eqNums [(IntKind.i64, a.h, b.h), (IntKind.i64, a.x, b.x), (IntKind.i64, a.c, b.c)]) with hc2 | hc2
      · have gc2 : ¬(a.h = b.h ∧ a.x = b.x ∧ a.c = b.c) := by first | (simp only [Bool.or_eq_true, Bool.or_eq_false_iff, Bool.and_eq_true, Bool.and_eq_false_iff, Bool.not_eq_true', Bool.not_eq_false', decide_eq_true_eq, decide_eq_false_iff_not, beq_iff_eq, bne_iff_ne, ne_eq, beq_eq_false_iff_ne, bne_eq_false_iff_eq, eqNums, Bool.and_true] at hc2; first | exact hc2 | omega) | simpa using hc2 | (simp at hc2 ⊢; omega) | (apply Classical.byContradiction; intro hn; simp_all [eqNums]; done) | (apply Classical.byContradiction; intro hn; simp [eqNums] at hc2 hn; omega)
        exact (VC.run (fn := Try.f228) (W := [.r [] [], .r [] [.callr (rO oz0)], .br false, .r [] [], .r [] [], .br true, .r [] [.v (Value.bool !eqNums [(IntKind.i64, a.h, b.h), (IntKind.i64, a.x, b.x), (IntKind.i64, a.c, b.c)])], .br true, .r [] []]) (r := AV.tup [AV.agg [i64 0, i64 0, i64 0], i64 5]) Try.func228 (by kernel_rfl) (.c oz0 <| .c hc0 <| .c hc1 <| .c oz3 <| .c hc2 <| .n)).weak (WeakL.refl _) (Weak.tup (.cons (Weak.agg (.cons (Weak.int (show ((0) : Int) = ((shapeE n a b).fst.h) from (by (unfold shapeE; (repeat first | rw [if_pos (by omega)] | rw [if_neg (by omega)]))))) (.cons (Weak.int (show ((0) : Int) = ((shapeE n a b).fst.x) from (by (unfold shapeE; (repeat first | rw [if_pos (by omega)] | rw [if_neg (by omega)]))))) (.cons (Weak.int (show ((0) : Int) = ((shapeE n a b).fst.c) from (by (unfold shapeE; (repeat first | rw [if_pos (by omega)] | rw [if_neg (by omega)]))))) .nil)))) (.cons (Weak.int (show ((5) : Int) = ((shapeE n a b).snd) from (by (unfold shapeE; (repeat first | rw [if_pos (by omega)] | rw [if_neg (by omega)]))))) .nil)))
      · have gc2 : a.h = b.h ∧ a.x = b.x ∧ a.c = b.c := by first | (simp only [Bool.or_eq_true, Bool.or_eq_false_iff, Bool.and_eq_true, Bool.and_eq_false_iff, Bool.not_eq_true', Bool.not_eq_false', decide_eq_true_eq, decide_eq_false_iff_not, beq_iff_eq, bne_iff_ne, ne_eq, beq_eq_false_iff_ne, bne_eq_false_iff_eq, eqNums, Bool.and_true] at hc2; first | exact hc2 | omega) | simpa using hc2 | (simp at hc2 ⊢; omega) | (apply Classical.byContradiction; intro hn; simp_all [eqNums]; done) | (apply Classical.byContradiction; intro hn; simp [eqNums] at hc2 hn; omega)
        exact (VC.run (fn := Try.f228) (W := [.r [] [], .r [] [.callr (rO oz0)], .br false, .r [] [], .r [] [], .br true, .r [] [.v (Value.bool !eqNums [(IntKind.i64, a.h, b.h), (IntKind.i64, a.x, b.x), (IntKind.i64, a.c, b.c)])], .br false, .r [] []]) (r := AV.tup [AV.agg [i64 a.h, i64 a.x, i64 a.c], i64 0]) Try.func228 (by kernel_rfl) (.c oz0 <| .c hc0 <| .c hc1 <| .c oz3 <| .c hc2 <| .n)).weak (WeakL.refl _) (Weak.tup (.cons (Weak.agg (.cons (Weak.int (show ((a.h) : Int) = ((shapeE n a b).fst.h) from (by (unfold shapeE; (repeat first | rw [if_pos (by omega)] | rw [if_neg (by omega)]))))) (.cons (Weak.int (show ((a.x) : Int) = ((shapeE n a b).fst.x) from (by (unfold shapeE; (repeat first | rw [if_pos (by omega)] | rw [if_neg (by omega)]))))) (.cons (Weak.int (show ((a.c) : Int) = ((shapeE n a b).fst.c) from (by (unfold shapeE; (repeat first | rw [if_pos (by omega)] | rw [if_neg (by omega)]))))) .nil)))) (.cons (Weak.int (show ((0) : Int) = ((shapeE n a b).snd) from (by (unfold shapeE; (repeat first | rw [if_pos (by omega)] | rw [if_neg (by omega)]))))) .nil)))
    · have gc1 : ¬n.kd = 6 := bef hc1
      rcases Bool.eq_false_or_eq_true (n.kd == 8) with hc2 | hc2
      · have gc2 : n.kd = 8 := bet hc2
        have oz4 := @around_v (a) (n.np) ok gc0
        exact (VC.run (fn := Try.f228) (W := [.r [] [], .r [] [.callr (rO oz0)], .br false, .r [] [], .r [] [], .br false, .r [] [], .br true, .r [] [.callr (rO oz4)]]) (r := AV.tup [AV.agg [i64 (aroundE a n.np).fst.h, i64 (aroundE a n.np).fst.x, i64 (aroundE a n.np).fst.c], i64 (aroundE a n.np).snd]) Try.func228 (by kernel_rfl) (.c oz0 <| .c hc0 <| .c hc1 <| .c hc2 <| .c oz4 <| .n)).weak (WeakL.refl _) (Weak.tup (.cons (Weak.agg (.cons (Weak.int (show (((aroundE a n.np).fst.h) : Int) = ((shapeE n a b).fst.h) from (by (unfold shapeE; (repeat first | rw [if_pos (by omega)] | rw [if_neg (by omega)]))))) (.cons (Weak.int (show (((aroundE a n.np).fst.x) : Int) = ((shapeE n a b).fst.x) from (by (unfold shapeE; (repeat first | rw [if_pos (by omega)] | rw [if_neg (by omega)]))))) (.cons (Weak.int (show (((aroundE a n.np).fst.c) : Int) = ((shapeE n a b).fst.c) from (by (unfold shapeE; (repeat first | rw [if_pos (by omega)] | rw [if_neg (by omega)]))))) .nil)))) (.cons (Weak.int (show (((aroundE a n.np).snd) : Int) = ((shapeE n a b).snd) from (by (unfold shapeE; (repeat first | rw [if_pos (by omega)] | rw [if_neg (by omega)]))))) .nil)))
      · have gc2 : ¬n.kd = 8 := bef hc2
        rcases Bool.eq_false_or_eq_true (n.kd == 9) with hc3 | hc3
        · have gc3 : n.kd = 9 := bet hc3
          have oz5 := @elems_v (a.h) (a.x) (a.c) p1 p2 p3
          exact (VC.run (fn := Try.f228) (W := [.r [] [], .r [] [.callr (rO oz0)], .br false, .r [] [], .r [] [], .br false, .r [] [], .br false, .r [] [], .br true, .r [] [.callr (rO oz5)]]) (r := AV.tup [AV.agg [i64 1, i64 1, i64 (elems a.h a.x a.c)], i64 0]) Try.func228 (by kernel_rfl) (.c oz0 <| .c hc0 <| .c hc1 <| .c hc2 <| .c hc3 <| .c oz5 <| .n)).weak (WeakL.refl _) (Weak.tup (.cons (Weak.agg (.cons (Weak.int (show ((1) : Int) = ((shapeE n a b).fst.h) from (by (unfold shapeE; (repeat first | rw [if_pos (by omega)] | rw [if_neg (by omega)]))))) (.cons (Weak.int (show ((1) : Int) = ((shapeE n a b).fst.x) from (by (unfold shapeE; (repeat first | rw [if_pos (by omega)] | rw [if_neg (by omega)]))))) (.cons (Weak.int (show ((elems a.h a.x a.c) : Int) = ((shapeE n a b).fst.c) from (by (unfold shapeE; (repeat first | rw [if_pos (by omega)] | rw [if_neg (by omega)]))))) .nil)))) (.cons (Weak.int (show ((0) : Int) = ((shapeE n a b).snd) from (by (unfold shapeE; (repeat first | rw [if_pos (by omega)] | rw [if_neg (by omega)]))))) .nil)))
        · have gc3 : ¬n.kd = 9 := bef hc3
          exact (VC.run (fn := Try.f228) (W := [.r [] [], .r [] [.callr (rO oz0)], .br false, .r [] [], .r [] [], .br false, .r [] [], .br false, .r [] [], .br false, .r [] []]) (r := AV.tup [AV.agg [i64 a.h, i64 a.x, i64 a.c], i64 0]) Try.func228 (by kernel_rfl) (.c oz0 <| .c hc0 <| .c hc1 <| .c hc2 <| .c hc3 <| .n)).weak (WeakL.refl _) (Weak.tup (.cons (Weak.agg (.cons (Weak.int (show ((a.h) : Int) = ((shapeE n a b).fst.h) from (by (unfold shapeE; (repeat first | rw [if_pos (by omega)] | rw [if_neg (by omega)]))))) (.cons (Weak.int (show ((a.x) : Int) = ((shapeE n a b).fst.x) from (by (unfold shapeE; (repeat first | rw [if_pos (by omega)] | rw [if_neg (by omega)]))))) (.cons (Weak.int (show ((a.c) : Int) = ((shapeE n a b).fst.c) from (by (unfold shapeE; (repeat first | rw [if_pos (by omega)] | rw [if_neg (by omega)]))))) .nil)))) (.cons (Weak.int (show ((0) : Int) = ((shapeE n a b).snd) from (by (unfold shapeE; (repeat first | rw [if_pos (by omega)] | rw [if_neg (by omega)]))))) .nil)))

set_option maxRecDepth 100000 in
set_option maxHeartbeats 2000000 in
theorem kshape_v (n : Nod) (a b : Shp) (ok : a.Ok) (okb : b.Ok) (okn : n.Ok) : VC Try.prog 203 ([nod n, shp a, shp b]) (.tup [shp (shapeE n a b).1, i64 (shapeE n a b).2]) := by
  obtain ⟨p1, p2, p3⟩ := id ok
  rcases Bool.eq_false_or_eq_true (n.kd == 1) with hc0 | hc0
  · have gc0 : n.kd = 1 := bet hc0
    have oz1 := @convShape_v (a) (n) ok okn
    exact (VC.run (fn := Try.f203) (W := [.r [] [], .r [] [], .r [] [], .br true, .r [] [.callr (rO oz1)]]) (r := AV.tup [AV.agg [i64 (convE a n).fst.h, i64 (convE a n).fst.x, i64 (convE a n).fst.c], i64 (convE a n).snd]) Try.func203 (by kernel_rfl) (.c hc0 <| .c oz1 <| .n)).weak (WeakL.refl _) (Weak.tup (.cons (Weak.agg (.cons (Weak.int (show (((convE a n).fst.h) : Int) = ((shapeE n a b).fst.h) from (by (unfold shapeE; (repeat first | rw [if_pos (by omega)] | rw [if_neg (by omega)]))))) (.cons (Weak.int (show (((convE a n).fst.x) : Int) = ((shapeE n a b).fst.x) from (by (unfold shapeE; (repeat first | rw [if_pos (by omega)] | rw [if_neg (by omega)]))))) (.cons (Weak.int (show (((convE a n).fst.c) : Int) = ((shapeE n a b).fst.c) from (by (unfold shapeE; (repeat first | rw [if_pos (by omega)] | rw [if_neg (by omega)]))))) .nil)))) (.cons (Weak.int (show (((convE a n).snd) : Int) = ((shapeE n a b).snd) from (by (unfold shapeE; (repeat first | rw [if_pos (by omega)] | rw [if_neg (by omega)]))))) .nil)))
  · have gc0 : ¬n.kd = 1 := bef hc0
    rcases Bool.eq_false_or_eq_true (n.kd == 2) with hc1 | hc1
    · have gc1 : n.kd = 2 := bet hc1
      have oz2 := @depthShape_v (a) (n) ok okn
      exact (VC.run (fn := Try.f203) (W := [.r [] [], .r [] [], .r [] [], .br false, .r [] [], .br true, .r [] [.callr (rO oz2)]]) (r := AV.tup [AV.agg [i64 (depthE a n).fst.h, i64 (depthE a n).fst.x, i64 (depthE a n).fst.c], i64 (depthE a n).snd]) Try.func203 (by kernel_rfl) (.c hc0 <| .c hc1 <| .c oz2 <| .n)).weak (WeakL.refl _) (Weak.tup (.cons (Weak.agg (.cons (Weak.int (show (((depthE a n).fst.h) : Int) = ((shapeE n a b).fst.h) from (by (unfold shapeE; (repeat first | rw [if_pos (by omega)] | rw [if_neg (by omega)]))))) (.cons (Weak.int (show (((depthE a n).fst.x) : Int) = ((shapeE n a b).fst.x) from (by (unfold shapeE; (repeat first | rw [if_pos (by omega)] | rw [if_neg (by omega)]))))) (.cons (Weak.int (show (((depthE a n).fst.c) : Int) = ((shapeE n a b).fst.c) from (by (unfold shapeE; (repeat first | rw [if_pos (by omega)] | rw [if_neg (by omega)]))))) .nil)))) (.cons (Weak.int (show (((depthE a n).snd) : Int) = ((shapeE n a b).snd) from (by (unfold shapeE; (repeat first | rw [if_pos (by omega)] | rw [if_neg (by omega)]))))) .nil)))
    · have gc1 : ¬n.kd = 2 := bef hc1
      rcases Bool.eq_false_or_eq_true (n.kd == 3) with hc2 | hc2
      · have gc2 : n.kd = 3 := bet hc2
        have oz3 := @denseShape_v (a) (n) ok okn
        exact (VC.run (fn := Try.f203) (W := [.r [] [], .r [] [], .r [] [], .br false, .r [] [], .br false, .r [] [], .br true, .r [] [.callr (rO oz3)]]) (r := AV.tup [AV.agg [i64 (denseE a n).fst.h, i64 (denseE a n).fst.x, i64 (denseE a n).fst.c], i64 (denseE a n).snd]) Try.func203 (by kernel_rfl) (.c hc0 <| .c hc1 <| .c hc2 <| .c oz3 <| .n)).weak (WeakL.refl _) (Weak.tup (.cons (Weak.agg (.cons (Weak.int (show (((denseE a n).fst.h) : Int) = ((shapeE n a b).fst.h) from (by (unfold shapeE; (repeat first | rw [if_pos (by omega)] | rw [if_neg (by omega)]))))) (.cons (Weak.int (show (((denseE a n).fst.x) : Int) = ((shapeE n a b).fst.x) from (by (unfold shapeE; (repeat first | rw [if_pos (by omega)] | rw [if_neg (by omega)]))))) (.cons (Weak.int (show (((denseE a n).fst.c) : Int) = ((shapeE n a b).fst.c) from (by (unfold shapeE; (repeat first | rw [if_pos (by omega)] | rw [if_neg (by omega)]))))) .nil)))) (.cons (Weak.int (show (((denseE a n).snd) : Int) = ((shapeE n a b).snd) from (by (unfold shapeE; (repeat first | rw [if_pos (by omega)] | rw [if_neg (by omega)]))))) .nil)))
      · have gc2 : ¬n.kd = 3 := bef hc2
        rcases Bool.eq_false_or_eq_true (n.kd == 4) with hc3 | hc3
        · have gc3 : n.kd = 4 := bet hc3
          have oz5 := @slide_v (a) (n.nk) (n.ns) (n.np) (a.c) ok p3
          exact (VC.run (fn := Try.f203) (W := [.r [] [], .r [] [], .r [] [], .br false, .r [] [], .br false, .r [] [], .br false, .r [] [], .br true, .br true, .r [] [.callr (rO oz5)]]) (r := AV.tup [AV.agg [i64 (slideE a n.nk n.ns n.np a.c).fst.h, i64 (slideE a n.nk n.ns n.np a.c).fst.x, i64 (slideE a n.nk n.ns n.np a.c).fst.c], i64 (slideE a n.nk n.ns n.np a.c).snd]) Try.func203 (by kernel_rfl) (.c hc0 <| .c hc1 <| .c hc2 <| .c hc3 <| .c hc3 <| .c oz5 <| .n)).weak (WeakL.refl _) (Weak.tup (.cons (Weak.agg (.cons (Weak.int (show (((slideE a n.nk n.ns n.np a.c).fst.h) : Int) = ((shapeE n a b).fst.h) from (by (unfold shapeE; (repeat first | rw [if_pos (by omega)] | rw [if_neg (by omega)]))))) (.cons (Weak.int (show (((slideE a n.nk n.ns n.np a.c).fst.x) : Int) = ((shapeE n a b).fst.x) from (by (unfold shapeE; (repeat first | rw [if_pos (by omega)] | rw [if_neg (by omega)]))))) (.cons (Weak.int (show (((slideE a n.nk n.ns n.np a.c).fst.c) : Int) = ((shapeE n a b).fst.c) from (by (unfold shapeE; (repeat first | rw [if_pos (by omega)] | rw [if_neg (by omega)]))))) .nil)))) (.cons (Weak.int (show (((slideE a n.nk n.ns n.np a.c).snd) : Int) = ((shapeE n a b).snd) from (by (unfold shapeE; (repeat first | rw [if_pos (by omega)] | rw [if_neg (by omega)]))))) .nil)))
        · have gc3 : ¬n.kd = 4 := bef hc3
          rcases Bool.eq_false_or_eq_true (n.kd == 5) with hc4 | hc4
          · have gc4 : n.kd = 5 := bet hc4
            have oz5 := @slide_v (a) (n.nk) (n.ns) (n.np) (a.c) ok p3
            exact (VC.run (fn := Try.f203) (W := [.r [] [], .r [] [], .r [] [], .br false, .r [] [], .br false, .r [] [], .br false, .r [] [], .br false, .r [] [], .br true, .r [] [.callr (rO oz5)]]) (r := AV.tup [AV.agg [i64 (slideE a n.nk n.ns n.np a.c).fst.h, i64 (slideE a n.nk n.ns n.np a.c).fst.x, i64 (slideE a n.nk n.ns n.np a.c).fst.c], i64 (slideE a n.nk n.ns n.np a.c).snd]) Try.func203 (by kernel_rfl) (.c hc0 <| .c hc1 <| .c hc2 <| .c hc3 <| .c hc4 <| .c oz5 <| .n)).weak (WeakL.refl _) (Weak.tup (.cons (Weak.agg (.cons (Weak.int (show (((slideE a n.nk n.ns n.np a.c).fst.h) : Int) = ((shapeE n a b).fst.h) from (by (unfold shapeE; (repeat first | rw [if_pos (by omega)] | rw [if_neg (by omega)]))))) (.cons (Weak.int (show (((slideE a n.nk n.ns n.np a.c).fst.x) : Int) = ((shapeE n a b).fst.x) from (by (unfold shapeE; (repeat first | rw [if_pos (by omega)] | rw [if_neg (by omega)]))))) (.cons (Weak.int (show (((slideE a n.nk n.ns n.np a.c).fst.c) : Int) = ((shapeE n a b).fst.c) from (by (unfold shapeE; (repeat first | rw [if_pos (by omega)] | rw [if_neg (by omega)]))))) .nil)))) (.cons (Weak.int (show (((slideE a n.nk n.ns n.np a.c).snd) : Int) = ((shapeE n a b).snd) from (by (unfold shapeE; (repeat first | rw [if_pos (by omega)] | rw [if_neg (by omega)]))))) .nil)))
          · have gc4 : ¬n.kd = 5 := bef hc4
            rcases Bool.eq_false_or_eq_true (n.kd == 6) with hc5 | hc5
            · have gc5 : n.kd = 6 := bet hc5
              have oz7 := @plainShape_v (n) (a) (b) ok okb (by omega) (by omega)
              exact VC.run (fn := Try.f203) (W := [.r [] [], .r [] [], .r [] [], .br false, .r [] [], .br false, .r [] [], .br false, .r [] [], .br false, .r [] [], .br false, .r [] [], .br true, .br true, .r [] [.callr (rO oz7)]]) Try.func203 (by kernel_rfl) (.c hc0 <| .c hc1 <| .c hc2 <| .c hc3 <| .c hc4 <| .c hc5 <| .c hc5 <| .c oz7 <| .n)
            · have gc5 : ¬n.kd = 6 := bef hc5
              rcases Bool.eq_false_or_eq_true (n.kd == 7) with hc6 | hc6
              · have gc6 : n.kd = 7 := bet hc6
                have oz8 := @plainShape_v (n) (a) (b) ok okb (by omega) (by omega)
                exact VC.run (fn := Try.f203) (W := [.r [] [], .r [] [], .r [] [], .br false, .r [] [], .br false, .r [] [], .br false, .r [] [], .br false, .r [] [], .br false, .r [] [], .br false, .r [] [], .br true, .br true, .r [] [.callr (rO oz8)]]) Try.func203 (by kernel_rfl) (.c hc0 <| .c hc1 <| .c hc2 <| .c hc3 <| .c hc4 <| .c hc5 <| .c hc6 <| .c hc6 <| .c oz8 <| .n)
              · have gc6 : ¬n.kd = 7 := bef hc6
                rcases Bool.eq_false_or_eq_true (n.kd == 8) with hc7 | hc7
                · have gc7 : n.kd = 8 := bet hc7
                  have oz9 := @plainShape_v (n) (a) (b) ok okb (by omega) (by omega)
                  exact VC.run (fn := Try.f203) (W := [.r [] [], .r [] [], .r [] [], .br false, .r [] [], .br false, .r [] [], .br false, .r [] [], .br false, .r [] [], .br false, .r [] [], .br false, .r [] [], .br false, .r [] [], .br true, .br true, .r [] [.callr (rO oz9)]]) Try.func203 (by kernel_rfl) (.c hc0 <| .c hc1 <| .c hc2 <| .c hc3 <| .c hc4 <| .c hc5 <| .c hc6 <| .c hc7 <| .c hc7 <| .c oz9 <| .n)
                · have gc7 : ¬n.kd = 8 := bef hc7
                  rcases Bool.eq_false_or_eq_true (n.kd == 9) with hc8 | hc8
                  · have gc8 : n.kd = 9 := bet hc8
                    have oz9 := @plainShape_v (n) (a) (b) ok okb (by omega) (by omega)
                    exact VC.run (fn := Try.f203) (W := [.r [] [], .r [] [], .r [] [], .br false, .r [] [], .br false, .r [] [], .br false, .r [] [], .br false, .r [] [], .br false, .r [] [], .br false, .r [] [], .br false, .r [] [], .br false, .r [] [], .br true, .r [] [.callr (rO oz9)]]) Try.func203 (by kernel_rfl) (.c hc0 <| .c hc1 <| .c hc2 <| .c hc3 <| .c hc4 <| .c hc5 <| .c hc6 <| .c hc7 <| .c hc8 <| .c oz9 <| .n)
                  · have gc8 : ¬n.kd = 9 := bef hc8
                    exact (VC.run (fn := Try.f203) (W := [.r [] [], .r [] [], .r [] [], .br false, .r [] [], .br false, .r [] [], .br false, .r [] [], .br false, .r [] [], .br false, .r [] [], .br false, .r [] [], .br false, .r [] [], .br false, .r [] [], .br false, .r [] []]) (r := AV.tup [AV.agg [i64 0, i64 0, i64 0], i64 6]) Try.func203 (by kernel_rfl) (.c hc0 <| .c hc1 <| .c hc2 <| .c hc3 <| .c hc4 <| .c hc5 <| .c hc6 <| .c hc7 <| .c hc8 <| .n)).weak (WeakL.refl _) (Weak.tup (.cons (Weak.agg (.cons (Weak.int (show ((0) : Int) = ((shapeE n a b).fst.h) from (by (unfold shapeE; (repeat first | rw [if_pos (by omega)] | rw [if_neg (by omega)]))))) (.cons (Weak.int (show ((0) : Int) = ((shapeE n a b).fst.x) from (by (unfold shapeE; (repeat first | rw [if_pos (by omega)] | rw [if_neg (by omega)]))))) (.cons (Weak.int (show ((0) : Int) = ((shapeE n a b).fst.c) from (by (unfold shapeE; (repeat first | rw [if_pos (by omega)] | rw [if_neg (by omega)]))))) .nil)))) (.cons (Weak.int (show ((6) : Int) = ((shapeE n a b).snd) from (by (unfold shapeE; (repeat first | rw [if_pos (by omega)] | rw [if_neg (by omega)]))))) .nil)))

set_option maxRecDepth 100000 in
set_option maxHeartbeats 2000000 in
theorem refKshape_v (n : Nod) (a b : Shp) (ok : a.Ok) (okb : b.Ok) (okn : n.Ok) : VC Try.prog 132 ([nod n, shp a, shp b]) (.tup [shp (shapeE n a b).1, i64 (shapeE n a b).2]) := by
  obtain ⟨p1, p2, p3⟩ := id ok
  have q2 := elems_in a.h a.x a.c
  have q4 := fun (h : 0 < elems a.h a.x a.c) => elems_ok h
  rcases Bool.eq_false_or_eq_true (n.kd == 1) with hc0 | hc0
  · have gc0 : n.kd = 1 := bet hc0
    have oz1 := @refConvShape_v (a) (n) ok okn
    exact (VC.run (fn := Try.f132) (W := [.r [] [], .r [] [], .br true, .r [] [.callr (rO oz1)]]) (r := AV.tup [AV.agg [i64 (convE a n).fst.h, i64 (convE a n).fst.x, i64 (convE a n).fst.c], i64 (convE a n).snd]) Try.func132 (by kernel_rfl) (.c hc0 <| .c oz1 <| .n)).weak (WeakL.refl _) (Weak.tup (.cons (Weak.agg (.cons (Weak.int (show (((convE a n).fst.h) : Int) = ((shapeE n a b).fst.h) from (by (unfold shapeE; try unfold aroundE; (repeat first | rw [if_pos (by omega)] | rw [if_neg (by omega)]))))) (.cons (Weak.int (show (((convE a n).fst.x) : Int) = ((shapeE n a b).fst.x) from (by (unfold shapeE; try unfold aroundE; (repeat first | rw [if_pos (by omega)] | rw [if_neg (by omega)]))))) (.cons (Weak.int (show (((convE a n).fst.c) : Int) = ((shapeE n a b).fst.c) from (by (unfold shapeE; try unfold aroundE; (repeat first | rw [if_pos (by omega)] | rw [if_neg (by omega)]))))) .nil)))) (.cons (Weak.int (show (((convE a n).snd) : Int) = ((shapeE n a b).snd) from (by (unfold shapeE; try unfold aroundE; (repeat first | rw [if_pos (by omega)] | rw [if_neg (by omega)]))))) .nil)))
  · have gc0 : ¬n.kd = 1 := bef hc0
    rcases Bool.eq_false_or_eq_true (n.kd == 2) with hc1 | hc1
    · have gc1 : n.kd = 2 := bet hc1
      have oz2 := @refDepthShape_v (a) (n) ok okn
      exact (VC.run (fn := Try.f132) (W := [.r [] [], .r [] [], .br false, .r [] [], .br true, .r [] [.callr (rO oz2)]]) (r := AV.tup [AV.agg [i64 (depthE a n).fst.h, i64 (depthE a n).fst.x, i64 (depthE a n).fst.c], i64 (depthE a n).snd]) Try.func132 (by kernel_rfl) (.c hc0 <| .c hc1 <| .c oz2 <| .n)).weak (WeakL.refl _) (Weak.tup (.cons (Weak.agg (.cons (Weak.int (show (((depthE a n).fst.h) : Int) = ((shapeE n a b).fst.h) from (by (unfold shapeE; try unfold aroundE; (repeat first | rw [if_pos (by omega)] | rw [if_neg (by omega)]))))) (.cons (Weak.int (show (((depthE a n).fst.x) : Int) = ((shapeE n a b).fst.x) from (by (unfold shapeE; try unfold aroundE; (repeat first | rw [if_pos (by omega)] | rw [if_neg (by omega)]))))) (.cons (Weak.int (show (((depthE a n).fst.c) : Int) = ((shapeE n a b).fst.c) from (by (unfold shapeE; try unfold aroundE; (repeat first | rw [if_pos (by omega)] | rw [if_neg (by omega)]))))) .nil)))) (.cons (Weak.int (show (((depthE a n).snd) : Int) = ((shapeE n a b).snd) from (by (unfold shapeE; try unfold aroundE; (repeat first | rw [if_pos (by omega)] | rw [if_neg (by omega)]))))) .nil)))
    · have gc1 : ¬n.kd = 2 := bef hc1
      rcases Bool.eq_false_or_eq_true (n.kd == 3) with hc2 | hc2
      · have gc2 : n.kd = 3 := bet hc2
        have oz3 := @refDenseShape_v (a) (n) ok okn
        exact (VC.run (fn := Try.f132) (W := [.r [] [], .r [] [], .br false, .r [] [], .br false, .r [] [], .br true, .r [] [.callr (rO oz3)]]) (r := AV.tup [AV.agg [i64 (denseE a n).fst.h, i64 (denseE a n).fst.x, i64 (denseE a n).fst.c], i64 (denseE a n).snd]) Try.func132 (by kernel_rfl) (.c hc0 <| .c hc1 <| .c hc2 <| .c oz3 <| .n)).weak (WeakL.refl _) (Weak.tup (.cons (Weak.agg (.cons (Weak.int (show (((denseE a n).fst.h) : Int) = ((shapeE n a b).fst.h) from (by (unfold shapeE; try unfold aroundE; (repeat first | rw [if_pos (by omega)] | rw [if_neg (by omega)]))))) (.cons (Weak.int (show (((denseE a n).fst.x) : Int) = ((shapeE n a b).fst.x) from (by (unfold shapeE; try unfold aroundE; (repeat first | rw [if_pos (by omega)] | rw [if_neg (by omega)]))))) (.cons (Weak.int (show (((denseE a n).fst.c) : Int) = ((shapeE n a b).fst.c) from (by (unfold shapeE; try unfold aroundE; (repeat first | rw [if_pos (by omega)] | rw [if_neg (by omega)]))))) .nil)))) (.cons (Weak.int (show (((denseE a n).snd) : Int) = ((shapeE n a b).snd) from (by (unfold shapeE; try unfold aroundE; (repeat first | rw [if_pos (by omega)] | rw [if_neg (by omega)]))))) .nil)))
      · have gc2 : ¬n.kd = 3 := bef hc2
        rcases Bool.eq_false_or_eq_true (n.kd == 4 || n.kd == 5) with hc3 | hc3
        · have gc3 : n.kd = 4 ∨ n.kd = 5 := by first | (simp only [Bool.or_eq_true, Bool.or_eq_false_iff, Bool.and_eq_true, Bool.and_eq_false_iff, Bool.not_eq_true', Bool.not_eq_false', decide_eq_true_eq, decide_eq_false_iff_not, beq_iff_eq, bne_iff_ne, ne_eq, beq_eq_false_iff_ne, bne_eq_false_iff_eq, eqNums, Bool.and_true] at hc3; first | exact hc3 | omega) | simpa using hc3 | (simp at hc3 ⊢; omega) | (apply Classical.byContradiction; intro hn; simp_all [eqNums]; done) | (apply Classical.byContradiction; intro hn; simp [eqNums] at hc3 hn; omega)
          have oz4 := @refSlide_v (a) (n.nk) (n.ns) (n.np) (a.c) ok p3
          exact (VC.run (fn := Try.f132) (W := [.r [] [], .r [] [], .br false, .r [] [], .br false, .r [] [], .br false, .r [] [.op false, .op false, .op false, .sel 1], .br true, .r [] [.callr (rO oz4)]]) (r := AV.tup [AV.agg [i64 (slideE a n.nk n.ns n.np a.c).fst.h, i64 (slideE a n.nk n.ns n.np a.c).fst.x, i64 (slideE a n.nk n.ns n.np a.c).fst.c], i64 (slideE a n.nk n.ns n.np a.c).snd]) Try.func132 (by kernel_rfl) (.c hc0 <| .c hc1 <| .c hc2 <| .c hc3 <| .c oz4 <| .n)).weak (WeakL.refl _) (Weak.tup (.cons (Weak.agg (.cons (Weak.int (show (((slideE a n.nk n.ns n.np a.c).fst.h) : Int) = ((shapeE n a b).fst.h) from (by (unfold shapeE; try unfold aroundE; (repeat first | rw [if_pos (by omega)] | rw [if_neg (by omega)]))))) (.cons (Weak.int (show (((slideE a n.nk n.ns n.np a.c).fst.x) : Int) = ((shapeE n a b).fst.x) from (by (unfold shapeE; try unfold aroundE; (repeat first | rw [if_pos (by omega)] | rw [if_neg (by omega)]))))) (.cons (Weak.int (show (((slideE a n.nk n.ns n.np a.c).fst.c) : Int) = ((shapeE n a b).fst.c) from (by (unfold shapeE; try unfold aroundE; (repeat first | rw [if_pos (by omega)] | rw [if_neg (by omega)]))))) .nil)))) (.cons (Weak.int (show (((slideE a n.nk n.ns n.np a.c).snd) : Int) = ((shapeE n a b).snd) from (by (unfold shapeE; try unfold aroundE; (repeat first | rw [if_pos (by omega)] | rw [if_neg (by omega)]))))) .nil)))
        · have gc3 : ¬n.kd = 4 ∧ ¬n.kd = 5 := by first | (simp only [Bool.or_eq_true, Bool.or_eq_false_iff, Bool.and_eq_true, Bool.and_eq_false_iff, Bool.not_eq_true', Bool.not_eq_false', decide_eq_true_eq, decide_eq_false_iff_not, beq_iff_eq, bne_iff_ne, ne_eq, beq_eq_false_iff_ne, bne_eq_false_iff_eq, eqNums, Bool.and_true] at hc3; first | exact hc3 | omega) | simpa using hc3 | (simp at hc3 ⊢; omega) | (apply Classical.byContradiction; intro hn; simp_all [eqNums]; done) | (apply Classical.byContradiction; intro hn; simp [eqNums] at hc3 hn; omega)
          rcases Bool.eq_false_or_eq_true (decide (n.kd < 1) || decide (n.kd > 9)) with hc4 | hc4
          · have gc4 : n.kd < 1 ∨ n.kd > 9 := by first | (simp only [Bool.or_eq_true, Bool.or_eq_false_iff, Bool.and_eq_true, Bool.and_eq_false_iff, Bool.not_eq_true', Bool.not_eq_false', decide_eq_true_eq, decide_eq_false_iff_not, beq_iff_eq, bne_iff_ne, ne_eq, beq_eq_false_iff_ne, bne_eq_false_iff_eq, eqNums, Bool.and_true] at hc4; first | exact hc4 | omega) | simpa using hc4 | (simp at hc4 ⊢; omega) | (apply Classical.byContradiction; intro hn; simp_all [eqNums]; done) | (apply Classical.byContradiction; intro hn; simp [eqNums] at hc4 hn; omega)
            exact (VC.run (fn := Try.f132) (W := [.r [] [], .r [] [], .br false, .r [] [], .br false, .r [] [], .br false, .r [] [.op false, .op false, .op false, .sel 1], .br false, .r [] [.op false, .op false, .op false, .sel 1], .br true, .r [] []]) (r := AV.tup [AV.agg [i64 0, i64 0, i64 0], i64 6]) Try.func132 (by kernel_rfl) (.c hc0 <| .c hc1 <| .c hc2 <| .c hc3 <| .c hc4 <| .n)).weak (WeakL.refl _) (Weak.tup (.cons (Weak.agg (.cons (Weak.int (show ((0) : Int) = ((shapeE n a b).fst.h) from (by (unfold shapeE; try unfold aroundE; (repeat first | rw [if_pos (by omega)] | rw [if_neg (by omega)]))))) (.cons (Weak.int (show ((0) : Int) = ((shapeE n a b).fst.x) from (by (unfold shapeE; try unfold aroundE; (repeat first | rw [if_pos (by omega)] | rw [if_neg (by omega)]))))) (.cons (Weak.int (show ((0) : Int) = ((shapeE n a b).fst.c) from (by (unfold shapeE; try unfold aroundE; (repeat first | rw [if_pos (by omega)] | rw [if_neg (by omega)]))))) .nil)))) (.cons (Weak.int (show ((6) : Int) = ((shapeE n a b).snd) from (by (unfold shapeE; try unfold aroundE; (repeat first | rw [if_pos (by omega)] | rw [if_neg (by omega)]))))) .nil)))
          · have gc4 : ¬n.kd < 1 ∧ ¬n.kd > 9 := by first | (simp only [Bool.or_eq_true, Bool.or_eq_false_iff, Bool.and_eq_true, Bool.and_eq_false_iff, Bool.not_eq_true', Bool.not_eq_false', decide_eq_true_eq, decide_eq_false_iff_not, beq_iff_eq, bne_iff_ne, ne_eq, beq_eq_false_iff_ne, bne_eq_false_iff_eq, eqNums, Bool.and_true] at hc4; first | exact hc4 | omega) | simpa using hc4 | (simp at hc4 ⊢; omega) | (apply Classical.byContradiction; intro hn; simp_all [eqNums]; done) | (apply Classical.byContradiction; intro hn; simp [eqNums] at hc4 hn; omega)
            have oz5 := @refElems_v (a.h) (a.x) (a.c) p1 p2 p3
            have oz6 := (show BinTo Try.prog BinOp.neq 24 (Operand.tmp 70) (Operand.tmp 71) (Value.agg #[Value.int IntKind.i64 a.h, Value.int IntKind.i64 a.x, Value.int IntKind.i64 a.c]) (Value.agg #[Value.int IntKind.i64 b.h, Value.int IntKind.i64 b.x, Value.int IntKind.i64 b.c]) (Value.bool !eqNums [(IntKind.i64, a.h, b.h), (IntKind.i64, a.x, b.x), (IntKind.i64, a.c, b.c)]) from ((bin_nums (l := [(IntKind.i64, a.h, b.h), (IntKind.i64, a.x, b.x), (IntKind.i64, a.c, b.c)]) (by kernel_rfl) (by kernel_rfl) (by kernel_rfl) (by kernel_rfl) _ _).2))
            rcases Bool.eq_false_or_eq_true (elems a.h a.x a.c == 0 || n.kd == 6 && !eqNums [(IntKind.i64, a.h, b.h), (IntKind.i64, a.x, b.x), (IntKind.i64, a.c, b.c)]) with hc5 | hc5
            · have gc5 : elems a.h a.x a.c = 0 ∨ n.kd = 6 ∧ ¬(a.h = b.h ∧ a.x = b.x ∧ a.c = b.c) := by first | (simp only [Bool.or_eq_true, Bool.or_eq_false_iff, Bool.and_eq_true, Bool.and_eq_false_iff, Bool.not_eq_true', Bool.not_eq_false', decide_eq_true_eq, decide_eq_false_iff_not, beq_iff_eq, bne_iff_ne, ne_eq, beq_eq_false_iff_ne, bne_eq_false_iff_eq, eqNums, Bool.and_true] at hc5; first | exact hc5 | omega) | simpa using hc5 | (simp at hc5 ⊢; omega) | (apply Classical.byContradiction; intro hn; simp_all [eqNums]; done) | (apply Classical.byContradiction; intro hn; simp [eqNums] at hc5 hn; omega)
              exact (VC.run (fn := Try.f132) (W := [.r [] [], .r [] [], .br false, .r [] [], .br false, .r [] [], .br false, .r [] [.op false, .op false, .op false, .sel 1], .br false, .r [] [.op false, .op false, .op false, .sel 1], .br false, .r [] [.callr (rO oz5), .op false, .op false, .op false, .op false, .op false, .op false, .op false, .v (Value.bool !eqNums [(IntKind.i64, a.h, b.h), (IntKind.i64, a.x, b.x), (IntKind.i64, a.c, b.c)]), .op false, .sel 2, .sel 1], .br true, .r [] []]) (r := AV.tup [AV.agg [i64 0, i64 0, i64 0], i64 5]) Try.func132 (by kernel_rfl) (.c hc0 <| .c hc1 <| .c hc2 <| .c hc3 <| .c hc4 <| .c oz5 <| .c oz6 <| .c hc5 <| .n)).weak (WeakL.refl _) (Weak.tup (.cons (Weak.agg (.cons (Weak.int (show ((0) : Int) = ((shapeE n a b).fst.h) from (by (unfold shapeE; try unfold aroundE; (repeat first | rw [if_pos (by omega)] | rw [if_neg (by omega)]))))) (.cons (Weak.int (show ((0) : Int) = ((shapeE n a b).fst.x) from (by (unfold shapeE; try unfold aroundE; (repeat first | rw [if_pos (by omega)] | rw [if_neg (by omega)]))))) (.cons (Weak.int (show ((0) : Int) = ((shapeE n a b).fst.c) from (by (unfold shapeE; try unfold aroundE; (repeat first | rw [if_pos (by omega)] | rw [if_neg (by omega)]))))) .nil)))) (.cons (Weak.int (show ((5) : Int) = ((shapeE n a b).snd) from (by (unfold shapeE; try unfold aroundE; (repeat first | rw [if_pos (by omega)] | rw [if_neg (by omega)]))))) .nil)))
            · have gc5 : ¬elems a.h a.x a.c = 0 ∧ (¬n.kd = 6 ∨ a.h = b.h ∧ a.x = b.x ∧ a.c = b.c) := by first | (simp only [Bool.or_eq_true, Bool.or_eq_false_iff, Bool.and_eq_true, Bool.and_eq_false_iff, Bool.not_eq_true', Bool.not_eq_false', decide_eq_true_eq, decide_eq_false_iff_not, beq_iff_eq, bne_iff_ne, ne_eq, beq_eq_false_iff_ne, bne_eq_false_iff_eq, eqNums, Bool.and_true] at hc5; first | exact hc5 | omega) | simpa using hc5 | (simp at hc5 ⊢; omega) | (apply Classical.byContradiction; intro hn; simp_all [eqNums]; done) | (apply Classical.byContradiction; intro hn; simp [eqNums] at hc5 hn; omega)
              rcases Bool.eq_false_or_eq_true (n.kd == 9) with hc6 | hc6
              · have gc6 : n.kd = 9 := bet hc6
                exact (VC.run (fn := Try.f132) (W := [.r [] [], .r [] [], .br false, .r [] [], .br false, .r [] [], .br false, .r [] [.op false, .op false, .op false, .sel 1], .br false, .r [] [.op false, .op false, .op false, .sel 1], .br false, .r [] [.callr (rO oz5), .op false, .op false, .op false, .op false, .op false, .op false, .op false, .v (Value.bool !eqNums [(IntKind.i64, a.h, b.h), (IntKind.i64, a.x, b.x), (IntKind.i64, a.c, b.c)]), .op false, .sel 2, .sel 1], .br false, .r [] [], .br true, .r [] [.callr (rO oz5)]]) (r := AV.tup [AV.agg [i64 1, i64 1, i64 (elems a.h a.x a.c)], i64 0]) Try.func132 (by kernel_rfl) (.c hc0 <| .c hc1 <| .c hc2 <| .c hc3 <| .c hc4 <| .c oz5 <| .c oz6 <| .c hc5 <| .c hc6 <| .c oz5 <| .n)).weak (WeakL.refl _) (Weak.tup (.cons (Weak.agg (.cons (Weak.int (show ((1) : Int) = ((shapeE n a b).fst.h) from (by (unfold shapeE; try unfold aroundE; (repeat first | rw [if_pos (by omega)] | rw [if_neg (by omega)]))))) (.cons (Weak.int (show ((1) : Int) = ((shapeE n a b).fst.x) from (by (unfold shapeE; try unfold aroundE; (repeat first | rw [if_pos (by omega)] | rw [if_neg (by omega)]))))) (.cons (Weak.int (show ((elems a.h a.x a.c) : Int) = ((shapeE n a b).fst.c) from (by (unfold shapeE; try unfold aroundE; (repeat first | rw [if_pos (by omega)] | rw [if_neg (by omega)]))))) .nil)))) (.cons (Weak.int (show ((0) : Int) = ((shapeE n a b).snd) from (by (unfold shapeE; try unfold aroundE; (repeat first | rw [if_pos (by omega)] | rw [if_neg (by omega)]))))) .nil)))
              · have gc6 : ¬n.kd = 9 := bef hc6
                rcases Bool.eq_false_or_eq_true (n.kd == 8) with hc7 | hc7
                · have gc7 : n.kd = 8 := bet hc7
                  rcases Bool.eq_false_or_eq_true (decide (n.np < 0) || decide (n.np > 4)) with hc8 | hc8
                  · have gc8 : n.np < 0 ∨ n.np > 4 := by first | (simp only [Bool.or_eq_true, Bool.or_eq_false_iff, Bool.and_eq_true, Bool.and_eq_false_iff, Bool.not_eq_true', Bool.not_eq_false', decide_eq_true_eq, decide_eq_false_iff_not, beq_iff_eq, bne_iff_ne, ne_eq, beq_eq_false_iff_ne, bne_eq_false_iff_eq, eqNums, Bool.and_true] at hc8; first | exact hc8 | omega) | simpa using hc8 | (simp at hc8 ⊢; omega) | (apply Classical.byContradiction; intro hn; simp_all [eqNums]; done) | (apply Classical.byContradiction; intro hn; simp [eqNums] at hc8 hn; omega)
                    exact (VC.run (fn := Try.f132) (W := [.r [] [], .r [] [], .br false, .r [] [], .br false, .r [] [], .br false, .r [] [.op false, .op false, .op false, .sel 1], .br false, .r [] [.op false, .op false, .op false, .sel 1], .br false, .r [] [.callr (rO oz5), .op false, .op false, .op false, .op false, .op false, .op false, .op false, .v (Value.bool !eqNums [(IntKind.i64, a.h, b.h), (IntKind.i64, a.x, b.x), (IntKind.i64, a.c, b.c)]), .op false, .sel 2, .sel 1], .br false, .r [] [], .br false, .r [] [], .br true, .r [] [.op false, .op false, .op false, .sel 1], .br true, .r [] []]) (r := AV.tup [AV.agg [i64 0, i64 0, i64 0], i64 2]) Try.func132 (by kernel_rfl) (.c hc0 <| .c hc1 <| .c hc2 <| .c hc3 <| .c hc4 <| .c oz5 <| .c oz6 <| .c hc5 <| .c hc6 <| .c hc7 <| .c hc8 <| .n)).weak (WeakL.refl _) (Weak.tup (.cons (Weak.agg (.cons (Weak.int (show ((0) : Int) = ((shapeE n a b).fst.h) from (by (unfold shapeE; try unfold aroundE; (repeat first | rw [if_pos (by omega)] | rw [if_neg (by omega)]))))) (.cons (Weak.int (show ((0) : Int) = ((shapeE n a b).fst.x) from (by (unfold shapeE; try unfold aroundE; (repeat first | rw [if_pos (by omega)] | rw [if_neg (by omega)]))))) (.cons (Weak.int (show ((0) : Int) = ((shapeE n a b).fst.c) from (by (unfold shapeE; try unfold aroundE; (repeat first | rw [if_pos (by omega)] | rw [if_neg (by omega)]))))) .nil)))) (.cons (Weak.int (show ((2) : Int) = ((shapeE n a b).snd) from (by (unfold shapeE; try unfold aroundE; (repeat first | rw [if_pos (by omega)] | rw [if_neg (by omega)]))))) .nil)))
                  · have gc8 : ¬n.np < 0 ∧ ¬n.np > 4 := by first | (simp only [Bool.or_eq_true, Bool.or_eq_false_iff, Bool.and_eq_true, Bool.and_eq_false_iff, Bool.not_eq_true', Bool.not_eq_false', decide_eq_true_eq, decide_eq_false_iff_not, beq_iff_eq, bne_iff_ne, ne_eq, beq_eq_false_iff_ne, bne_eq_false_iff_eq, eqNums, Bool.and_true] at hc8; first | exact hc8 | omega) | simpa using hc8 | (simp at hc8 ⊢; omega) | (apply Classical.byContradiction; intro hn; simp_all [eqNums]; done) | (apply Classical.byContradiction; intro hn; simp [eqNums] at hc8 hn; omega)
                    have oz11 := (IntWalk.i64_in (2 * n.np) (by omega))
                    have oz12 := (IntWalk.i64_in (a.h + 2 * n.np) (by omega))
                    have oz14 := (IntWalk.i64_in (a.x + 2 * n.np) (by omega))
                    have oz15 := @refElems_v (a.h + 2 * n.np) (a.x + 2 * n.np) (a.c) (by omega) (by omega) p3
                    rcases Bool.eq_false_or_eq_true (elems (a.h + 2 * n.np) (a.x + 2 * n.np) a.c == 0) with hc9 | hc9
                    · have gc9 : elems (a.h + 2 * n.np) (a.x + 2 * n.np) a.c = 0 := bet hc9
                      exact (VC.run (fn := Try.f132) (W := [.r [] [], .r [] [], .br false, .r [] [], .br false, .r [] [], .br false, .r [] [.op false, .op false, .op false, .sel 1], .br false, .r [] [.op false, .op false, .op false, .sel 1], .br false, .r [] [.callr (rO oz5), .op false, .op false, .op false, .op false, .op false, .op false, .op false, .v (Value.bool !eqNums [(IntKind.i64, a.h, b.h), (IntKind.i64, a.x, b.x), (IntKind.i64, a.c, b.c)]), .op false, .sel 2, .sel 1], .br false, .r [] [], .br false, .r [] [], .br true, .r [] [.op false, .op false, .op false, .sel 1], .br false, .r [] [.n (nO oz11), .n (nO oz12), .n (nO oz11), .n (nO oz14)], .r [] [.callr (rO oz15)], .br true, .r [] []]) (r := AV.tup [AV.agg [i64 0, i64 0, i64 0], i64 5]) Try.func132 (by kernel_rfl) (.c hc0 <| .c hc1 <| .c hc2 <| .c hc3 <| .c hc4 <| .c oz5 <| .c oz6 <| .c hc5 <| .c hc6 <| .c hc7 <| .c hc8 <| .c oz11 <| .c oz12 <| .c oz11 <| .c oz14 <| .c oz15 <| .c hc9 <| .n)).weak (WeakL.refl _) (Weak.tup (.cons (Weak.agg (.cons (Weak.int (show ((0) : Int) = ((shapeE n a b).fst.h) from (by (unfold shapeE; try unfold aroundE; (repeat first | rw [if_pos (by omega)] | rw [if_neg (by omega)]))))) (.cons (Weak.int (show ((0) : Int) = ((shapeE n a b).fst.x) from (by (unfold shapeE; try unfold aroundE; (repeat first | rw [if_pos (by omega)] | rw [if_neg (by omega)]))))) (.cons (Weak.int (show ((0) : Int) = ((shapeE n a b).fst.c) from (by (unfold shapeE; try unfold aroundE; (repeat first | rw [if_pos (by omega)] | rw [if_neg (by omega)]))))) .nil)))) (.cons (Weak.int (show ((5) : Int) = ((shapeE n a b).snd) from (by (unfold shapeE; try unfold aroundE; (repeat first | rw [if_pos (by omega)] | rw [if_neg (by omega)]))))) .nil)))
                    · have gc9 : ¬elems (a.h + 2 * n.np) (a.x + 2 * n.np) a.c = 0 := bef hc9
                      exact (VC.run (fn := Try.f132) (W := [.r [] [], .r [] [], .br false, .r [] [], .br false, .r [] [], .br false, .r [] [.op false, .op false, .op false, .sel 1], .br false, .r [] [.op false, .op false, .op false, .sel 1], .br false, .r [] [.callr (rO oz5), .op false, .op false, .op false, .op false, .op false, .op false, .op false, .v (Value.bool !eqNums [(IntKind.i64, a.h, b.h), (IntKind.i64, a.x, b.x), (IntKind.i64, a.c, b.c)]), .op false, .sel 2, .sel 1], .br false, .r [] [], .br false, .r [] [], .br true, .r [] [.op false, .op false, .op false, .sel 1], .br false, .r [] [.n (nO oz11), .n (nO oz12), .n (nO oz11), .n (nO oz14)], .r [] [.callr (rO oz15)], .br false, .r [] []]) (r := AV.tup [AV.agg [i64 (a.h + 2 * n.np), i64 (a.x + 2 * n.np), i64 a.c], i64 0]) Try.func132 (by kernel_rfl) (.c hc0 <| .c hc1 <| .c hc2 <| .c hc3 <| .c hc4 <| .c oz5 <| .c oz6 <| .c hc5 <| .c hc6 <| .c hc7 <| .c hc8 <| .c oz11 <| .c oz12 <| .c oz11 <| .c oz14 <| .c oz15 <| .c hc9 <| .n)).weak (WeakL.refl _) (Weak.tup (.cons (Weak.agg (.cons (Weak.int (show ((a.h + 2 * n.np) : Int) = ((shapeE n a b).fst.h) from (by (unfold shapeE; try unfold aroundE; (repeat first | rw [if_pos (by omega)] | rw [if_neg (by omega)]))))) (.cons (Weak.int (show ((a.x + 2 * n.np) : Int) = ((shapeE n a b).fst.x) from (by (unfold shapeE; try unfold aroundE; (repeat first | rw [if_pos (by omega)] | rw [if_neg (by omega)]))))) (.cons (Weak.int (show ((a.c) : Int) = ((shapeE n a b).fst.c) from (by (unfold shapeE; try unfold aroundE; (repeat first | rw [if_pos (by omega)] | rw [if_neg (by omega)]))))) .nil)))) (.cons (Weak.int (show ((0) : Int) = ((shapeE n a b).snd) from (by (unfold shapeE; try unfold aroundE; (repeat first | rw [if_pos (by omega)] | rw [if_neg (by omega)]))))) .nil)))
                · have gc7 : ¬n.kd = 8 := bef hc7
                  exact (VC.run (fn := Try.f132) (W := [.r [] [], .r [] [], .br false, .r [] [], .br false, .r [] [], .br false, .r [] [.op false, .op false, .op false, .sel 1], .br false, .r [] [.op false, .op false, .op false, .sel 1], .br false, .r [] [.callr (rO oz5), .op false, .op false, .op false, .op false, .op false, .op false, .op false, .v (Value.bool !eqNums [(IntKind.i64, a.h, b.h), (IntKind.i64, a.x, b.x), (IntKind.i64, a.c, b.c)]), .op false, .sel 2, .sel 1], .br false, .r [] [], .br false, .r [] [], .br false, .r [] []]) (r := AV.tup [AV.agg [i64 a.h, i64 a.x, i64 a.c], i64 0]) Try.func132 (by kernel_rfl) (.c hc0 <| .c hc1 <| .c hc2 <| .c hc3 <| .c hc4 <| .c oz5 <| .c oz6 <| .c hc5 <| .c hc6 <| .c hc7 <| .n)).weak (WeakL.refl _) (Weak.tup (.cons (Weak.agg (.cons (Weak.int (show ((a.h) : Int) = ((shapeE n a b).fst.h) from (by (unfold shapeE; try unfold aroundE; (repeat first | rw [if_pos (by omega)] | rw [if_neg (by omega)]))))) (.cons (Weak.int (show ((a.x) : Int) = ((shapeE n a b).fst.x) from (by (unfold shapeE; try unfold aroundE; (repeat first | rw [if_pos (by omega)] | rw [if_neg (by omega)]))))) (.cons (Weak.int (show ((a.c) : Int) = ((shapeE n a b).fst.c) from (by (unfold shapeE; try unfold aroundE; (repeat first | rw [if_pos (by omega)] | rw [if_neg (by omega)]))))) .nil)))) (.cons (Weak.int (show ((0) : Int) = ((shapeE n a b).snd) from (by (unfold shapeE; try unfold aroundE; (repeat first | rw [if_pos (by omega)] | rw [if_neg (by omega)]))))) .nil)))

end Go.Proofs.Ytgecmooedhnenaa

/- The shapes of a block's values, by the program and by the document. No condition. -/
namespace Go.Proofs.Ytgecmooedhnenaa
open Go.RowKit
set_option linter.unusedSimpArgs false
set_option linter.unusedVariables false
set_option linter.unnecessarySimpa false

instance : Inhabited Nod := ⟨⟨0, 0, 0, 0, 0, 0, 0, 0, 0, [], [], 0, 0, 0, 0, 0, 0, 0, 0⟩⟩
instance : Inhabited Shp := ⟨⟨0, 0, 0⟩⟩
abbrev shpC (s : Shp) : List AV := [i64 s.h, i64 s.x, i64 s.c]
/-- The first place below n where p fails; n, if there is none. -/
def firstBad (p : Nat → Bool) : Nat → Nat
  | 0 => 0
  | n + 1 => if firstBad p n < n then firstBad p n else if p n = true then n + 1 else n
theorem firstBad_all {p : Nat → Bool} : ∀ {n}, (∀ k, k < n → p k = true) → firstBad p n = n
  | 0, _ => rfl
  | n + 1, h => by rw [firstBad, firstBad_all fun k hk => h k (by omega), if_neg (by omega), if_pos (h n (by omega))]
theorem firstBad_at {p : Nat → Bool} {m : Nat} (hp : p m = false) (h : ∀ k, k < m → p k = true) : ∀ {n}, m < n → firstBad p n = m
  | n + 1, hm => by
    by_cases e : m = n
    · subst e; rw [firstBad, firstBad_all h, if_neg (by omega), if_neg (by simp [hp])]
    · rw [firstBad, firstBad_at hp h (show m < n by omega), if_pos (by omega)]
theorem firstBad_le {p : Nat → Bool} : ∀ n, firstBad p n ≤ n
  | 0 => Nat.le_refl _
  | n + 1 => by have := firstBad_le (p := p) n; rw [firstBad]; split <;> (try split) <;> omega
/-- Values, one behind the other, each made of a node and of those ahead. -/
def growL {α : Type} (f : Nod → List α → α × Int) (l : List Nod) (x : α) : Nat → List α
  | 0 => [x]
  | k + 1 => growL f l x k ++ [(f (l.getD k default) (growL f l x k)).1]
/-- What is wrong with the value k. -/
def errL {α : Type} (f : Nod → List α → α × Int) (l : List Nod) (x : α) (k : Nat) : Int := (f (l.getD k default) (growL f l x k)).2
theorem growL_len {α : Type} (f : Nod → List α → α × Int) (l : List Nod) (x : α) : ∀ k, (growL f l x k).length = k + 1
  | 0 => rfl
  | k + 1 => by rw [growL, List.length_append, growL_len f l x k]; rfl
theorem growL_all {α : Type} {f : Nod → List α → α × Int} {l : List Nod} {x : α} {p : α → Prop} (h0 : p x) {n : Nat} (h : ∀ k, k < n → (∀ y ∈ growL f l x k, p y) → p (f (l.getD k default) (growL f l x k)).1) : ∀ k, k ≤ n → ∀ y ∈ growL f l x k, p y
  | 0, _ => by intro y hy; simp only [growL, List.mem_singleton] at hy; subst hy; exact h0
  | k + 1, hk => by
    have ih := growL_all h0 h k (by omega)
    intro y hy
    rw [growL, List.mem_append, List.mem_singleton] at hy
    rcases hy with hy | rfl
    · exact ih y hy
    · exact h k (by omega) ih
theorem getD_in {α : Type} [Inhabited α] {l : List α} {p : α → Prop} (h : ∀ y ∈ l, p y) {i : Nat} (hi : i < l.length) : p (l.getD i default) := by
  rw [List.getD_eq_getElem?_getD, List.getElem?_eq_getElem hi]; exact h _ (List.getElem_mem hi)
def takesL (n : Nod) : List Int := if n.kd = 6 then [n.na, n.nb] else [n.na]
def secN (n : Nod) : Int := if n.kd = 6 then n.nb else n.na
def thereB (n : Nod) (m : Int) : Bool := decide (0 ≤ n.na) && decide (n.na < m) && decide (0 ≤ secN n) && decide (secN n < m)
set_option maxRecDepth 100000 in
set_option maxHeartbeats 2000000 in
theorem takes_v (n : Nod)  : VC Try.prog 223 ([nod n]) (ints .i64 (takesL n)) := by
  rcases Bool.eq_false_or_eq_true (n.kd == 6) with hc0 | hc0
  · have gc0 : n.kd = 6 := bet hc0
    exact (VC.run (fn := Try.f223) (W := [.r [] [], .r [] [], .br true, .r [] []]) (r := AV.sl 1 [[i64 n.na], [i64 n.nb]]) Try.func223 (by kernel_rfl) (.c hc0 <| .n)).weak (WeakL.refl _) (Weak.rows (rows_to (row1 IntKind.i64) (r := [[i64 n.na], [i64 n.nb]]) (l := [n.na, n.nb]) (m := takesL n) (by first | (simp only [List.map_append, List.map_cons, List.map_nil, List.map_set, List.map_replicate, List.map_take, List.map_drop]; done) | rfl | (simp only [List.map_append, List.map_cons, List.map_nil, List.map_set, List.map_replicate, List.map_take, List.map_drop]; rfl)) (show ([n.na, n.nb]) = (takesL n) from (by (unfold takesL; rw [if_pos (by simp_all)])))))
  · have gc0 : ¬n.kd = 6 := bef hc0
    exact (VC.run (fn := Try.f223) (W := [.r [] [], .r [] [], .br false, .r [] []]) (r := AV.sl 1 [[i64 n.na]]) Try.func223 (by kernel_rfl) (.c hc0 <| .n)).weak (WeakL.refl _) (Weak.rows (rows_to (row1 IntKind.i64) (r := [[i64 n.na]]) (l := [n.na]) (m := takesL n) (by first | (simp only [List.map_append, List.map_cons, List.map_nil, List.map_set, List.map_replicate, List.map_take, List.map_drop]; done) | rfl | (simp only [List.map_append, List.map_cons, List.map_nil, List.map_set, List.map_replicate, List.map_take, List.map_drop]; rfl)) (show ([n.na]) = (takesL n) from (by (unfold takesL; rw [if_neg (by simp_all)])))))
theorem takes_len (n : Nod) : 1 ≤ (takesL n).length ∧ (takesL n).length ≤ 2 := by unfold takesL; split <;> simp
theorem takes_last (n : Nod) {i : Nat} (hi : i = (takesL n).length - 1) : (takesL n).getD i 0 = secN n := by subst hi; unfold takesL secN; split <;> rfl
theorem takes_there (n : Nod) (m : Int) : (∀ k, k < (takesL n).length → decide (0 ≤ (takesL n).getD k 0 ∧ (takesL n).getD k 0 < m) = true) ↔ thereB n m = true := by
  unfold takesL thereB secN
  split
  · simp only [List.length_cons, List.length_nil, Bool.and_eq_true, decide_eq_true_eq]
    constructor
    · intro h
      have h0 := h 0 (by omega); have h1 := h 1 (by omega)
      simp only [List.getD_cons_zero, List.getD_cons_succ] at h0 h1
      omega
    · intro h k hk
      match k, hk with
      | 0, _ => simp only [List.getD_cons_zero]; omega
      | 1, _ => simp only [List.getD_cons_zero, List.getD_cons_succ]; omega
      | k + 2, hk => omega
  · simp only [List.length_cons, List.length_nil, Bool.and_eq_true, decide_eq_true_eq]
    constructor
    · intro h
      have h0 := h 0 (by omega)
      simp only [List.getD_cons_zero] at h0
      omega
    · intro h k hk
      have : k = 0 := by omega
      subst this
      simp only [List.getD_cons_zero]; omega
noncomputable def there_ly_I (l : List Int) (m : Int) (k : Nat) : VS := stt 22 [(1, i64 m), (8, ints .i64 l), (9, i64 l.length), (10, i64 k)] []
noncomputable def there_ly_Z (l : List Int) (m : Int) : VS := there_ly_I l m (l.length)
set_option maxRecDepth 100000 in
set_option maxHeartbeats 2000000 in
theorem there_ly_s (l : List Int) (m : Int) (hl : l.length ≤ 1000) (h : ∀ k, k < l.length → 0 ≤ l.getD k 0 ∧ l.getD k 0 < m) (k : Nat) (hk : k < l.length) : VT Try.prog (fnC Try.f202 [1, 0, 1, 0, 0]) (there_ly_I l m k) .normal (there_ly_I l m (k + 1)) := by
  have q := h k hk
  have oz3 := (decide_eq_false (p := (l.getD k 0 < 0)) (by omega))
  exact VT.run (W := [.r [] [], .br true, .r [] [.row [i64 (l.getD k 0)]], .r [] [.br true, .br true, .br true, .br false], .br false, .r [] [.n ((↑k : Int) + 1)]]) (G := [.any (rg [(6, 1), (11, 11)]), .weak 10 (i64 (↑(k + 1) : Int)), .sort]) (by kernel_rfl) (.c (decide_eq_true (p := ((↑k : Int) < (↑l.length : Int))) (by omega)) <| .c (show 0 ≤ (↑k : Int) by omega) <| .c (map_at (row1 IntKind.i64) (0) (l := l) (i := k) hk) <| .c oz3 <| .c oz3 <| .c oz3 <| .c oz3 <| .c (decide_eq_false (p := (l.getD k 0 ≥ m)) (by omega)) <| .c (IntWalk.i64_in ((↑k : Int) + 1) (by omega)) <| .c (Weak.int (k := .i64) (show (((↑k : Int) + 1) : Int) = ((↑(k + 1) : Int)) from (by omega))) <| .n)
set_option maxRecDepth 100000 in
set_option maxHeartbeats 2000000 in
theorem there_ly_e (l : List Int) (m : Int) (hl : l.length ≤ 1000) (h : ∀ k, k < l.length → 0 ≤ l.getD k 0 ∧ l.getD k 0 < m) : VT Try.prog (fnC Try.f202 [1, 0, 1, 0, 0]) (there_ly_I l m (l.length)) (.exit 0) (there_ly_Z l m) := by
  exact VT.run (W := [.r [] [], .br false]) (G := [.any [11], .sort]) (by kernel_rfl) (.c (decide_eq_false (p := ((↑l.length : Int) < (↑l.length : Int))) (by omega)) <| .n)
theorem there_ly (l : List Int) (m : Int) (hl : l.length ≤ 1000) (h : ∀ k, k < l.length → 0 ≤ l.getD k 0 ∧ l.getD k 0 < m) : VT Try.prog (fnC Try.f202 [1, 0, 1, 0]) (there_ly_I l m 0) (.exit 0) (there_ly_Z l m) :=
  VT.loop (fun k => there_ly_I l m k) (l.length) (fun k hk => there_ly_s l m hl h k hk) (there_ly_e l m hl h) (by intro h; cases h)

noncomputable def there_ln_I (l : List Int) (m : Int) (j : Nat) (k : Nat) : VS := stt 22 [(1, i64 m), (8, ints .i64 l), (9, i64 l.length), (10, i64 k)] []
noncomputable def there_ln_Z (l : List Int) (m : Int) (j : Nat) : VS := stt 22 [(4, bv false)] []
set_option maxRecDepth 100000 in
set_option maxHeartbeats 2000000 in
theorem there_ln_s (l : List Int) (m : Int) (j : Nat) (hl : l.length ≤ 1000) (hj : j < l.length) (hf : ¬ (0 ≤ l.getD j 0 ∧ l.getD j 0 < m)) (h : ∀ k, k < j → 0 ≤ l.getD k 0 ∧ l.getD k 0 < m) (k : Nat) (hk : k < j) : VT Try.prog (fnC Try.f202 [1, 0, 1, 0, 0]) (there_ln_I l m j k) .normal (there_ln_I l m j (k + 1)) := by
  have q := h k hk
  have oz3 := (decide_eq_false (p := (l.getD k 0 < 0)) (by omega))
  exact VT.run (W := [.r [] [], .br true, .r [] [.row [i64 (l.getD k 0)]], .r [] [.br true, .br true, .br true, .br false], .br false, .r [] [.n ((↑k : Int) + 1)]]) (G := [.any (rg [(6, 1), (11, 11)]), .weak 10 (i64 (↑(k + 1) : Int)), .sort]) (by kernel_rfl) (.c (decide_eq_true (p := ((↑k : Int) < (↑l.length : Int))) (by omega)) <| .c (show 0 ≤ (↑k : Int) by omega) <| .c (map_at (row1 IntKind.i64) (0) (l := l) (i := k) (by omega)) <| .c oz3 <| .c oz3 <| .c oz3 <| .c oz3 <| .c (decide_eq_false (p := (l.getD k 0 ≥ m)) (by omega)) <| .c (IntWalk.i64_in ((↑k : Int) + 1) (by omega)) <| .c (Weak.int (k := .i64) (show (((↑k : Int) + 1) : Int) = ((↑(k + 1) : Int)) from (by omega))) <| .n)
set_option maxRecDepth 100000 in
set_option maxHeartbeats 2000000 in
theorem there_ln_e (l : List Int) (m : Int) (j : Nat) (hl : l.length ≤ 1000) (hj : j < l.length) (hf : ¬ (0 ≤ l.getD j 0 ∧ l.getD j 0 < m)) (h : ∀ k, k < j → 0 ≤ l.getD k 0 ∧ l.getD k 0 < m) : VT Try.prog (fnC Try.f202 [1, 0, 1, 0, 0]) (there_ln_I l m j (j)) (.ret) (there_ln_Z l m j) := by
  exact VT.run (W := [.r [] [], .br true, .r [] [.row [i64 (l.getD j 0)]], .r [] [.op false, .op false, .op false, .sel 1], .br true, .r [] []]) (G := [.any (rg [(1, 1), (6, 1), (8, 9), (20, 1)]), .sort]) (by kernel_rfl) (.c (decide_eq_true (p := ((↑j : Int) < (↑l.length : Int))) (by omega)) <| .c (show 0 ≤ (↑j : Int) by omega) <| .c (map_at (row1 IntKind.i64) (0) (l := l) (i := j) hj) <| .c (show (decide (l.getD j 0 < 0) || decide (l.getD j 0 ≥ m)) = true by (simp at *; omega)) <| .n)
theorem there_ln (l : List Int) (m : Int) (j : Nat) (hl : l.length ≤ 1000) (hj : j < l.length) (hf : ¬ (0 ≤ l.getD j 0 ∧ l.getD j 0 < m)) (h : ∀ k, k < j → 0 ≤ l.getD k 0 ∧ l.getD k 0 < m) : VT Try.prog (fnC Try.f202 [1, 0, 1, 0]) (there_ln_I l m j 0) (.ret) (there_ln_Z l m j) :=
  VT.loop (fun k => there_ln_I l m j k) (j) (fun k hk => there_ln_s l m j hl hj hf h k hk) (there_ln_e l m j hl hj hf h) (by intro h; cases h)

set_option maxRecDepth 100000 in
set_option maxHeartbeats 2000000 in
theorem there_y (n : Nod) (m : Int) (h : ∀ k, k < (takesL n).length → 0 ≤ (takesL n).getD k 0 ∧ (takesL n).getD k 0 < m) : VC Try.prog 202 ([nod n, i64 m]) (bv true) := by
  have q := takes_len n
  have oz0 := @takes_v (n)
  have oz1 := (Weak.int (k := .i64) (show (((↑(List.map (row1 IntKind.i64) (takesL n)).length : Int)) : Int) = ((↑(takesL n).length : Int)) from (by (simp; done))))
  have oz3 := @there_ly (takesL n) (m) (by omega) h
  exact VC.run (fn := Try.f202) (W := [.r [] [], .r [] [.callr (rO oz0)], .code [.any [0, 2, 4, 7], .drop [2], .weak 9 (wO oz1), .weak 10 (i64 (↑0 : Int)), .sort] (Exit.exit 0) (zO oz3), .r [] []]) Try.func202 (by kernel_rfl) (.c oz0 <| .c oz1 <| .c (Weak.int (k := .i64) (show ((0) : Int) = ((↑0 : Int)) from (by omega))) <| .c oz3 <| .n)

set_option maxRecDepth 100000 in
set_option maxHeartbeats 2000000 in
theorem there_n (n : Nod) (m : Int) (j : Nat) (hj : j < (takesL n).length) (hf : ¬ (0 ≤ (takesL n).getD j 0 ∧ (takesL n).getD j 0 < m)) (h : ∀ k, k < j → 0 ≤ (takesL n).getD k 0 ∧ (takesL n).getD k 0 < m) : VC Try.prog 202 ([nod n, i64 m]) (bv false) := by
  have q := takes_len n
  have oz0 := @takes_v (n)
  have oz1 := (Weak.int (k := .i64) (show (((↑(List.map (row1 IntKind.i64) (takesL n)).length : Int)) : Int) = ((↑(takesL n).length : Int)) from (by (simp; done))))
  have oz3 := @there_ln (takesL n) (m) (j) (by omega) hj hf h
  exact VC.run (fn := Try.f202) (W := [.r [] [], .r [] [.callr (rO oz0)], .code [.any [0, 2, 4, 7], .drop [2], .weak 9 (wO oz1), .weak 10 (i64 (↑0 : Int)), .sort] (Exit.ret) (zO oz3)]) Try.func202 (by kernel_rfl) (.c oz0 <| .c oz1 <| .c (Weak.int (k := .i64) (show ((0) : Int) = ((↑0 : Int)) from (by omega))) <| .c oz3 <| .n)
theorem there_v (n : Nod) (m : Int) : VC Try.prog 202 [nod n, i64 m] (bv (thereB n m)) := by
  rcases all_or (fun k => decide (0 ≤ (takesL n).getD k 0 ∧ (takesL n).getD k 0 < m)) (takesL n).length with h | ⟨j, h1, h2, h3⟩
  · rw [(takes_there n m).1 h]; exact there_y n m fun k hk => of_decide_eq_true (h k hk)
  · have : thereB n m = false := by
      cases e : thereB n m with
      | false => rfl
      | true => have := (takes_there n m).2 e j h1; rw [h2] at this; cases this
    rw [this]; exact there_n n m j h1 (of_decide_eq_false h2) fun k hk => of_decide_eq_true (h3 k hk)
set_option maxRecDepth 100000 in
set_option maxHeartbeats 2000000 in
theorem gof_v (n : Nod)  : VC Try.prog 204 ([nod n]) (i64 (secN n)) := by
  have q := takes_len n
  have q2 : (List.map (row1 .i64) (takesL n)).length = (takesL n).length := List.length_map _
  have oz0 := @takes_v (n)
  have oz1 := (IntWalk.i64_in ((↑(List.map (row1 IntKind.i64) (takesL n)).length : Int) - 1) (by omega))
  have oz3 := (map_at (row1 IntKind.i64) (0) (l := takesL n) (i := ((↑(List.map (row1 IntKind.i64) (takesL n)).length : Int) - 1).toNat) (by omega))
  exact (VC.run (fn := Try.f204) (W := [.r [] [], .r [] [.callr (rO oz0)], .r [] [.n (nO oz1), .row (sO oz3)]]) (r := i64 ((takesL n).getD ((↑(List.map (row1 IntKind.i64) (takesL n)).length : Int) - 1).toNat 0)) Try.func204 (by kernel_rfl) (.c oz0 <| .c oz1 <| .c (show 0 ≤ (↑(List.map (row1 IntKind.i64) (takesL n)).length : Int) - 1 by omega) <| .c oz3 <| .n)).weak (WeakL.refl _) (Weak.int (show (((takesL n).getD ((↑(List.map (row1 IntKind.i64) (takesL n)).length : Int) - 1).toNat 0) : Int) = (secN n) from (by (exact takes_last n (by omega)))))

set_option maxRecDepth 100000 in
set_option maxHeartbeats 2000000 in
theorem refThere_v (n : Nod) (m : Int)  : VC Try.prog 131 ([nod n, i64 m]) (bv (thereB n m)) := by
  exact (VC.run (fn := Try.f131) (W := [.r [] [], .r [] [.op false, .op false, .op false, .op false, .sel 2, .op false, .op false, .op false, .op false, .op false, .op false, .op false, .op false, .op false, .op false, .op false, .op false, .op false, .sel 2, .op false, .sel 1, .sel 2]]) (r := bv (decide (n.na ≥ 0) && decide (n.na < m) && (n.kd != 6 || decide (n.nb ≥ 0) && decide (n.nb < m)))) Try.func131 (by kernel_rfl) (.n)).weak (WeakL.refl _) (Weak.bool (show ((decide (n.na ≥ 0) && decide (n.na < m) && (n.kd != 6 || decide (n.nb ≥ 0) && decide (n.nb < m))) : Bool) = (thereB n m) from (by (unfold thereB secN; rw [Bool.eq_iff_iff]; by_cases e6 : n.kd = 6 <;> simp [e6] <;> omega))))

set_option maxRecDepth 100000 in
set_option maxHeartbeats 2000000 in
theorem refSecond_v (n : Nod)  : VC Try.prog 73 ([nod n]) (i64 (secN n)) := by
  rcases Bool.eq_false_or_eq_true (n.kd == 6) with hc0 | hc0
  · have gc0 : n.kd = 6 := bet hc0
    exact (VC.run (fn := Try.f73) (W := [.r [] [], .r [] [], .br true, .r [] []]) (r := i64 n.nb) Try.func73 (by kernel_rfl) (.c hc0 <| .n)).weak (WeakL.refl _) (Weak.int (show ((n.nb) : Int) = (secN n) from (by (unfold secN; rw [if_pos (by simp_all)]))))
  · have gc0 : ¬n.kd = 6 := bef hc0
    exact (VC.run (fn := Try.f73) (W := [.r [] [], .r [] [], .br false, .r [] []]) (r := i64 n.na) Try.func73 (by kernel_rfl) (.c hc0 <| .n)).weak (WeakL.refl _) (Weak.int (show ((n.na) : Int) = (secN n) from (by (unfold secN; rw [if_neg (by simp_all)]))))
/-- The shape of the next value, or what is wrong with it. -/
def nextE (n : Nod) (L : List Shp) : Shp × Int := if checkE n ≠ 0 then (⟨0, 0, 0⟩, checkE n) else if thereB n L.length = true then shapeE n (L.getD n.na.toNat default) (L.getD (secN n).toNat default) else (⟨0, 0, 0⟩, 8)
theorem there_iff {n : Nod} {m : Int} : thereB n m = true ↔ 0 ≤ n.na ∧ n.na < m ∧ 0 ≤ secN n ∧ secN n < m := by
  unfold thereB; simp only [Bool.and_eq_true, decide_eq_true_eq]; omega
set_option maxRecDepth 100000 in
set_option maxHeartbeats 2000000 in
theorem next_v (n : Nod) (L : List Shp) (ok : n.Ok) (okL : ∀ s ∈ L, s.Ok) (hL : L.length ≤ 100) (wl : n.w.length ≤ 100000) (bl : n.b.length ≤ 100000) : VC Try.prog 150 ([nod n, .sl 3 (L.map shpC)]) (.tup [shp (nextE n L).1, i64 (nextE n L).2]) := by
  have q1 := @there_iff n L.length
  have q2 := ok.kd
  have q3 := fun (h : n.na.toNat < L.length) => getD_in okL h
  have q4 := fun (h : (secN n).toNat < L.length) => getD_in okL h
  have oz0 := @check_v (n) wl bl q2
  rcases Bool.eq_false_or_eq_true (checkE n != 0) with hc0 | hc0
  · have gc0 : ¬checkE n = 0 := bdt hc0
    exact (VC.run (fn := Try.f150) (W := [.r [] [], .r [] [.callr (rO oz0)], .r [] [], .br true, .r [] []]) (r := AV.tup [AV.agg [i64 0, i64 0, i64 0], i64 (checkE n)]) Try.func150 (by kernel_rfl) (.c oz0 <| .c hc0 <| .n)).weak (WeakL.refl _) (Weak.tup (.cons (Weak.agg (.cons (Weak.int (show ((0) : Int) = ((nextE n L).fst.h) from (by (unfold nextE; rw [if_pos (by simp_all)])))) (.cons (Weak.int (show ((0) : Int) = ((nextE n L).fst.x) from (by (unfold nextE; rw [if_pos (by simp_all)])))) (.cons (Weak.int (show ((0) : Int) = ((nextE n L).fst.c) from (by (unfold nextE; rw [if_pos (by simp_all)])))) .nil)))) (.cons (Weak.int (show ((checkE n) : Int) = ((nextE n L).snd) from (by (unfold nextE; rw [if_pos (by simp_all)])))) .nil)))
  · have gc0 : checkE n = 0 := bdf hc0
    have oz2 := @there_v (n) ((↑(List.map shpC L).length : Int))
    rcases Bool.eq_false_or_eq_true (!thereB n (↑(List.map shpC L).length : Int)) with hc1 | hc1
    · have gc1 : thereB n (↑(List.map shpC L).length : Int) = false := by first | exact hc1 | exact of_decide_eq_true hc1 | exact of_decide_eq_false hc1 | simpa [eqNums] using hc1 | (simp [eqNums] at hc1 ⊢; first | done | assumption | omega)
      exact (VC.run (fn := Try.f150) (W := [.r [] [], .r [] [.callr (rO oz0)], .r [] [], .br false, .r [] [.callr (rO oz2)], .br true, .r [] []]) (r := AV.tup [AV.agg [i64 0, i64 0, i64 0], i64 8]) Try.func150 (by kernel_rfl) (.c oz0 <| .c hc0 <| .c oz2 <| .c hc1 <| .n)).weak (WeakL.refl _) (Weak.tup (.cons (Weak.agg (.cons (Weak.int (show ((0) : Int) = ((nextE n L).fst.h) from (by (unfold nextE; rw [if_neg (by simp_all), if_neg (by simp_all)])))) (.cons (Weak.int (show ((0) : Int) = ((nextE n L).fst.x) from (by (unfold nextE; rw [if_neg (by simp_all), if_neg (by simp_all)])))) (.cons (Weak.int (show ((0) : Int) = ((nextE n L).fst.c) from (by (unfold nextE; rw [if_neg (by simp_all), if_neg (by simp_all)])))) .nil)))) (.cons (Weak.int (show ((8) : Int) = ((nextE n L).snd) from (by (unfold nextE; rw [if_neg (by simp_all), if_neg (by simp_all)])))) .nil)))
    · have gc1 : thereB n (↑(List.map shpC L).length : Int) = true := by first | exact hc1 | exact of_decide_eq_true hc1 | exact of_decide_eq_false hc1 | simpa [eqNums] using hc1 | (simp [eqNums] at hc1 ⊢; first | done | assumption | omega)
      have oz5 := (map_at (shpC) (default) (l := L) (i := n.na.toNat) (by (have := q1.1 (by simp_all); omega)))
      have oz6 := @gof_v (n)
      have oz8 := (map_at (shpC) (default) (l := L) (i := (secN n).toNat) (by (have := q1.1 (by simp_all); omega)))
      have oz9 := @kshape_v (n) (L.getD n.na.toNat default) (L.getD (secN n).toNat default) (by (exact q3 (by have := q1.1 (by simp_all); omega))) (by (exact q4 (by have := q1.1 (by simp_all); omega))) ok
      exact (VC.run (fn := Try.f150) (W := [.r [] [], .r [] [.callr (rO oz0)], .r [] [], .br false, .r [] [.callr (rO oz2)], .br false, .r [] [.row (sO oz5), .callr (rO oz6), .row (sO oz8), .callr (rO oz9)]]) (r := AV.tup [AV.agg [i64 (shapeE n (L.getD n.na.toNat default) (L.getD (secN n).toNat default)).fst.h, i64 (shapeE n (L.getD n.na.toNat default) (L.getD (secN n).toNat default)).fst.x, i64 (shapeE n (L.getD n.na.toNat default) (L.getD (secN n).toNat default)).fst.c], i64 (shapeE n (L.getD n.na.toNat default) (L.getD (secN n).toNat default)).snd]) Try.func150 (by kernel_rfl) (.c oz0 <| .c hc0 <| .c oz2 <| .c hc1 <| .c (show 0 ≤ n.na by (have := q1.1 (by simp_all); omega)) <| .c oz5 <| .c oz6 <| .c (show 0 ≤ secN n by (have := q1.1 (by simp_all); omega)) <| .c oz8 <| .c oz9 <| .n)).weak (WeakL.refl _) (Weak.tup (.cons (Weak.agg (.cons (Weak.int (show (((shapeE n (L.getD n.na.toNat default) (L.getD (secN n).toNat default)).fst.h) : Int) = ((nextE n L).fst.h) from (by (unfold nextE; rw [if_neg (by simp_all), if_pos (by simp_all)])))) (.cons (Weak.int (show (((shapeE n (L.getD n.na.toNat default) (L.getD (secN n).toNat default)).fst.x) : Int) = ((nextE n L).fst.x) from (by (unfold nextE; rw [if_neg (by simp_all), if_pos (by simp_all)])))) (.cons (Weak.int (show (((shapeE n (L.getD n.na.toNat default) (L.getD (secN n).toNat default)).fst.c) : Int) = ((nextE n L).fst.c) from (by (unfold nextE; rw [if_neg (by simp_all), if_pos (by simp_all)])))) .nil)))) (.cons (Weak.int (show (((shapeE n (L.getD n.na.toNat default) (L.getD (secN n).toNat default)).snd) : Int) = ((nextE n L).snd) from (by (unfold nextE; rw [if_neg (by simp_all), if_pos (by simp_all)])))) .nil)))
end Go.Proofs.Ytgecmooedhnenaa

/- Which nodes of a block are used, and what is left of them: the plain law. No condition. -/
namespace Go.Proofs.Ytgecmooedhnenaa
open Go.RowKit
set_option linter.unusedSimpArgs false
set_option linter.unusedVariables false
set_option linter.unnecessarySimpa false

def takesB (n : Nod) (v : Int) : Bool := decide (n.na = v) || (decide (n.kd = 6) && decide (n.nb = v))
def orderedB (l : List Nod) : Bool := (List.range l.length).all fun i => thereB (l.getD i default) ((i : Int) + 1)
/-- Which values are wanted when k nodes have been looked at, from the last one on. -/
def wt (l : List Nod) : Nat → Int → Bool
  | 0, v => decide (v = l.length)
  | k + 1, v => wt l k v || (wt l k ((l.length : Int) - k) && takesB (l.getD (l.length - 1 - k) default) v)
def usedB (l : List Nod) (i : Nat) : Bool := wt l (l.length - 1 - i) ((i : Int) + 1)
def usedL (l : List Nod) : List Nat := (List.range l.length).filter (usedB l)
def numU (us : List Nat) (v : Int) : Int := ((us.filter fun u : Nat => decide ((u : Int) < v)).length : Int)
def pruneN (us : List Nat) (n : Nod) : Nod := { n with na := numU us n.na, nb := if n.kd = 6 then numU us n.nb else n.nb }
def pruneL (l : List Nod) : List Nod := if orderedB l = true then (usedL l).map fun i => pruneN (usedL l) (l.getD i default) else l

theorem ordered_at {l : List Nod} (h : orderedB l = true) {i : Nat} (hi : i < l.length) : 0 ≤ (l.getD i default).na ∧ (l.getD i default).na ≤ i ∧ 0 ≤ secN (l.getD i default) ∧ secN (l.getD i default) ≤ i := by
  have := List.all_eq_true.1 h i (by simpa using hi)
  have := there_iff.1 this
  omega
theorem ordered_takes {l : List Nod} (h : orderedB l = true) {i : Nat} (hi : i < l.length) {v : Int} (hv : takesB (l.getD i default) v = true) : 0 ≤ v ∧ v ≤ i := by
  have := ordered_at h hi
  unfold takesB at hv
  unfold secN at this
  simp only [Bool.or_eq_true, Bool.and_eq_true, decide_eq_true_eq] at hv
  rcases hv with rfl | ⟨h6, rfl⟩
  · omega
  · rw [if_pos h6] at this; omega
/-- What is wanted so far. -/
theorem wt_iff (l : List Nod) : ∀ k, k ≤ l.length → ∀ v, wt l k v = true ↔ v = l.length ∨ ∃ j, l.length - k ≤ j ∧ j < l.length ∧ usedB l j = true ∧ takesB (l.getD j default) v = true
  | 0, _, v => by
    simp only [wt, decide_eq_true_eq]
    constructor
    · exact .inl
    · rintro (h | ⟨j, h1, h2, _⟩)
      · exact h
      · omega
  | k + 1, hk, v => by
    have hu : wt l k ((l.length : Int) - k) = usedB l (l.length - 1 - k) := by
      unfold usedB
      rw [show l.length - 1 - (l.length - 1 - k) = k by omega, show (((l.length - 1 - k : Nat) : Int)) + 1 = (l.length : Int) - k by omega]
    simp only [wt, Bool.or_eq_true, Bool.and_eq_true, wt_iff l k (by omega) v, hu]
    constructor
    · rintro ((h | ⟨j, h1, h2, h3⟩) | ⟨h1, h2⟩)
      · exact .inl h
      · exact .inr ⟨j, by omega, h2, h3⟩
      · exact .inr ⟨l.length - 1 - k, by omega, by omega, h1, h2⟩
    · rintro (h | ⟨j, h1, h2, h3, h4⟩)
      · exact .inl (.inl h)
      · by_cases e : j = l.length - 1 - k
        · subst e; exact .inr ⟨h3, h4⟩
        · exact .inl (.inr ⟨j, by omega, h2, h3, h4⟩)
theorem used_iff {l : List Nod} {i : Nat} (hi : i < l.length) : usedB l i = true ↔ i + 1 = l.length ∨ ∃ j, i < j ∧ j < l.length ∧ usedB l j = true ∧ takesB (l.getD j default) ((i : Int) + 1) = true := by
  unfold usedB
  rw [wt_iff l _ (by omega)]
  constructor
  · rintro (h | ⟨j, h1, h2, h3, h4⟩)
    · exact .inl (by omega)
    · exact .inr ⟨j, by omega, h2, h3, h4⟩
  · rintro (h | ⟨j, h1, h2, h3, h4⟩)
    · exact .inl (by omega)
    · exact .inr ⟨j, by omega, h2, h3, h4⟩
theorem mem_used {l : List Nod} {i : Nat} : i ∈ usedL l ↔ i < l.length ∧ usedB l i = true := by
  unfold usedL; rw [List.mem_filter, List.mem_range]
/-- Used nodes take what used nodes make, or what came in. -/
theorem used_takes {l : List Nod} (h : orderedB l = true) {i : Nat} (hi : i ∈ usedL l) {v : Int} (hv : takesB (l.getD i default) v = true) : 0 ≤ v ∧ v ≤ i ∧ (v = 0 ∨ (v - 1).toNat ∈ usedL l) := by
  obtain ⟨h1, h2⟩ := mem_used.1 hi
  have h3 := ordered_takes h h1 hv
  refine ⟨h3.1, h3.2, ?_⟩
  by_cases e : v = 0
  · exact .inl e
  · refine .inr (mem_used.2 ⟨by omega, (used_iff (by omega)).2 (.inr ⟨i, by omega, h1, h2, ?_⟩)⟩)
    rw [show (((v - 1).toNat : Nat) : Int) + 1 = v by omega]; exact hv
theorem takes_na (n : Nod) : takesB n n.na = true := by unfold takesB; simp
theorem takes_nb {n : Nod} (h : n.kd = 6) : takesB n n.nb = true := by unfold takesB; simp [h]
/-! Numbers in order. -/
theorem numU_mono (us : List Nat) {a b : Int} (h : a ≤ b) : numU us a ≤ numU us b := by
  unfold numU
  have : (us.filter fun u : Nat => decide ((u : Int) < a)).Sublist (us.filter fun u : Nat => decide ((u : Int) < b)) := by
    have e : us.filter (fun u : Nat => decide ((u : Int) < a)) = (us.filter fun u : Nat => decide ((u : Int) < b)).filter (fun u : Nat => decide ((u : Int) < a)) := by
      rw [List.filter_filter]
      congr 1; funext u
      by_cases h1 : (u : Int) < a
      · have : (u : Int) < b := by omega
        simp [h1, this]
      · simp [h1]
    rw [e]; exact List.filter_sublist
  have := this.length_le
  omega
theorem numU_0 (us : List Nat) {v : Int} (h : v ≤ 0) : numU us v = 0 := by
  unfold numU
  rw [List.filter_eq_nil_iff.2 (fun u _ => by simp; omega)]; rfl
theorem numU_nn (us : List Nat) (v : Int) : 0 ≤ numU us v := by unfold numU; omega
/-- How many of an increasing list lie below one that is at the place j, or behind it. -/
theorem filter_take {us : List Nat} (h : us.Pairwise (· < ·)) : ∀ {j : Nat}, j < us.length → us.filter (fun u : Nat => decide ((u : Int) < us.getD j 0)) = us.take j := by
  induction us with
  | nil => intro j hj; simp at hj
  | cons a us ih =>
    intro j hj
    obtain ⟨h1, h2⟩ := List.pairwise_cons.1 h
    cases j with
    | zero =>
      simp only [List.getD_cons_zero, List.take_zero]
      rw [List.filter_eq_nil_iff]
      intro u hu
      rcases List.mem_cons.1 hu with rfl | hu
      · simp
      · have := h1 u hu; simp; omega
    | succ j =>
      have hj' : j < us.length := by simpa using hj
      have hm : us.getD j 0 ∈ us := by rw [List.getD_eq_getElem?_getD, List.getElem?_eq_getElem hj']; exact List.getElem_mem hj'
      have := h1 _ hm
      rw [List.getD_cons_succ, List.take_succ_cons, List.filter_cons, if_pos (by rw [decide_eq_true_eq]; omega), ih h2 hj']
theorem numU_at {us : List Nat} (h : us.Pairwise (· < ·)) {j : Nat} (hj : j < us.length) : numU us (us.getD j 0 : Nat) = j := by
  unfold numU; rw [filter_take h hj, List.length_take]; omega
theorem numU_up {us : List Nat} (h : us.Pairwise (· < ·)) {j : Nat} (hj : j < us.length) : numU us ((us.getD j 0 : Nat) + 1) = j + 1 := by
  have h1 := numU_at h hj
  have hm : us.getD j 0 ∈ us := by rw [List.getD_eq_getElem?_getD, List.getElem?_eq_getElem hj]; exact List.getElem_mem hj
  unfold numU at h1 ⊢
  have : (us.filter fun u : Nat => decide ((u : Int) < ((us.getD j 0 : Nat) : Int) + 1)) = us.take (j + 1) := by
    by_cases hj2 : j + 1 < us.length
    · rw [← filter_take h hj2]
      apply List.filter_congr
      intro u hu
      have hp := List.pairwise_iff_getElem.1 h
      obtain ⟨i, hi, rfl⟩ := List.mem_iff_getElem.1 hu
      rw [List.getD_eq_getElem?_getD, List.getElem?_eq_getElem hj, List.getD_eq_getElem?_getD, List.getElem?_eq_getElem hj2]
      simp only [Option.getD_some]
      rw [decide_eq_decide]
      constructor
      · intro hlt
        have h3 := hp j (j + 1) hj hj2 (by omega)
        omega
      · intro hlt
        by_cases h4 : i ≤ j
        · by_cases h5 : i = j
          · subst h5; omega
          · have := hp i j hi hj (by omega); omega
        · by_cases h6 : i = j + 1
          · subst h6; omega
          · have := hp (j + 1) i hj2 hi (by omega); omega
    · rw [List.take_of_length_le (by omega)]
      rw [List.filter_eq_self]
      intro u hu
      have hp := List.pairwise_iff_getElem.1 h
      obtain ⟨i, hi, rfl⟩ := List.mem_iff_getElem.1 hu
      rw [List.getD_eq_getElem?_getD, List.getElem?_eq_getElem hj]
      simp only [Option.getD_some, decide_eq_true_eq]
      by_cases h5 : i = j
      · subst h5; omega
      · have := hp i j hi hj (by omega); omega
  rw [this, List.length_take]; omega
theorem used_sorted (l : List Nod) : (usedL l).Pairwise (· < ·) := by
  unfold usedL; exact List.Pairwise.filter _ List.pairwise_lt_range
theorem numU_range (c : Nat) {v : Int} (h0 : 0 ≤ v) (h1 : v ≤ c) : numU (List.range c) v = v := by
  by_cases e : v.toNat < c
  · have := numU_at (us := List.range c) List.pairwise_lt_range (j := v.toNat) (by simpa using e)
    rw [List.getD_eq_getElem?_getD, List.getElem?_range e] at this
    simp only [Option.getD_some] at this
    rw [show ((v.toNat : Nat) : Int) = v by omega] at this; exact this
  · have e : v = c := by omega
    subst e
    unfold numU
    rw [List.filter_eq_self.2 (fun u hu => by have := List.mem_range.1 hu; simp; omega)]
    simp
theorem idx_used {l : List Nod} {i : Nat} (h : i ∈ usedL l) : ∃ j, j < (usedL l).length ∧ (usedL l).getD j 0 = i := by
  obtain ⟨j, hj, rfl⟩ := List.mem_iff_getElem.1 h
  exact ⟨j, hj, by rw [List.getD_eq_getElem?_getD, List.getElem?_eq_getElem hj]; rfl⟩
theorem pruneN_takes {us : List Nat} {n : Nod} {v : Int} (h : takesB n v = true) : takesB (pruneN us n) (numU us v) = true := by
  unfold takesB at h ⊢
  unfold pruneN
  simp only [Bool.or_eq_true, Bool.and_eq_true, decide_eq_true_eq] at h ⊢
  rcases h with rfl | ⟨h6, rfl⟩
  · exact .inl rfl
  · right; exact ⟨h6, by rw [if_pos h6]⟩
theorem pruneL_len {l : List Nod} (h : orderedB l = true) : (pruneL l).length = (usedL l).length := by unfold pruneL; rw [if_pos h, List.length_map]
theorem pruneL_at {l : List Nod} (h : orderedB l = true) {j : Nat} (hj : j < (usedL l).length) : (pruneL l).getD j default = pruneN (usedL l) (l.getD ((usedL l).getD j 0) default) := by
  unfold pruneL
  rw [if_pos h, List.getD_eq_getElem?_getD, List.getElem?_map, List.getElem?_eq_getElem hj, List.getD_eq_getElem?_getD (l := usedL l), List.getElem?_eq_getElem hj]; rfl
theorem used_at {l : List Nod} {j : Nat} (hj : j < (usedL l).length) : (usedL l).getD j 0 ∈ usedL l := by
  rw [List.getD_eq_getElem?_getD, List.getElem?_eq_getElem hj]; exact List.getElem_mem hj
/-- What a pruned node takes lies ahead of it. -/
theorem pruned_there {l : List Nod} (h : orderedB l = true) {j : Nat} (hj : j < (usedL l).length) {v : Int} (hv : takesB (l.getD ((usedL l).getD j 0) default) v = true) : 0 ≤ numU (usedL l) v ∧ numU (usedL l) v ≤ j := by
  obtain ⟨h1, h2, _⟩ := used_takes h (used_at hj) hv
  refine ⟨numU_nn _ _, ?_⟩
  have := numU_mono (usedL l) h2
  rw [numU_at (used_sorted l) hj] at this; exact this
theorem pruned_ordered {l : List Nod} (h : orderedB l = true) : orderedB (pruneL l) = true := by
  unfold orderedB
  rw [List.all_eq_true]
  intro j hj
  rw [List.mem_range, pruneL_len h] at hj
  rw [pruneL_at h hj, there_iff]
  have h1 := pruned_there h hj (takes_na _)
  have h2 := pruned_there h hj (v := (l.getD ((usedL l).getD j 0) default).nb)
  unfold secN pruneN
  dsimp only
  split
  · rename_i h6
    have h2 := h2 (takes_nb h6)
    omega
  · omega
theorem pruned_used {l : List Nod} (h : orderedB l = true) : ∀ (d j : Nat), (usedL l).length - 1 - j = d → j < (usedL l).length → usedB (pruneL l) j = true := by
  intro d
  induction d using Nat.strongRecOn with
  | _ d ih =>
    intro j hd hj
    rw [used_iff (by rw [pruneL_len h]; exact hj), pruneL_len h]
    by_cases e : j + 1 = (usedL l).length
    · exact .inl e
    · right
      have hu := mem_used.1 (used_at hj)
      rcases (used_iff hu.1).1 hu.2 with hl | ⟨i, h1, h2, h3, h4⟩
      · -- the last node is the last one used
        exfalso
        have h5 := mem_used.1 (used_at (l := l) (j := j + 1) (by omega))
        have h6 := numU_at (used_sorted l) hj
        have h7 := numU_at (used_sorted l) (j := j + 1) (by omega)
        have h8 := numU_mono (usedL l) (a := ((usedL l).getD (j + 1) 0 : Nat)) (b := ((usedL l).getD j 0 : Nat)) (by omega)
        omega
      · obtain ⟨j', hj', rfl⟩ := idx_used (mem_used.2 ⟨h2, h3⟩)
        have hlt : j < j' := by
          rcases Nat.lt_or_ge j j' with h9 | h9
          · exact h9
          · exfalso
            have h6 := numU_at (used_sorted l) hj
            have h7 := numU_at (used_sorted l) hj'
            have h8 := numU_mono (usedL l) (a := (((usedL l).getD j 0 : Nat) : Int) + 1) (b := ((usedL l).getD j' 0 : Nat)) (by omega)
            rw [numU_up (used_sorted l) hj, h7] at h8
            omega
        refine ⟨j', hlt, by omega, ih _ (by omega) j' rfl hj', ?_⟩
        rw [pruneL_at h hj']
        have := pruneN_takes (us := usedL l) h4
        rw [numU_up (used_sorted l) hj] at this
        exact this
theorem pruned_usedL {l : List Nod} (h : orderedB l = true) : usedL (pruneL l) = List.range (usedL l).length := by
  conv => lhs; unfold usedL
  rw [pruneL_len h]
  exact List.filter_eq_self.2 fun j hj => pruned_used h _ j rfl (List.mem_range.1 hj)
end Go.Proofs.Ytgecmooedhnenaa

/- Values one behind the other: of nodes that take two of those ahead; of nodes that are used alone. The plain law. No condition. -/
namespace Go.Proofs.Ytgecmooedhnenaa
open Go.RowKit
set_option linter.unusedSimpArgs false
set_option linter.unusedVariables false
set_option linter.unnecessarySimpa false

/-- What comes next is made of a node and of the two values that it takes, and not of their numbers. -/
structure Loc {α : Type} [Inhabited α] (f : Nod → List α → α × Int) (g : Nod → α → α → α × Int) : Prop where
  eq : ∀ (n : Nod) (L : List α), thereB n L.length = true → f n L = g n (L.getD n.na.toNat default) (L.getD (secN n).toNat default)
  ren : ∀ (n : Nod) (u v : Int) (a b : α), (n.kd = 6 ∨ v = n.nb) → g { n with na := u, nb := v } a b = g n a b
/-- The value v. -/
def gv {α : Type} [Inhabited α] (f : Nod → List α → α × Int) (l : List Nod) (x : α) (v : Nat) : α := (growL f l x v).getD v default
section
variable {α : Type} [Inhabited α] {f : Nod → List α → α × Int} {g : Nod → α → α → α × Int} {l : List Nod} {x : α}
theorem growL_at : ∀ (k : Nat) {v : Nat}, v ≤ k → (growL f l x k).getD v default = gv f l x v
  | 0, v, h => by have : v = 0 := by omega
                  subst this; rfl
  | k + 1, v, h => by
    by_cases e : v = k + 1
    · subst e; rfl
    · rw [growL, List.getD_eq_getElem?_getD, List.getElem?_append_left (by rw [growL_len]; omega), ← List.getD_eq_getElem?_getD]
      exact growL_at k (by omega)
theorem gv_next (k : Nat) : gv f l x (k + 1) = (f (l.getD k default) (growL f l x k)).1 := by
  unfold gv
  rw [growL, List.getD_eq_getElem?_getD, List.getElem?_append_right (by rw [growL_len]; omega), growL_len]; simp
theorem gv_step (hf : Loc f g) {k : Nat} (h : thereB (l.getD k default) ((k : Int) + 1) = true) :
    f (l.getD k default) (growL f l x k) = g (l.getD k default) (gv f l x (l.getD k default).na.toNat) (gv f l x (secN (l.getD k default)).toNat) := by
  have t := there_iff.1 h
  rw [hf.eq _ _ (by rw [growL_len, Int.natCast_add]; exact h), growL_at k (by omega), growL_at k (by omega)]
theorem gv_succ (hf : Loc f g) {k : Nat} (h : thereB (l.getD k default) ((k : Int) + 1) = true) :
    gv f l x (k + 1) = (g (l.getD k default) (gv f l x (l.getD k default).na.toNat) (gv f l x (secN (l.getD k default)).toNat)).1 := by rw [gv_next, gv_step hf h]
theorem errL_step (hf : Loc f g) {k : Nat} (h : thereB (l.getD k default) ((k : Int) + 1) = true) :
    errL f l x k = (g (l.getD k default) (gv f l x (l.getD k default).na.toNat) (gv f l x (secN (l.getD k default)).toNat)).2 := by unfold errL; rw [gv_step hf h]
theorem ordered_there (h : orderedB l = true) {k : Nat} (hk : k < l.length) : thereB (l.getD k default) ((k : Int) + 1) = true := List.all_eq_true.1 h k (by simpa using hk)
/-- The value that a pruned node takes is the one that the node took. -/
theorem pruned_gv (hf : Loc f g) (h : orderedB l = true) : ∀ (d j : Nat), j = d → j < (usedL l).length →
    gv f (pruneL l) x (j + 1) = gv f l x ((usedL l).getD j 0 + 1) ∧ errL f (pruneL l) x j = errL f l x ((usedL l).getD j 0) := by
  intro d
  induction d using Nat.strongRecOn with
  | _ d ih =>
    intro j hd hj
    subst hd
    have hu := (mem_used.1 (used_at hj)).1
    have key : ∀ v, takesB (l.getD ((usedL l).getD j 0) default) v = true → gv f (pruneL l) x (numU (usedL l) v).toNat = gv f l x v.toNat := by
      intro v hv
      obtain ⟨h1, h2, h3⟩ := used_takes h (used_at hj) hv
      rcases h3 with h3 | h3
      · subst h3; rw [numU_0 _ (by omega)]; rfl
      · by_cases e : v = 0
        · subst e; rw [numU_0 _ (by omega)]; rfl
        · obtain ⟨j', hj', e'⟩ := idx_used h3
          have ev : v = ((usedL l).getD j' 0 : Nat) + 1 := by omega
          have lt : j' < j := by
            rcases Nat.lt_trichotomy j' j with c | c | c
            · exact c
            · subst c; omega
            · have := List.pairwise_iff_getElem.1 (used_sorted l) j j' hj hj' c
              rw [List.getD_eq_getElem?_getD, List.getElem?_eq_getElem hj] at h2
              rw [List.getD_eq_getElem?_getD, List.getElem?_eq_getElem hj'] at ev
              simp only [Option.getD_some] at h2 ev
              omega
          have := (ih j' lt j' rfl hj').1
          rw [ev, numU_up (used_sorted l) hj']
          rw [show ((j' : Int) + 1).toNat = j' + 1 by omega, this]; congr 1
    have ht := ordered_there h hu
    have hp := ordered_there (pruned_ordered h) (k := j) (by rw [pruneL_len h]; exact hj)
    have e1 : (pruneL l).getD j default = pruneN (usedL l) (l.getD ((usedL l).getD j 0) default) := pruneL_at h hj
    have ga := key _ (takes_na _)
    have gs : gv f (pruneL l) x (secN (pruneN (usedL l) (l.getD ((usedL l).getD j 0) default))).toNat = gv f l x (secN (l.getD ((usedL l).getD j 0) default)).toNat := by
      unfold secN pruneN
      dsimp only
      by_cases h6 : (l.getD ((usedL l).getD j 0) default).kd = 6
      · rw [if_pos h6, if_pos h6, if_pos h6]; exact key _ (takes_nb h6)
      · rw [if_neg h6, if_neg h6]; exact ga
    have step : f ((pruneL l).getD j default) (growL f (pruneL l) x j) = f (l.getD ((usedL l).getD j 0) default) (growL f l x ((usedL l).getD j 0)) := by
      rw [gv_step hf hp, gv_step hf ht, e1, gs]
      have : (pruneN (usedL l) (l.getD ((usedL l).getD j 0) default)).na = numU (usedL l) (l.getD ((usedL l).getD j 0) default).na := rfl
      rw [this, ga]
      exact hf.ren _ _ _ _ _ (by
        by_cases h6 : (l.getD ((usedL l).getD j 0) default).kd = 6
        · exact .inl h6
        · exact .inr (if_neg h6))
    exact ⟨by rw [gv_next, gv_next, step], by unfold errL; rw [step]⟩
theorem used_last (h : l ≠ []) : (usedL l).length ≠ 0 ∧ (usedL l).getD ((usedL l).length - 1) 0 + 1 = l.length := by
  have l0 : 0 < l.length := List.length_pos_iff.2 h
  have hm : l.length - 1 ∈ usedL l := mem_used.2 ⟨by omega, (used_iff (by omega)).2 (.inl (by omega))⟩
  obtain ⟨j, hj, e⟩ := idx_used hm
  refine ⟨by omega, ?_⟩
  have hl := (mem_used.1 (used_at (l := l) (j := (usedL l).length - 1) (by omega))).1
  by_cases c : j = (usedL l).length - 1
  · rw [← c, e]; omega
  · have := List.pairwise_iff_getElem.1 (used_sorted l) j ((usedL l).length - 1) hj (by omega) (by omega)
    rw [List.getD_eq_getElem?_getD, List.getElem?_eq_getElem hj] at e
    rw [List.getD_eq_getElem?_getD, List.getElem?_eq_getElem (by omega)] at hl
    simp only [Option.getD_some] at e hl
    omega
/-- What goes out is the same without what is not used. -/
theorem pruned_last (hf : Loc f g) (h : orderedB l = true) (h0 : l ≠ []) : gv f (pruneL l) x (pruneL l).length = gv f l x l.length := by
  obtain ⟨u0, u1⟩ := used_last h0
  have := (pruned_gv (x := x) hf h _ ((usedL l).length - 1) rfl (by omega)).1
  rw [pruneL_len h, ← u1, ← this]; congr 1; omega
theorem pruned_err (hf : Loc f g) (h : orderedB l = true) (he : ∀ k, k < l.length → errL f l x k = 0) : ∀ k, k < (pruneL l).length → errL f (pruneL l) x k = 0 := by
  intro k hk
  rw [pruneL_len h] at hk
  rw [(pruned_gv (x := x) hf h _ k rfl hk).2]
  exact he _ (mem_used.1 (used_at hk)).1
end
theorem pruneL_ne {l : List Nod} (h0 : l ≠ []) : 0 < (pruneL l).length := by
  by_cases h : orderedB l = true
  · rw [pruneL_len h]; have := used_last h0; omega
  · unfold pruneL; rw [if_neg h]; exact List.length_pos_iff.2 h0
theorem pruneL_mem {l : List Nod} {p : Nod → Prop} (h : ∀ n ∈ l, p n) (hp : ∀ n u v, n.kd = 6 ∨ v = n.nb → p n → p { n with na := u, nb := v }) : ∀ n ∈ pruneL l, p n := by
  intro n hn
  unfold pruneL at hn
  split at hn
  · obtain ⟨i, hi, rfl⟩ := List.mem_map.1 hn
    exact hp _ _ _ (by
      by_cases h6 : (l.getD i default).kd = 6
      · exact .inl h6
      · exact .inr (if_neg h6)) (getD_in h (mem_used.1 hi).1)
  · exact h n hn
theorem checkE_ren (n : Nod) (u v : Int) (h : n.kd = 6 ∨ v = n.nb) : checkE { n with na := u, nb := v } = checkE n := by
  unfold checkE moreE
  rcases h with h | h
  · simp [h]
  · subst h; rfl
theorem shapeE_ren (n : Nod) (u v : Int) (a b : Shp) : shapeE { n with na := u, nb := v } a b = shapeE n a b := rfl
theorem nextE_loc : Loc nextE fun n a b => if checkE n ≠ 0 then (⟨0, 0, 0⟩, checkE n) else shapeE n a b where
  eq := fun n L h => by
    unfold nextE
    by_cases c : checkE n ≠ 0
    · rw [if_pos c, if_pos c]
    · rw [if_neg c, if_neg c, if_pos h]
  ren := fun n u v a b h => by
    rw [checkE_ren n u v h, shapeE_ren]
end Go.Proofs.Ytgecmooedhnenaa

/- Whether an exit stays within 32 bits. No condition. -/
namespace Go.Proofs.Ytgecmooedhnenaa
open Go.RowKit
set_option linter.unusedSimpArgs false
set_option linter.unusedVariables false
set_option linter.unnecessarySimpa false

/-- A number as another one. -/
def oneN (v : Int) (n : Nod) : Int := heldQ (v - n.za) n.qm n.qs n.qz n.lo n.hi
set_option maxRecDepth 100000 in
set_option maxHeartbeats 2000000 in
theorem actOne_w (v : Int) (n : Nod) (ok : n.Ok) (hv : In8 v) : VC Try.prog 128 ([i8 v, nod n]) (i8 (oneN v n)) := by
  obtain ⟨q1, q2⟩ := id hv
  obtain ⟨q3, q4⟩ := ok.za
  have oz3 := @held_v (v - n.za) (n.qm) (n.qs) (n.qz) (n.lo) (n.hi) (by omega) (by (exact ok.qm)) (by (exact ok.qz)) (by (exact ok.lo)) (by (exact ok.hi))
  exact (VC.run (fn := Try.f128) (W := [.r [] [], .r [] [.n v, .n n.za, .n (v - n.za), .callr (rO oz3)]]) (r := i8 (heldQ (v - n.za) n.qm n.qs n.qz n.lo n.hi)) Try.func128 (by kernel_rfl) (.c (IntWalk.i32_in v (by omega)) <| .c (IntWalk.i32_in n.za (by omega)) <| .c (IntWalk.i32_in (v - n.za) (by omega)) <| .c oz3 <| .n)).weak (WeakL.refl _) (Weak.int (show ((heldQ (v - n.za) n.qm n.qs n.qz n.lo n.hi) : Int) = (oneN v n) from (by rfl)))
end Go.Proofs.Ytgecmooedhnenaa

/- Several nodes as one: the plain law. No condition. -/
namespace Go.Proofs.Ytgecmooedhnenaa
open Go.RowKit
set_option linter.unusedSimpArgs false
set_option linter.unusedVariables false
set_option linter.unnecessarySimpa false

def fitsN (p c : Nod) : Bool := decide (p.kd = 8) && (decide (c.kd = 1) || decide (c.kd = 2)) && decide (checkE p = 0) && decide (checkE c = 0) && decide (p.za = c.za) && decide (0 ≤ p.np) && decide (0 ≤ c.np) && decide (p.np + c.np ≤ 4) && decide (p.np + c.np < c.nk)
abbrev tookN (p c : Nod) : Nod := { c with na := p.na, np := p.np + c.np }
/-- A node that changes nothing. -/
def sameN (n : Nod) : Bool := decide (n.kd = 7) && decide (checkE n = 0) && (List.range 256).all fun i : Nat => decide (oneN ((i : Int) - 128) n = (i : Int) - 128)
theorem fits_iff {p c : Nod} : fitsN p c = true ↔ p.kd = 8 ∧ (c.kd = 1 ∨ c.kd = 2) ∧ checkE p = 0 ∧ checkE c = 0 ∧ p.za = c.za ∧ 0 ≤ p.np ∧ 0 ≤ c.np ∧ p.np + c.np ≤ 4 ∧ p.np + c.np < c.nk := by
  unfold fitsN; simp only [Bool.and_eq_true, Bool.or_eq_true, decide_eq_true_eq, and_assoc]
theorem same_iff {n : Nod} : sameN n = true ↔ n.kd = 7 ∧ checkE n = 0 ∧ ∀ v, In8 v → oneN v n = v := by
  unfold sameN
  simp only [Bool.and_eq_true, decide_eq_true_eq, List.all_eq_true, List.mem_range, and_assoc]
  constructor
  · rintro ⟨h1, h2, h3⟩
    refine ⟨h1, h2, fun v hv => ?_⟩
    have := h3 (v + 128).toNat (by unfold In8 at hv; omega)
    unfold In8 at hv
    rw [show (((v + 128).toNat : Nat) : Int) - 128 = v by omega] at this
    exact this
  · rintro ⟨h1, h2, h3⟩
    exact ⟨h1, h2, fun i hi => h3 _ (by unfold In8; omega)⟩
theorem same_ren (n : Nod) (u v : Int) (h : n.kd = 6 ∨ v = n.nb) : sameN { n with na := u, nb := v } = sameN n := by
  unfold sameN; rw [checkE_ren n u v h]; rfl
/-- A window behind a Pad takes what the Pad takes. -/
def padN (L : List Nod) (n : Nod) : Nod := if 0 < n.na ∧ fitsN (L.getD (n.na - 1).toNat default) n = true then tookN (L.getD (n.na - 1).toNat default) n else n
def padK (l : List Nod) : Nat → List Nod
  | 0 => l
  | k + 1 => (padK l k).set k (padN (padK l k) ((padK l k).getD k default))
/-- A value, or what it is behind all that change nothing. -/
def pastK (L : List Nod) : Nat → Int → Int
  | 0, v => v
  | f + 1, v => if 0 < v ∧ sameN (L.getD (v - 1).toNat default) = true then pastK L f (L.getD (v - 1).toNat default).na else v
def pastV (L : List Nod) (v : Int) : Int := pastK L v.toNat v
def thrN (L : List Nod) (n : Nod) : Nod := { n with na := pastV L n.na, nb := if n.kd = 6 then pastV L n.nb else n.nb }
def thrK (l : List Nod) : Nat → List Nod
  | 0 => l
  | k + 1 => (thrK l k).set k (thrN (thrK l k) ((thrK l k).getD k default))
def padL (l : List Nod) : List Nod := padK l l.length
def thrL (l : List Nod) : List Nod := thrK l l.length
def onceL (l : List Nod) : List Nod := pruneL (thrL (padL l))
theorem padK_len (l : List Nod) : ∀ k, (padK l k).length = l.length
  | 0 => rfl
  | k + 1 => by rw [padK, List.length_set, padK_len l k]
theorem thrK_len (l : List Nod) : ∀ k, (thrK l k).length = l.length
  | 0 => rfl
  | k + 1 => by rw [thrK, List.length_set, thrK_len l k]
theorem padL_len (l : List Nod) : (padL l).length = l.length := padK_len l _
theorem thrL_len (l : List Nod) : (thrL l).length = l.length := thrK_len l _
theorem getD_setN (L : List Nod) (i j : Nat) (x : Nod) (hi : i < L.length) : (L.set i x).getD j default = if i = j then x else L.getD j default := by
  rw [List.getD_eq_getElem?_getD, List.getElem?_set, List.getD_eq_getElem?_getD]
  by_cases e : i = j
  · subst e; simp [hi]
  · simp [e]
theorem nodes_ext {a b : List Nod} (h : a.length = b.length) (g : ∀ v, v < b.length → a.getD v default = b.getD v default) : a = b := by
  apply List.ext_getElem?
  intro i
  by_cases hi : i < b.length
  · have := g i hi
    rw [List.getD_eq_getElem?_getD, List.getD_eq_getElem?_getD, List.getElem?_eq_getElem hi, List.getElem?_eq_getElem (by omega)] at this
    rw [List.getElem?_eq_getElem hi, List.getElem?_eq_getElem (by omega)]; simpa using this
  · rw [List.getElem?_eq_none (by omega), List.getElem?_eq_none (by omega)]
theorem padN_kd (L : List Nod) (n : Nod) : (padN L n).kd = n.kd := by unfold padN; split <;> rfl
theorem padN_other {L : List Nod} {n : Nod} (h : n.kd ≠ 1) (h2 : n.kd ≠ 2) : padN L n = n := by
  unfold padN
  rw [if_neg]
  rintro ⟨_, hf⟩
  have := (fits_iff.1 hf).2.1
  omega
theorem ord_iff {l : List Nod} : orderedB l = true ↔ ∀ i, i < l.length → 0 ≤ (l.getD i default).na ∧ (l.getD i default).na ≤ i ∧ ((l.getD i default).kd = 6 → 0 ≤ (l.getD i default).nb ∧ (l.getD i default).nb ≤ i) := by
  constructor
  · intro h i hi
    have := ordered_at h hi
    unfold secN at this
    refine ⟨by omega, by omega, fun h6 => ?_⟩
    rw [if_pos h6] at this; omega
  · intro h
    unfold orderedB
    rw [List.all_eq_true]
    intro i hi
    rw [List.mem_range] at hi
    have := h i hi
    rw [there_iff]
    unfold secN
    split
    · have := this.2.2 (by assumption); omega
    · omega
/-- Each node is looked at once, as it stood. -/
theorem padK_get {l : List Nod} (h : orderedB l = true) : ∀ k, k ≤ l.length → ∀ i, i < l.length → (padK l k).getD i default = if i < k then padN l (l.getD i default) else l.getD i default
  | 0, _, i, _ => rfl
  | k + 1, hk, i, hi => by
    have ih := padK_get h k (by omega)
    rw [padK, getD_setN _ _ _ _ (by rw [padK_len]; omega)]
    by_cases e : k = i
    · subst e
      rw [if_pos rfl, if_pos (by omega), ih k hi, if_neg (by omega)]
      have o := (ord_iff.1 h) k hi
      unfold padN
      by_cases z : 0 < (l.getD k default).na
      · have hj : ((l.getD k default).na - 1).toNat < k := by omega
        rw [ih _ (by omega), if_pos hj]
        by_cases p : (l.getD ((l.getD k default).na - 1).toNat default).kd = 8
        · rw [padN_other (by omega) (by omega)]
        · have f1 : ¬ fitsN (l.getD ((l.getD k default).na - 1).toNat default) (l.getD k default) = true := fun f => p (fits_iff.1 f).1
          have f2 : ¬ fitsN (padN l (l.getD ((l.getD k default).na - 1).toNat default)) (l.getD k default) = true := fun f => p (by have := (fits_iff.1 f).1; rwa [padN_kd] at this)
          rw [if_neg (fun q => f2 q.2), if_neg (fun q => f1 q.2)]
      · rw [if_neg (fun q => z q.1), if_neg (fun q => z q.1)]
    · rw [if_neg e, ih i hi]
      by_cases c : i < k
      · rw [if_pos c, if_pos (by omega)]
      · rw [if_neg c, if_neg (by omega)]
theorem padL_get {l : List Nod} (h : orderedB l = true) {i : Nat} (hi : i < l.length) : (padL l).getD i default = padN l (l.getD i default) := by
  unfold padL; rw [padK_get h _ (Nat.le_refl _) i hi, if_pos hi]
theorem padN_na {l : List Nod} (h : orderedB l = true) {i : Nat} (hi : i < l.length) : 0 ≤ (padN l (l.getD i default)).na ∧ (padN l (l.getD i default)).na ≤ (l.getD i default).na ∧ ((padN l (l.getD i default)).na = (l.getD i default).na → padN l (l.getD i default) = l.getD i default) ∧ (padN l (l.getD i default)).nb = (l.getD i default).nb := by
  have o := (ord_iff.1 h) i hi
  unfold padN
  split
  · rename_i q
    have o2 := (ord_iff.1 h) ((l.getD i default).na - 1).toNat (by omega)
    dsimp only
    refine ⟨by omega, by omega, fun e => ?_, rfl⟩
    omega
  · exact ⟨by omega, by omega, fun _ => rfl, rfl⟩
theorem padL_ordered {l : List Nod} (h : orderedB l = true) : orderedB (padL l) = true := by
  rw [ord_iff]
  intro i hi
  rw [padL_len] at hi
  rw [padL_get h hi]
  have o := (ord_iff.1 h) i hi
  obtain ⟨p1, p2, _, p3⟩ := padN_na h hi
  refine ⟨by omega, by omega, fun h6 => ?_⟩
  rw [padN_kd] at h6
  rw [p3]; exact o.2.2 h6
/-! What changes nothing is passed by. -/
theorem thrK_get {l : List Nod} : ∀ k, k ≤ l.length → ∀ i, i < l.length → (thrK l k).getD i default = if i < k then thrN (thrK l i) (l.getD i default) else l.getD i default
  | 0, _, i, _ => rfl
  | k + 1, hk, i, hi => by
    have ih := thrK_get (l := l) k (by omega)
    rw [thrK, getD_setN _ _ _ _ (by rw [thrK_len]; omega)]
    by_cases e : k = i
    · subst e; rw [if_pos rfl, if_pos (by omega), ih k hi, if_neg (by omega)]
    · rw [if_neg e, ih i hi]
      by_cases c : i < k
      · rw [if_pos c, if_pos (by omega)]
      · rw [if_neg c, if_neg (by omega)]
theorem thrL_get {l : List Nod} {i : Nat} (hi : i < l.length) : (thrL l).getD i default = thrN (thrK l i) (l.getD i default) := by
  unfold thrL; rw [thrK_get _ (Nat.le_refl _) i hi, if_pos hi]
theorem thrN_same (L : List Nod) (n : Nod) : sameN (thrN L n) = sameN n := by
  unfold thrN
  exact same_ren n _ _ (by
    by_cases h6 : n.kd = 6
    · exact .inl h6
    · exact .inr (if_neg h6))
/-- A list in which each node that changes nothing takes what lies ahead of it. -/
def Desc (L : List Nod) (k : Nat) : Prop := ∀ j, j < k → 0 ≤ (L.getD j default).na ∧ (L.getD j default).na ≤ j
theorem pastK_le {L : List Nod} {k : Nat} (h : Desc L k) : ∀ (f : Nat) (v : Int), 0 ≤ v → v ≤ k → 0 ≤ pastK L f v ∧ pastK L f v ≤ v
  | 0, v, h0, _ => ⟨h0, Int.le_refl _⟩
  | f + 1, v, h0, h1 => by
    rw [pastK]
    split
    · rename_i q
      have := h (v - 1).toNat (by omega)
      have := pastK_le h f (L.getD (v - 1).toNat default).na (by omega) (by omega)
      omega
    · exact ⟨h0, Int.le_refl _⟩
theorem pastK_stop {L : List Nod} {k : Nat} (h : Desc L k) : ∀ (f : Nat) (v : Int), v.toNat ≤ f → 0 ≤ v → v ≤ k → pastK L f v = 0 ∨ sameN (L.getD (pastK L f v - 1).toNat default) = false
  | 0, v, hf, h0, _ => .inl (by rw [pastK]; omega)
  | f + 1, v, hf, h0, h1 => by
    rw [pastK]
    split
    · rename_i q
      have := h (v - 1).toNat (by omega)
      exact pastK_stop h f _ (by omega) (by omega) (by omega)
    · rename_i q
      by_cases z : 0 < v
      · right
        cases e : sameN (L.getD (v - 1).toNat default) with
        | false => rfl
        | true => exact absurd ⟨z, e⟩ q
      · left; omega
theorem pastV_le {L : List Nod} {k : Nat} (h : Desc L k) {v : Int} (h0 : 0 ≤ v) (h1 : v ≤ k) : 0 ≤ pastV L v ∧ pastV L v ≤ v := pastK_le h _ v h0 h1
theorem pastV_stop {L : List Nod} {k : Nat} (h : Desc L k) {v : Int} (h0 : 0 ≤ v) (h1 : v ≤ k) : pastV L v = 0 ∨ sameN (L.getD (pastV L v - 1).toNat default) = false := pastK_stop h _ v (Nat.le_refl _) h0 h1
theorem pastV_id {L : List Nod} {v : Int} (h : v = 0 ∨ sameN (L.getD (v - 1).toNat default) = false) : pastV L v = v := by
  unfold pastV
  cases e : v.toNat with
  | zero => rfl
  | succ f =>
    rw [pastK, if_neg]
    rintro ⟨h1, h2⟩
    rcases h with h | h
    · omega
    · rw [h] at h2; cases h2
theorem thrK_desc {l : List Nod} (h : orderedB l = true) : ∀ k, k ≤ l.length → Desc (thrK l k) l.length
  | 0, _ => fun j hj => by have := (ord_iff.1 h) j hj; exact ⟨this.1, this.2.1⟩
  | k + 1, hk => fun j hj => by
    have ih := thrK_desc h k (by omega)
    have o := (ord_iff.1 h) j hj
    rw [thrK_get _ hk j hj]
    split
    · have := pastV_le (thrK_desc h j (by omega)) (v := (l.getD j default).na) o.1 (by omega)
      unfold thrN; dsimp only; omega
    · exact ⟨o.1, o.2.1⟩
theorem thrN_le {l : List Nod} (h : orderedB l = true) {i : Nat} (hi : i < l.length) :
    (0 ≤ (thrN (thrK l i) (l.getD i default)).na ∧ (thrN (thrK l i) (l.getD i default)).na ≤ (l.getD i default).na) ∧
    ((l.getD i default).kd = 6 → 0 ≤ (thrN (thrK l i) (l.getD i default)).nb ∧ (thrN (thrK l i) (l.getD i default)).nb ≤ (l.getD i default).nb) ∧ ((l.getD i default).kd ≠ 6 → (thrN (thrK l i) (l.getD i default)).nb = (l.getD i default).nb) := by
  have o := (ord_iff.1 h) i hi
  have d := thrK_desc h i (by omega)
  have a := pastV_le d (v := (l.getD i default).na) o.1 (by omega)
  refine ⟨a, fun h6 => ?_, fun h6 => by unfold thrN; dsimp only; rw [if_neg h6]⟩
  have := o.2.2 h6
  have b := pastV_le d (v := (l.getD i default).nb) this.1 (by omega)
  unfold thrN; dsimp only; rw [if_pos h6]; exact b
theorem thrL_ordered {l : List Nod} (h : orderedB l = true) : orderedB (thrL l) = true := by
  rw [ord_iff]
  intro i hi
  rw [thrL_len] at hi
  rw [thrL_get hi]
  have o := (ord_iff.1 h) i hi
  obtain ⟨a, b, _⟩ := thrN_le h hi
  refine ⟨a.1, by omega, fun h6 => ?_⟩
  have h6 : (l.getD i default).kd = 6 := h6
  have := b h6; have := o.2.2 h6; omega
/-- What is taken changes something. -/
def Firm (l : List Nod) : Prop := ∀ i, i < l.length → ((l.getD i default).na = 0 ∨ sameN (l.getD ((l.getD i default).na - 1).toNat default) = false) ∧
  ((l.getD i default).kd = 6 → (l.getD i default).nb = 0 ∨ sameN (l.getD ((l.getD i default).nb - 1).toNat default) = false)
theorem thrK_same {l : List Nod} {k : Nat} (hk : k ≤ l.length) {i : Nat} (hi : i < l.length) : sameN ((thrK l k).getD i default) = sameN (l.getD i default) := by
  rw [thrK_get k hk i hi]; split
  · exact thrN_same _ _
  · rfl
theorem thrL_firm {l : List Nod} (h : orderedB l = true) : Firm (thrL l) := by
  intro i hi
  rw [thrL_len] at hi
  have o := (ord_iff.1 h) i hi
  have d := thrK_desc h i (by omega)
  have key : ∀ v : Int, 0 ≤ v → v ≤ i → pastV (thrK l i) v = 0 ∨ sameN ((thrL l).getD (pastV (thrK l i) v - 1).toNat default) = false := by
    intro v v0 v1
    have a := pastV_le d v0 (by omega)
    rcases pastV_stop d v0 (by omega) with s | s
    · exact .inl s
    · by_cases z : pastV (thrK l i) v = 0
      · exact .inl z
      · right
        unfold thrL
        rw [thrK_same (by omega) (by omega)] at s
        rw [thrK_same (by omega) (by omega)]; exact s
  rw [thrL_get hi]
  refine ⟨key _ o.1 o.2.1, fun h6 => ?_⟩
  have h6 : (l.getD i default).kd = 6 := h6
  have := o.2.2 h6
  have := key _ this.1 this.2
  unfold thrN; dsimp only; rw [if_pos h6]; exact this
theorem thrL_id {l : List Nod} (h : Firm l) : thrL l = l := by
  have : ∀ k, k ≤ l.length → thrK l k = l := by
    intro k
    induction k with
    | zero => intro _; rfl
    | succ k ih =>
      intro hk
      rw [thrK, ih (by omega)]
      have f := h k (by omega)
      have e : thrN l (l.getD k default) = l.getD k default := by
        unfold thrN
        rw [pastV_id f.1]
        by_cases h6 : (l.getD k default).kd = 6
        · rw [if_pos h6, pastV_id (f.2 h6)]
        · rw [if_neg h6]
      rw [e]
      refine nodes_ext (by rw [List.length_set]) fun v hv => ?_
      rw [getD_setN _ _ _ _ (by omega)]
      split
      · rename_i e; rw [e]
      · rfl
  exact this _ (Nat.le_refl _)
theorem padL_same {l : List Nod} (h : orderedB l = true) {i : Nat} (hi : i < l.length) : sameN ((padL l).getD i default) = sameN (l.getD i default) := by
  rw [padL_get h hi]
  by_cases c : (l.getD i default).kd = 1 ∨ (l.getD i default).kd = 2
  · have a : ∀ m : Nod, m.kd = (l.getD i default).kd → sameN m = false := by
      intro m hm
      cases e : sameN m with
      | false => rfl
      | true => have := (same_iff.1 e).1; omega
    rw [a _ (padN_kd _ _), a _ rfl]
  · rw [padN_other (by omega) (by omega)]
theorem padL_firm {l : List Nod} (h : orderedB l = true) (f : Firm l) : Firm (padL l) := by
  intro i hi
  rw [padL_len] at hi
  have o := (ord_iff.1 h) i hi
  have key : ∀ v : Int, 0 ≤ v → v ≤ i → (v = 0 ∨ sameN (l.getD (v - 1).toNat default) = false) → v = 0 ∨ sameN ((padL l).getD (v - 1).toNat default) = false := by
    intro v v0 v1 hv
    rcases hv with hv | hv
    · exact .inl hv
    · by_cases z : v = 0
      · exact .inl z
      · right; rw [padL_same h (by omega)]; exact hv
  rw [padL_get h hi]
  have nb := (padN_na h hi).2.2.2
  refine ⟨?_, fun h6 => ?_⟩
  · unfold padN
    split
    · rename_i q
      have o2 := (ord_iff.1 h) ((l.getD i default).na - 1).toNat (by omega)
      show (l.getD ((l.getD i default).na - 1).toNat default).na = 0 ∨ sameN ((padL l).getD ((l.getD ((l.getD i default).na - 1).toNat default).na - 1).toNat default) = false
      exact key _ o2.1 (by omega) (f _ (by omega)).1
    · exact key _ o.1 o.2.1 (f i hi).1
  · rw [padN_kd] at h6
    rw [nb]
    have := o.2.2 h6
    exact key _ this.1 this.2 ((f i hi).2 h6)
theorem pruned_firm {l : List Nod} (h : orderedB l = true) (f : Firm l) : Firm (pruneL l) := by
  intro j hj
  rw [pruneL_len h] at hj
  rw [pruneL_at h hj]
  have fi := f _ (mem_used.1 (used_at hj)).1
  have key : ∀ v : Int, takesB (l.getD ((usedL l).getD j 0) default) v = true → (v = 0 ∨ sameN (l.getD (v - 1).toNat default) = false) → numU (usedL l) v = 0 ∨ sameN ((pruneL l).getD (numU (usedL l) v - 1).toNat default) = false := by
    intro v hv hs
    obtain ⟨h1, h2, h3⟩ := used_takes h (used_at hj) hv
    rcases hs with hs | hs
    · exact .inl (numU_0 _ (by omega))
    · rcases h3 with h3 | h3
      · exact .inl (numU_0 _ (by omega))
      · by_cases z : v = 0
        · exact .inl (numU_0 _ (by omega))
        · obtain ⟨j', hj', e'⟩ := idx_used h3
          right
          rw [show v = ((usedL l).getD j' 0 : Nat) + 1 by omega, numU_up (used_sorted l) hj', show ((j' : Int) + 1 - 1).toNat = j' by omega, pruneL_at h hj']
          unfold pruneN
          rw [same_ren _ _ _ (by
            by_cases h6 : (l.getD ((usedL l).getD j' 0) default).kd = 6
            · exact .inl h6
            · exact .inr (if_neg h6)), e']
          exact hs
  refine ⟨key _ (takes_na _) fi.1, fun h6 => ?_⟩
  have h6 : (l.getD ((usedL l).getD j 0) default).kd = 6 := h6
  have := key _ (takes_nb h6) (fi.2 h6)
  unfold pruneN; dsimp only; rw [if_pos h6]; exact this
/-! How far nodes reach back. -/
def sumA (l : List Nod) : Nat → Int
  | 0 => 0
  | k + 1 => sumA l k + (l.getD k default).na
theorem sumA_le {a b : List Nod} : ∀ k, (∀ i, i < k → (a.getD i default).na ≤ (b.getD i default).na) → sumA a k ≤ sumA b k
  | 0, _ => Int.le_refl _
  | k + 1, h => by have := sumA_le k fun i hi => h i (by omega); have := h k (by omega); rw [sumA, sumA]; omega
theorem sumA_eq {a b : List Nod} : ∀ k, (∀ i, i < k → (a.getD i default).na ≤ (b.getD i default).na) → sumA a k = sumA b k → ∀ i, i < k → (a.getD i default).na = (b.getD i default).na
  | 0, _, _, i, hi => by omega
  | k + 1, h, e, i, hi => by
    have l := sumA_le k fun i hi => h i (by omega)
    have lk := h k (by omega)
    rw [sumA, sumA] at e
    by_cases c : i = k
    · subst c; omega
    · exact sumA_eq k (fun i hi => h i (by omega)) (by omega) i (by omega)
theorem sumA_nn {l : List Nod} (h : orderedB l = true) : ∀ k, k ≤ l.length → 0 ≤ sumA l k
  | 0, _ => Int.le_refl _
  | k + 1, hk => by have := sumA_nn h k (by omega); have := (ord_iff.1 h) k (by omega); rw [sumA]; omega
theorem sumA_bd {l : List Nod} (h : orderedB l = true) : ∀ k, k ≤ l.length → 2 * sumA l k ≤ (k : Int) * (k - 1)
  | 0, _ => by rw [sumA]; omega
  | k + 1, hk => by
    have := sumA_bd h k (by omega); have := (ord_iff.1 h) k (by omega)
    rw [sumA]
    have e : (((k + 1 : Nat) : Int)) * (((k + 1 : Nat) : Int) - 1) = (k : Int) * (k - 1) + 2 * k := by
      rw [show (((k + 1 : Nat) : Int)) = (k : Int) + 1 by omega, show (k : Int) + 1 - 1 = k by omega, Int.add_mul, Int.mul_sub]; omega
    omega
/-- All nodes are used. -/
def AllUsed (l : List Nod) : Prop := usedL l = List.range l.length
theorem pruneL_id {l : List Nod} (h : orderedB l = true) (u : AllUsed l) : pruneL l = l := by
  refine nodes_ext (by rw [pruneL_len h, u, List.length_range]) fun j hj => ?_
  rw [pruneL_at h (by rw [u, List.length_range]; exact hj)]
  have e : (usedL l).getD j 0 = j := by rw [u, List.getD_eq_getElem?_getD, List.getElem?_range hj]; rfl
  rw [e]
  have o := (ord_iff.1 h) j hj
  unfold pruneN
  rw [u, numU_range l.length o.1 (by omega)]
  by_cases h6 : (l.getD j default).kd = 6
  · have := o.2.2 h6
    rw [if_pos h6, numU_range l.length this.1 (by omega)]
  · rw [if_neg h6]
theorem used_all {l : List Nod} (h : (usedL l).length = l.length) : AllUsed l := by
  unfold AllUsed
  have : usedL l = (List.range l.length).filter (usedB l) := rfl
  rw [this] at h ⊢
  exact List.filter_eq_self.2 (by
    have := List.length_filter_eq_length_iff.1 (by rw [h, List.length_range])
    exact this)
theorem pruned_all {l : List Nod} (h : orderedB l = true) : AllUsed (pruneL l) := by
  unfold AllUsed; rw [pruned_usedL h, pruneL_len h]
theorem numU_self {l : List Nod} {v : Int} (h0 : 0 ≤ v) (h1 : v ≤ l.length) : numU (usedL l) v ≤ v := by
  have e := numU_range l.length h0 h1
  have : ((usedL l).filter fun u : Nat => decide ((u : Int) < v)).Sublist ((List.range l.length).filter fun u : Nat => decide ((u : Int) < v)) := List.Sublist.filter _ List.filter_sublist
  have := this.length_le
  unfold numU at *; omega
/-- A sum over fewer nodes, none of which reaches farther back. -/
theorem pruned_sumA {l : List Nod} (h : orderedB l = true) : sumA (pruneL l) (pruneL l).length ≤ sumA l l.length := by
  have key : ∀ j, j ≤ (usedL l).length → ∀ m, m ≤ l.length → (∀ i, i < j → (usedL l).getD i 0 < m) → sumA (pruneL l) j ≤ sumA l m := by
    intro j
    induction j with
    | zero => intro _ m hm _; exact sumA_nn h m hm
    | succ j ih =>
      intro hj m
      induction m with
      | zero => intro _ hi; have := hi j (by omega); omega
      | succ m ihm =>
        intro hm hi
        have hu := hi j (by omega)
        have o := (ord_iff.1 h) m (by omega)
        by_cases c : (usedL l).getD j 0 = m
        · have := ih (by omega) m (by omega) fun i hij => by
            have := List.pairwise_iff_getElem.1 (used_sorted l) i j (by omega) (by omega) hij
            have e1 : (usedL l).getD i 0 = (usedL l)[i]'(by omega) := by rw [List.getD_eq_getElem?_getD, List.getElem?_eq_getElem (by omega)]; rfl
            have e2 : (usedL l).getD j 0 = (usedL l)[j]'(by omega) := by rw [List.getD_eq_getElem?_getD, List.getElem?_eq_getElem (by omega)]; rfl
            omega
          rw [sumA, sumA, pruneL_at h (by omega), c]
          have e : (pruneN (usedL l) (l.getD m default)).na = numU (usedL l) (l.getD m default).na := rfl
          have : numU (usedL l) (l.getD m default).na ≤ (l.getD m default).na := by
            exact numU_self o.1 (by omega)
          omega
        · have := ihm (by omega) fun i hi' => by
            have a := hi i hi'
            by_cases ci : i = j
            · subst ci; omega
            · have := List.pairwise_iff_getElem.1 (used_sorted l) i j (by omega) (by omega) (by omega)
              have e1 : (usedL l).getD i 0 = (usedL l)[i]'(by omega) := by rw [List.getD_eq_getElem?_getD, List.getElem?_eq_getElem (by omega)]; rfl
              have e2 : (usedL l).getD j 0 = (usedL l)[j]'(by omega) := by rw [List.getD_eq_getElem?_getD, List.getElem?_eq_getElem (by omega)]; rfl
              omega
          have s : sumA l (m + 1) = sumA l m + (l.getD m default).na := rfl
          omega
  rw [pruneL_len h]
  exact key _ (Nat.le_refl _) _ (Nat.le_refl _) fun i hi => (mem_used.1 (used_at hi)).1
end Go.Proofs.Ytgecmooedhnenaa

/- Several nodes as one, again and again: the plain law. No condition. -/
namespace Go.Proofs.Ytgecmooedhnenaa
open Go.RowKit
set_option linter.unusedSimpArgs false
set_option linter.unusedVariables false
set_option linter.unnecessarySimpa false

instance : DecidableEq Nod := fun a b => decidable_of_iff (nodEq a b = true) (nodEq_iff a b)
def hitP (L : List Nod) (n : Nod) : Bool := decide (0 < n.na) && fitsN (L.getD (n.na - 1).toNat default) n
def hitT (L : List Nod) (v : Int) : Bool := decide (0 < v) && sameN (L.getD (v - 1).toNat default)
def padB (l : List Nod) : Nat → Bool
  | 0 => false
  | k + 1 => padB l k || hitP (padK l k) ((padK l k).getD k default)
def thrB (l : List Nod) : Nat → Bool
  | 0 => false
  | k + 1 => thrB l k || (hitT (thrK l k) ((thrK l k).getD k default).na || (decide (((thrK l k).getD k default).kd = 6) && hitT (thrK l k) ((thrK l k).getD k default).nb))
theorem padN_no {L : List Nod} {n : Nod} (h : hitP L n = false) : padN L n = n := by
  unfold padN
  rw [if_neg]
  rintro ⟨h1, h2⟩
  unfold hitP at h
  rw [decide_eq_true h1, h2] at h; cases h
theorem padN_yes {L : List Nod} {n : Nod} (h : hitP L n = true) : 0 < n.na ∧ fitsN (L.getD (n.na - 1).toNat default) n = true ∧ padN L n = tookN (L.getD (n.na - 1).toNat default) n := by
  unfold hitP at h
  simp only [Bool.and_eq_true, decide_eq_true_eq] at h
  exact ⟨h.1, h.2, if_pos h⟩
theorem set_self (L : List Nod) (k : Nat) (hk : k < L.length) : L.set k (L.getD k default) = L := by
  refine nodes_ext (by rw [List.length_set]) fun v hv => ?_
  rw [getD_setN _ _ _ _ hk]
  split
  · rename_i e; rw [e]
  · rfl
theorem padB_no {l : List Nod} : ∀ k, k ≤ l.length → padB l k = false → padK l k = l
  | 0, _, _ => rfl
  | k + 1, hk, h => by
    rw [padB, Bool.or_eq_false_iff] at h
    have ih := padB_no k (by omega) h.1
    rw [padK, padN_no h.2, ih, set_self _ _ (by omega)]
theorem pastV_no {L : List Nod} {v : Int} (h0 : 0 ≤ v) (h : hitT L v = false) : pastV L v = v := by
  apply pastV_id
  unfold hitT at h
  rw [Bool.and_eq_false_iff, decide_eq_false_iff_not] at h
  rcases h with h | h
  · left; omega
  · exact .inr h
theorem thrN_no {l : List Nod} (o : orderedB l = true) {k : Nat} (hk : k < l.length) (h : (hitT l (l.getD k default).na || (decide ((l.getD k default).kd = 6) && hitT l (l.getD k default).nb)) = false) : thrN l (l.getD k default) = l.getD k default := by
  have q := (ord_iff.1 o) k hk
  rw [Bool.or_eq_false_iff] at h
  unfold thrN
  rw [pastV_no q.1 h.1]
  by_cases h6 : (l.getD k default).kd = 6
  · rw [decide_eq_true h6, Bool.true_and] at h
    rw [if_pos h6, pastV_no (q.2.2 h6).1 h.2]
  · rw [if_neg h6]
theorem thrB_no {l : List Nod} (o : orderedB l = true) : ∀ k, k ≤ l.length → thrB l k = false → thrK l k = l
  | 0, _, _ => rfl
  | k + 1, hk, h => by
    rw [thrB, Bool.or_eq_false_iff] at h
    have ih := thrB_no o k (by omega) h.1
    have h2 := h.2
    rw [ih] at h2
    rw [thrK, ih, thrN_no o (by omega) h2, set_self _ _ (by omega)]
/-- What was hit reaches less far back. -/
theorem padB_yes {l : List Nod} (o : orderedB l = true) : ∀ k, k ≤ l.length → padB l k = true → ∃ i, i < k ∧ (padN l (l.getD i default)).na < (l.getD i default).na
  | 0, _, h => by cases h
  | k + 1, hk, h => by
    rw [padB, Bool.or_eq_true] at h
    rcases h with h | h
    · obtain ⟨i, h1, h2⟩ := padB_yes o k (by omega) h; exact ⟨i, by omega, h2⟩
    · refine ⟨k, by omega, ?_⟩
      obtain ⟨h1, h2, h3⟩ := padN_yes h
      have e := padK_get o (k + 1) hk k (by omega)
      rw [if_pos (by omega), padK, getD_setN _ _ _ _ (by rw [padK_len]; omega), if_pos rfl, h3] at e
      rw [← e]
      have ek := padK_get o k (by omega) k (by omega)
      rw [if_neg (by omega)] at ek
      rw [ek] at h1 h2 ⊢
      have q := (ord_iff.1 (padL_ordered o))
      have q2 := (ord_iff.1 o) k (by omega)
      have e2 := padK_get o k (by omega) ((l.getD k default).na - 1).toNat (by omega)
      rw [if_pos (by omega)] at e2
      rw [e2]
      have := padN_na o (i := ((l.getD k default).na - 1).toNat) (by omega)
      have q3 := (ord_iff.1 o) ((l.getD k default).na - 1).toNat (by omega)
      show (padN l (l.getD ((l.getD k default).na - 1).toNat default)).na < _
      omega
theorem pastV_hit {L : List Nod} {k : Nat} (d : Desc L k) {v : Int} (h0 : 0 ≤ v) (h1 : v ≤ k) (h : hitT L v = true) : pastV L v < v := by
  unfold hitT at h
  simp only [Bool.and_eq_true, decide_eq_true_eq] at h
  unfold pastV
  cases e : v.toNat with
  | zero => omega
  | succ f =>
    rw [pastK, if_pos h]
    have q := d (v - 1).toNat (by omega)
    have := pastK_le d f (L.getD (v - 1).toNat default).na q.1 (by omega)
    omega
theorem thrB_yes {l : List Nod} (o : orderedB l = true) : ∀ k, k ≤ l.length → thrB l k = true → ∃ i, i < k ∧ ((thrN (thrK l i) (l.getD i default)).na < (l.getD i default).na ∨ ((l.getD i default).kd = 6 ∧ (thrN (thrK l i) (l.getD i default)).nb < (l.getD i default).nb))
  | 0, _, h => by cases h
  | k + 1, hk, h => by
    rw [thrB, Bool.or_eq_true] at h
    rcases h with h | h
    · obtain ⟨i, h1, h2⟩ := thrB_yes o k (by omega) h; exact ⟨i, by omega, h2⟩
    · refine ⟨k, by omega, ?_⟩
      have ek := thrK_get (l := l) k (by omega) k (by omega)
      rw [if_neg (by omega)] at ek
      rw [ek, Bool.or_eq_true, Bool.and_eq_true, decide_eq_true_eq] at h
      have q := (ord_iff.1 o) k (by omega)
      have d := thrK_desc o k (by omega)
      rcases h with h | ⟨h6, h⟩
      · left; exact pastV_hit d q.1 (by omega) h
      · right
        refine ⟨h6, ?_⟩
        have := pastV_hit d (q.2.2 h6).1 (by have := q.2.2 h6; omega) h
        unfold thrN; dsimp only; rw [if_pos h6]; exact this
theorem onceL_ordered {l : List Nod} (h : orderedB l = true) : orderedB (onceL l) = true := pruned_ordered (thrL_ordered (padL_ordered h))
/-- Nothing was hit and nothing was left out: just then it is as it was. -/
theorem once_iff {l : List Nod} (h : orderedB l = true) : (padB l l.length = false ∧ thrB (padL l) (padL l).length = false ∧ (onceL l).length = l.length) ↔ onceL l = l := by
  constructor
  · rintro ⟨h1, h2, h3⟩
    have e1 : padL l = l := padB_no _ (Nat.le_refl _) h1
    rw [e1] at h2
    have e2 : thrL l = l := thrB_no h _ (Nat.le_refl _) h2
    unfold onceL at h3 ⊢
    rw [e1, e2] at h3 ⊢
    rw [pruneL_len h] at h3
    exact pruneL_id h (used_all h3)
  · intro e
    have o2 := padL_ordered h
    have o3 := thrL_ordered o2
    have hl : (onceL l).length = l.length := by rw [e]
    have e3 : thrL (padL l) = l := by
      have : pruneL (thrL (padL l)) = thrL (padL l) := pruneL_id o3 (used_all (by rw [← pruneL_len o3, thrL_len, padL_len]; exact hl))
      rw [← this]; exact e
    have c1 : padB l l.length = false := by
      cases hb : padB l l.length with
      | false => rfl
      | true =>
        obtain ⟨i, hi, hlt⟩ := padB_yes h _ (Nat.le_refl _) hb
        have a := (thrN_le o2 (i := i) (by rw [padL_len]; exact hi)).1.2
        rw [← thrL_get (by rw [padL_len]; exact hi), e3, padL_get h hi] at a
        omega
    have e1 : padL l = l := padB_no _ (Nat.le_refl _) c1
    refine ⟨c1, ?_, hl⟩
    rw [e1]
    rw [e1] at e3
    cases hb : thrB l l.length with
    | false => rfl
    | true =>
      obtain ⟨i, hi, hlt⟩ := thrB_yes h _ (Nat.le_refl _) hb
      rw [← thrL_get hi, e3] at hlt
      omega
def itL (l : List Nod) : Nat → List Nod
  | 0 => l
  | k + 1 => onceL (itL l k)
theorem onceL_le (l : List Nod) : (onceL l).length ≤ l.length := by
  have : (pruneL (thrL (padL l))).length ≤ (thrL (padL l)).length := by
    unfold pruneL; split
    · rw [List.length_map]
      have := List.length_filter_le (usedB (thrL (padL l))) (List.range (thrL (padL l)).length); rw [List.length_range] at this; exact this
    · exact Nat.le_refl _
  rw [thrL_len, padL_len] at this; exact this
theorem itL_ordered {l : List Nod} (h : orderedB l = true) : ∀ k, orderedB (itL l k) = true
  | 0 => h
  | k + 1 => onceL_ordered (itL_ordered h k)
theorem itL_le (l : List Nod) : ∀ k, (itL l k).length ≤ l.length
  | 0 => Nat.le_refl _
  | k + 1 => Nat.le_trans (onceL_le _) (itL_le l k)
theorem itL_firm {l : List Nod} (h : orderedB l = true) : ∀ k, Firm (itL l (k + 1)) := fun k => pruned_firm (thrL_ordered (padL_ordered (itL_ordered h k))) (thrL_firm (padL_ordered (itL_ordered h k)))
theorem itL_all {l : List Nod} (h : orderedB l = true) (k : Nat) : AllUsed (itL l (k + 1)) := pruned_all (thrL_ordered (padL_ordered (itL_ordered h k)))
theorem sumA_lt {a b : List Nod} {n : Nat} (h : ∀ i, i < n → (a.getD i default).na ≤ (b.getD i default).na) {i : Nat} (hi : i < n) (hlt : (a.getD i default).na < (b.getD i default).na) : sumA a n < sumA b n := by
  have h1 := sumA_le n h
  by_cases c : sumA a n = sumA b n
  · have := sumA_eq n h c i hi; omega
  · omega
/-- Behind the first time, each time that changes something reaches less far back. -/
theorem itL_less {l : List Nod} (h : orderedB l = true) {k : Nat} (hc : onceL (itL l (k + 1)) ≠ itL l (k + 1)) : sumA (itL l (k + 2)) (itL l (k + 2)).length < sumA (itL l (k + 1)) (itL l (k + 1)).length := by
  have o := itL_ordered h (k + 1)
  have f := itL_firm h k
  have u := itL_all h k
  have f2 := padL_firm o f
  have e2 : thrL (padL (itL l (k + 1))) = padL (itL l (k + 1)) := thrL_id f2
  have hb : padB (itL l (k + 1)) (itL l (k + 1)).length = true := by
    cases hb : padB (itL l (k + 1)) (itL l (k + 1)).length with
    | true => rfl
    | false =>
      exfalso
      apply hc
      have e1 : padL (itL l (k + 1)) = itL l (k + 1) := padB_no _ (Nat.le_refl _) hb
      unfold onceL
      rw [e2, e1, pruneL_id o u]
  obtain ⟨i, hi, hlt⟩ := padB_yes o _ (Nat.le_refl _) hb
  have s1 := pruned_sumA (padL_ordered o)
  have s2 := sumA_lt (a := padL (itL l (k + 1))) (b := itL l (k + 1)) (n := (itL l (k + 1)).length) (fun i hi => by rw [padL_get o hi]; exact (padN_na o hi).2.1) hi (by rw [padL_get o hi]; exact hlt)
  have e3 : itL l (k + 2) = pruneL (padL (itL l (k + 1))) := by
    show pruneL (thrL (padL (itL l (k + 1)))) = _
    rw [e2]
  rw [padL_len] at s1
  rw [e3]; omega
/-- When it ends. -/
noncomputable def stopK (l : List Nod) : Nat := firstBad (fun k => decide (onceL (itL l k) ≠ itL l k)) 40
theorem stop_ex {l : List Nod} (h : orderedB l = true) (h8 : l.length ≤ 8) : ∃ m, m < 40 ∧ onceL (itL l m) = itL l m ∧ ∀ k, k < m → onceL (itL l k) ≠ itL l k := by
  by_cases c : ∃ k, k < 40 ∧ decide (onceL (itL l k) ≠ itL l k) = false
  · obtain ⟨m, h1, h2, h3⟩ := first_fail (p := fun k => decide (onceL (itL l k) ≠ itL l k)) 40 c
    refine ⟨m, h1, ?_, fun k hk => ?_⟩
    · have := decide_eq_false_iff_not.1 h2; exact Classical.byContradiction fun q => this q
    · exact of_decide_eq_true (h3 k hk)
  · exfalso
    have all : ∀ k, k < 40 → onceL (itL l k) ≠ itL l k := fun k hk e => c ⟨k, hk, by simp [e]⟩
    have go : ∀ k, k < 39 → sumA (itL l (k + 1)) (itL l (k + 1)).length ≤ 28 - k := by
      intro k
      induction k with
      | zero =>
        intro _
        have b := sumA_bd (itL_ordered h 1) _ (Nat.le_refl _)
        have l1 := Nat.le_trans (itL_le l 1) h8
        have m : ((itL l 1).length : Int) * ((itL l 1).length - 1) ≤ 8 * 7 := by
          by_cases z : (itL l 1).length = 0
          · rw [z]; decide
          · exact Int.mul_le_mul (by omega) (by omega) (by omega) (by omega)
        show sumA (itL l 1) (itL l 1).length ≤ _
        omega
      | succ k ih =>
        intro hk
        have := ih (by omega)
        have := itL_less h (all (k + 1) (by omega))
        show sumA (itL l (k + 2)) (itL l (k + 2)).length ≤ _
        omega
    have a : sumA (itL l 39) (itL l 39).length ≤ 28 - ((38 : Nat) : Int) := go 38 (by omega)
    have := sumA_nn (itL_ordered h 39) _ (Nat.le_refl _)
    omega
theorem stop_at {l : List Nod} (h : orderedB l = true) (h8 : l.length ≤ 8) : stopK l < 40 ∧ onceL (itL l (stopK l)) = itL l (stopK l) ∧ ∀ k, k < stopK l → onceL (itL l k) ≠ itL l k := by
  obtain ⟨m, h1, h2, h3⟩ := stop_ex h h8
  have : stopK l = m := firstBad_at (by simp [h2]) (fun k hk => by simpa using h3 k hk) h1
  rw [this]; exact ⟨h1, h2, h3⟩
noncomputable def fuseL (l : List Nod) : List Nod := itL l (stopK l)
theorem fuseL_eq (l : List Nod) : fuseL l = itL l (stopK l) := rfl
theorem itL_0 (l : List Nod) : itL l 0 = l := rfl
theorem fuse_again {l : List Nod} (h : orderedB l = true) (h8 : l.length ≤ 8) : stopK (fuseL l) = 0 ∧ fuseL (fuseL l) = fuseL l := by
  obtain ⟨h1, h2, h3⟩ := stop_at h h8
  have : stopK (fuseL l) = 0 := firstBad_at (by unfold fuseL itL; simp [h2]) (fun k hk => by omega) (by omega)
  refine ⟨this, ?_⟩
  rw [fuseL_eq (fuseL l), this, itL_0]
theorem onceL_mem {l : List Nod} {p : Nod → Prop} (h : ∀ n ∈ l, p n) (hr : ∀ n u v, n.kd = 6 ∨ v = n.nb → p n → p { n with na := u, nb := v }) (ht : ∀ a c, p a → p c → fitsN a c = true → p (tookN a c)) : ∀ n ∈ onceL l, p n := by
  have setm : ∀ (L : List Nod) (k : Nat) (m : Nod), (∀ n ∈ L, p n) → p m → ∀ n ∈ L.set k m, p n := fun L k m hL hm n hn => by
    rcases List.mem_or_eq_of_mem_set hn with q | q
    · exact hL n q
    · rw [q]; exact hm
  have pk : ∀ k, k ≤ l.length → ∀ n ∈ padK l k, p n := by
    intro k
    induction k with
    | zero => intro _; exact h
    | succ k ih =>
      intro hk
      have ih := ih (by omega)
      refine setm _ _ _ ih ?_
      have hn : p ((padK l k).getD k default) := getD_in ih (by rw [padK_len]; omega)
      cases hh : hitP (padK l k) ((padK l k).getD k default) with
      | false => rw [padN_no hh]; exact hn
      | true =>
        obtain ⟨h1, h2, h3⟩ := padN_yes hh
        rw [h3]
        by_cases c : (((padK l k).getD k default).na - 1).toNat < (padK l k).length
        · exact ht _ _ (getD_in ih c) hn h2
        · exfalso
          rw [List.getD_eq_getElem?_getD (l := padK l k) (i := (((padK l k).getD k default).na - 1).toNat), List.getElem?_eq_none (by omega)] at h2
          have := (fits_iff.1 h2).1
          exact absurd this (by decide)
  have tk : ∀ k, k ≤ (padL l).length → ∀ n ∈ thrK (padL l) k, p n := by
    intro k
    induction k with
    | zero => intro _; exact pk _ (Nat.le_refl _)
    | succ k ih =>
      intro hk
      have ih := ih (by omega)
      exact setm _ _ _ ih (hr _ _ _ (by
        by_cases h6 : ((thrK (padL l) k).getD k default).kd = 6
        · exact .inl h6
        · exact .inr (if_neg h6)) (getD_in ih (by rw [thrK_len]; omega)))
  exact pruneL_mem (tk _ (Nat.le_refl _)) hr
theorem itL_mem {l : List Nod} {p : Nod → Prop} (h : ∀ n ∈ l, p n) (hr : ∀ n u v, n.kd = 6 ∨ v = n.nb → p n → p { n with na := u, nb := v }) (ht : ∀ a c, p a → p c → fitsN a c = true → p (tookN a c)) : ∀ k, ∀ n ∈ itL l k, p n
  | 0 => h
  | k + 1 => onceL_mem (itL_mem h hr ht k) hr ht
/-- What holds of a node apart from what it takes. -/
def OkW (n : Nod) : Prop := ({ n with na := 0, nb := 0 } : Nod).Ok
def OkN (n : Nod) : Prop := OkW n ∧ (n.kd = 6 ∨ In64 n.nb)
theorem in64_0 : In64 0 := by decide
theorem Nod.Ok.n {n : Nod} (h : n.Ok) : OkN n := ⟨⟨h.kd, in64_0, in64_0, h.nk, h.ns, h.np, h.no, h.za, h.zb, h.w, h.b, h.qm, h.qs, h.qz, h.rm, h.rs, h.rz, h.lo, h.hi⟩, .inr h.nb⟩
theorem OkN.ren {n : Nod} (h : OkN n) (u v : Int) (hv : n.kd = 6 ∨ v = n.nb) : OkN { n with na := u, nb := v } := by
  refine ⟨h.1, ?_⟩
  rcases hv with hv | hv
  · exact .inl hv
  · subst hv; exact h.2
theorem OkN.ok {n : Nod} (h : OkN n) (a : In64 n.na) (b : n.kd = 6 → In64 n.nb) : n.Ok := by
  obtain ⟨⟨h1, _, _, h4, h5, h6, h7, h8, h9, h10, h11, h12, h13, h14, h15, h16, h17, h18, h19⟩, hb⟩ := h
  exact ⟨h1, a, hb.elim b id, h4, h5, h6, h7, h8, h9, h10, h11, h12, h13, h14, h15, h16, h17, h18, h19⟩
theorem Nod.Ok.took {p c : Nod} (hp : p.Ok) (hc : c.Ok) (hf : fitsN p c = true) : (tookN p c).Ok := by
  have f := fits_iff.1 hf
  obtain ⟨h1, _, h3, h4, h5, h6, h7, h8, h9, h10, h11, h12, h13, h14, h15, h16, h17, h18, h19⟩ := hc
  exact ⟨h1, hp.na, h3, h4, h5, (by show In64 (p.np + c.np); omega), h7, h8, h9, h10, h11, h12, h13, h14, h15, h16, h17, h18, h19⟩
theorem OkN.took {p c : Nod} (hc : OkN c) (hf : fitsN p c = true) : OkN (tookN p c) := by
  have f := fits_iff.1 hf
  obtain ⟨⟨h1, _, _, h4, h5, h6, h7, h8, h9, h10, h11, h12, h13, h14, h15, h16, h17, h18, h19⟩, hb⟩ := hc
  exact ⟨⟨h1, in64_0, in64_0, h4, h5, (by show In64 (p.np + c.np); omega), h7, h8, h9, h10, h11, h12, h13, h14, h15, h16, h17, h18, h19⟩, hb⟩
theorem ok_of {l : List Nod} (h : orderedB l = true) (hl : l.length ≤ 1000) (ok : ∀ n ∈ l, OkN n) : ∀ n ∈ l, n.Ok := by
  intro n hn
  obtain ⟨i, hi, rfl⟩ := List.mem_iff_getElem.1 hn
  have o := (ord_iff.1 h) i hi
  rw [List.getD_eq_getElem?_getD, List.getElem?_eq_getElem hi] at o
  simp only [Option.getD_some] at o
  exact (ok _ hn).ok (by unfold In64; omega) fun h6 => by have := o.2.2 h6; unfold In64; omega
theorem onceL_ok {l : List Nod} (h : orderedB l = true) (hl : l.length ≤ 1000) (ok : ∀ n ∈ l, n.Ok) : ∀ n ∈ onceL l, n.Ok :=
  ok_of (onceL_ordered h) (Nat.le_trans (onceL_le l) hl) (onceL_mem (fun n hn => (ok n hn).n) (fun n u v hv h => h.ren u v hv) fun a c _ hc hf => hc.took hf)
theorem itL_ok {l : List Nod} (h : orderedB l = true) (hl : l.length ≤ 1000) (ok : ∀ n ∈ l, n.Ok) : ∀ k, ∀ n ∈ itL l k, n.Ok
  | 0 => ok
  | k + 1 => onceL_ok (itL_ordered h k) (Nat.le_trans (itL_le l k) hl) (itL_ok h hl ok k)
/-! What goes out. -/
structure FLoc {α : Type} [Inhabited α] (f : Nod → List α → α × Int) (g : Nod → α → α → α × Int) (D : α → Prop) : Prop where
  loc : Loc f g
  same : ∀ (n : Nod) (a b : α), sameN n = true → D a → (g n a b).1 = a
  pads : ∀ (p c : Nod) (a : α), p.Ok → c.Ok → fitsN p c = true → D a → (g p a a).2 = 0 → g c (g p a a).1 (g p a a).1 = g (tookN p c) a a
section
variable {α : Type} [Inhabited α] {f : Nod → List α → α × Int} {g : Nod → α → α → α × Int} {D : α → Prop} {l : List Nod} {x : α}
theorem sec_o {n : Nod} (h : n.kd ≠ 6) : secN n = n.na := if_neg h
theorem pad_gv (hf : FLoc f g D) (h : orderedB l = true) (ok : ∀ n ∈ l, n.Ok) (hD : ∀ v, v ≤ l.length → D (gv f l x v)) (he : ∀ k, k < l.length → errL f l x k = 0) :
    ∀ (d v : Nat), v = d → v ≤ l.length → gv f (padL l) x v = gv f l x v ∧ (v < l.length → errL f (padL l) x v = errL f l x v) := by
  have step : ∀ k, k < l.length → (∀ v, v ≤ k → gv f (padL l) x v = gv f l x v) → f ((padL l).getD k default) (growL f (padL l) x k) = f (l.getD k default) (growL f l x k) := by
    intro k hk ih
    have t1 := ordered_there h hk
    have t2 := ordered_there (padL_ordered h) (k := k) (by rw [padL_len]; exact hk)
    have o := (ord_iff.1 h) k hk
    rw [gv_step hf.loc t2, gv_step hf.loc t1, padL_get h hk]
    cases hh : hitP l (l.getD k default) with
    | false =>
      rw [padN_no hh]
      have s := there_iff.1 t1
      rw [ih _ (by omega), ih _ (by omega)]
    | true =>
      obtain ⟨h1, h2, h3⟩ := padN_yes hh
      have fi := fits_iff.1 h2
      have o2 := (ord_iff.1 h) ((l.getD k default).na - 1).toNat (by omega)
      rw [h3, sec_o (n := tookN _ _) (by show (l.getD k default).kd ≠ 6; omega), sec_o (n := l.getD k default) (by omega)]
      have e1 : (tookN (l.getD ((l.getD k default).na - 1).toNat default) (l.getD k default)).na = (l.getD ((l.getD k default).na - 1).toNat default).na := rfl
      rw [e1, ih _ (by omega)]
      have tp := ordered_there h (k := ((l.getD k default).na - 1).toNat) (by omega)
      have ep := he ((l.getD k default).na - 1).toNat (by omega)
      rw [errL_step hf.loc tp, sec_o (by omega)] at ep
      have en : (l.getD k default).na.toNat = ((l.getD k default).na - 1).toNat + 1 := by omega
      rw [en, gv_succ hf.loc tp, sec_o (n := l.getD ((l.getD k default).na - 1).toNat default) (by omega)]
      exact (hf.pads _ _ _ (getD_in ok (by omega)) (getD_in ok hk) h2 (hD _ (by omega)) ep).symm
  intro d
  induction d using Nat.strongRecOn with
  | _ d ih =>
    intro v hv hl
    subst hv
    have all : ∀ u, u ≤ v → gv f (padL l) x u = gv f l x u := by
      intro u hu
      by_cases c : u = v
      · subst c
        cases u with
        | zero => rfl
        | succ k => rw [gv_next, gv_next, step k (by omega) fun w hw => (ih w (by omega) w rfl (by omega)).1]
      · exact (ih u (by omega) u rfl (by omega)).1
    exact ⟨all v (Nat.le_refl _), fun hlt => by unfold errL; rw [step v hlt all]⟩
theorem past_gv (hf : FLoc f g D) (h : orderedB l = true) (hD : ∀ v, v ≤ l.length → D (gv f l x v)) :
    ∀ (d i : Nat), i = d → i ≤ l.length → ∀ (m : Nat) (v : Int), 0 ≤ v → v ≤ i → gv f l x (pastK (thrK l i) m v).toNat = gv f l x v.toNat := by
  intro d
  induction d using Nat.strongRecOn with
  | _ d ih =>
    intro i hi hl m
    subst hi
    induction m with
    | zero => intro v _ _; rfl
    | succ m ihm =>
      intro v h0 h1
      rw [pastK]
      split
      · rename_i q
        have hj : (v - 1).toNat < i := by omega
        have ds := thrK_desc h i hl (v - 1).toNat (by omega)
        rw [ihm _ ds.1 (by omega)]
        have sm := q.2
        rw [thrK_same hl (by omega)] at sm
        have o := (ord_iff.1 h) (v - 1).toNat (by omega)
        have tp := ordered_there h (k := (v - 1).toNat) (by omega)
        rw [show v.toNat = (v - 1).toNat + 1 by omega, gv_succ hf.loc tp, hf.same _ _ _ sm (hD _ (by omega))]
        rw [thrK_get i hl (v - 1).toNat (by omega), if_pos hj]
        exact ih (v - 1).toNat hj _ rfl (by omega) _ _ o.1 o.2.1
      · rfl
theorem thr_gv (hf : FLoc f g D) (h : orderedB l = true) (hD : ∀ v, v ≤ l.length → D (gv f l x v)) :
    ∀ (d v : Nat), v = d → v ≤ l.length → gv f (thrL l) x v = gv f l x v ∧ (v < l.length → errL f (thrL l) x v = errL f l x v) := by
  have step : ∀ k, k < l.length → (∀ v, v ≤ k → gv f (thrL l) x v = gv f l x v) → f ((thrL l).getD k default) (growL f (thrL l) x k) = f (l.getD k default) (growL f l x k) := by
    intro k hk ih
    have t1 := ordered_there h hk
    have t2 := ordered_there (thrL_ordered h) (k := k) (by rw [thrL_len]; exact hk)
    have o := (ord_iff.1 h) k hk
    have s2 := there_iff.1 t2
    rw [gv_step hf.loc t2, gv_step hf.loc t1, ih _ (by omega), ih _ (by omega), thrL_get hk]
    have pa : gv f l x (thrN (thrK l k) (l.getD k default)).na.toNat = gv f l x (l.getD k default).na.toNat := past_gv hf h hD k k rfl (by omega) _ _ o.1 o.2.1
    have ps : gv f l x (secN (thrN (thrK l k) (l.getD k default))).toNat = gv f l x (secN (l.getD k default)).toNat := by
      by_cases h6 : (l.getD k default).kd = 6
      · have e1 : secN (thrN (thrK l k) (l.getD k default)) = pastV (thrK l k) (l.getD k default).nb := by
          unfold secN thrN; dsimp only; rw [if_pos h6, if_pos h6]
        have e2 : secN (l.getD k default) = (l.getD k default).nb := if_pos h6
        have q := o.2.2 h6
        rw [e1, e2]; exact past_gv hf h hD k k rfl (by omega) _ _ q.1 q.2
      · have e1 : secN (thrN (thrK l k) (l.getD k default)) = (thrN (thrK l k) (l.getD k default)).na := sec_o h6
        rw [e1, sec_o h6]; exact pa
    rw [pa, ps]
    unfold thrN
    exact hf.loc.ren _ _ _ _ _ (by
      by_cases h6 : (l.getD k default).kd = 6
      · exact .inl h6
      · exact .inr (if_neg h6))
  intro d
  induction d using Nat.strongRecOn with
  | _ d ih =>
    intro v hv hl
    subst hv
    have all : ∀ u, u ≤ v → gv f (thrL l) x u = gv f l x u := by
      intro u hu
      by_cases c : u = v
      · subst c
        cases u with
        | zero => rfl
        | succ k => rw [gv_next, gv_next, step k (by omega) fun w hw => (ih w (by omega) w rfl (by omega)).1]
      · exact (ih u (by omega) u rfl (by omega)).1
    exact ⟨all v (Nat.le_refl _), fun hlt => by unfold errL; rw [step v hlt all]⟩
/-- A block whose values are there. -/
structure Fine (f : Nod → List α → α × Int) (D : α → Prop) (l : List Nod) (x : α) : Prop where
  o : orderedB l = true
  ne : l ≠ []
  hl : l.length ≤ 1000
  ok : ∀ n ∈ l, n.Ok
  d : ∀ v, v ≤ l.length → D (gv f l x v)
  e : ∀ k, k < l.length → errL f l x k = 0
theorem Fine.once (hf : FLoc f g D) (h : Fine f D l x) : Fine f D (onceL l) x ∧ gv f (onceL l) x (onceL l).length = gv f l x l.length := by
  have a := pad_gv (x := x) hf h.o h.ok h.d h.e
  have o2 := padL_ordered h.o
  have d2 : ∀ v, v ≤ (padL l).length → D (gv f (padL l) x v) := fun v hv => by rw [padL_len] at hv; rw [(a v v rfl hv).1]; exact h.d v hv
  have e2 : ∀ k, k < (padL l).length → errL f (padL l) x k = 0 := fun k hk => by rw [padL_len] at hk; rw [(a k k rfl (by omega)).2 hk]; exact h.e k hk
  have b := thr_gv (x := x) hf o2 d2
  have o3 := thrL_ordered o2
  have d3 : ∀ v, v ≤ (thrL (padL l)).length → D (gv f (thrL (padL l)) x v) := fun v hv => by rw [thrL_len] at hv; rw [(b v v rfl hv).1]; exact d2 v hv
  have e3 : ∀ k, k < (thrL (padL l)).length → errL f (thrL (padL l)) x k = 0 := fun k hk => by rw [thrL_len] at hk; rw [(b k k rfl (by omega)).2 hk]; exact e2 k hk
  have ne3 : thrL (padL l) ≠ [] := fun q => h.ne (List.eq_nil_of_length_eq_zero (by rw [← padL_len l, ← thrL_len (padL l), q]; rfl))
  refine ⟨⟨pruned_ordered o3, fun q => ?_, Nat.le_trans (onceL_le l) h.hl, onceL_ok h.o h.hl h.ok, fun v hv => ?_, pruned_err hf.loc o3 e3⟩, ?_⟩
  · have := pruneL_ne ne3
    have q2 : (pruneL (thrL (padL l))).length = 0 := by rw [show pruneL (thrL (padL l)) = [] from q]; rfl
    omega
  · cases v with
    | zero => exact h.d 0 (by omega)
    | succ j =>
      have hv : j + 1 ≤ (pruneL (thrL (padL l))).length := hv
      rw [pruneL_len o3] at hv
      show D (gv f (pruneL (thrL (padL l))) x (j + 1))
      rw [(pruned_gv (x := x) hf.loc o3 j j rfl (by omega)).1]
      exact d3 _ (mem_used.1 (used_at (by omega))).1
  · show gv f (pruneL (thrL (padL l))) x (pruneL (thrL (padL l))).length = _
    rw [pruned_last hf.loc o3 ne3, thrL_len, (b _ _ rfl (Nat.le_refl _)).1, padL_len, (a _ _ rfl (Nat.le_refl _)).1]
theorem Fine.it (hf : FLoc f g D) (h : Fine f D l x) : ∀ k, Fine f D (itL l k) x ∧ gv f (itL l k) x (itL l k).length = gv f l x l.length
  | 0 => ⟨h, rfl⟩
  | k + 1 => by
    have a := h.it hf k
    have b := a.1.once hf
    exact ⟨b.1, b.2.trans a.2⟩
/-- What goes out is the same where several nodes are one. -/
theorem Fine.fuse (hf : FLoc f g D) (h : Fine f D l x) : Fine f D (fuseL l) x ∧ gv f (fuseL l) x (fuseL l).length = gv f l x l.length := h.it hf _
end
end Go.Proofs.Ytgecmooedhnenaa

/- Between which numbers what a node makes lies, by the program and by the document. No condition. -/
namespace Go.Proofs.Ytgecmooedhnenaa
open Go.RowKit
set_option linter.unusedSimpArgs false
set_option linter.unusedVariables false
set_option linter.unnecessarySimpa false

theorem clamp_in (v : Int) {lo hi : Int} (h1 : In8 lo) (h2 : In8 hi) : In8 (clampI v lo hi) := by
  unfold clampI; split
  · exact h1
  · split
    · exact h2
    · omega
set_option maxRecDepth 100000 in
set_option maxHeartbeats 2000000 in
theorem refHeld_v (a m s z lo hi : Int) (ha : In32 a) (hm : In32 m) (hz : In8 z) (hl : In8 lo) (hh : In8 hi) : VC Try.prog 221 ([i32 a, .agg [i32 m, i64 s, i8 z], i8 lo, i8 hi]) (i8 (heldQ a m s z lo hi)) := by
  have q1 := mul_bd32 a m ha.1 ha.2 hm.1 hm.2
  have q2 := rnd_bd (a * m) s 4611686018427387904 q1.1 q1.2
  have q3 := clamp_in (rnd (a * m) s + z) hl hh
  have oz0 := @refRight_v (m) (s) (z)
  rcases Bool.eq_false_or_eq_true (!rightQ m s) with hc0 | hc0
  · have gc0 : rightQ m s = false := by first | exact hc0 | exact of_decide_eq_true hc0 | exact of_decide_eq_false hc0 | simpa [eqNums] using hc0 | (simp [eqNums] at hc0 ⊢; first | done | assumption | omega)
    exact (VC.run (fn := Try.f221) (W := [.r [] [], .r [] [.callr (rO oz0)], .br true, .r [] []]) (r := i8 0) Try.func221 (by kernel_rfl) (.c oz0 <| .c hc0 <| .n)).weak (WeakL.refl _) (Weak.int (show ((0) : Int) = (heldQ a m s z lo hi) from (by (unfold heldQ; rw [if_neg (by simp_all)]))))
  · have gc0 : rightQ m s = true := by first | exact hc0 | exact of_decide_eq_true hc0 | exact of_decide_eq_false hc0 | simpa [eqNums] using hc0 | (simp [eqNums] at hc0 ⊢; first | done | assumption | omega)
    have oz5 := @refRound_v (a * m) (s) (by omega)
    have oz10 := @refSatHeld_v (rnd (a * m) s + z) (lo) (hi)
    have oz11 := (IntWalk.i8_in (clampI (rnd (a * m) s + z) lo hi) (by omega))
    exact (VC.run (fn := Try.f221) (W := [.r [] [], .r [] [.callr (rO oz0)], .br false, .r [] [.n a, .n m, .n (a * m), .callr (rO oz5), .n z, .n (rnd (a * m) s + z)], .r [] [.n lo, .n hi, .callr (rO oz10), .n (nO oz11)]]) (r := i8 (clampI (rnd (a * m) s + z) lo hi)) Try.func221 (by kernel_rfl) (.c oz0 <| .c hc0 <| .c (IntWalk.i64_in a (by omega)) <| .c (IntWalk.i64_in m (by omega)) <| .c (IntWalk.i64_in (a * m) (by omega)) <| .c oz5 <| .c (IntWalk.i64_in z (by omega)) <| .c (IntWalk.i64_in (rnd (a * m) s + z) (by omega)) <| .c (IntWalk.i64_in lo (by omega)) <| .c (IntWalk.i64_in hi (by omega)) <| .c oz10 <| .c oz11 <| .n)).weak (WeakL.refl _) (Weak.int (show ((clampI (rnd (a * m) s + z) lo hi) : Int) = (heldQ a m s z lo hi) from (by (unfold heldQ; rw [if_pos (by simp_all)]))))

/-- Two numbers as one. -/
def joinE (x y : Int) (n : Nod) : Int := if (rightQ n.qm n.qs && rightQ n.rm n.rs) = true then clampI (rnd ((x - n.za) * n.qm) n.qs + rnd ((y - n.zb) * n.rm) n.rs + n.qz) n.lo n.hi else 0
set_option maxRecDepth 100000 in
set_option maxHeartbeats 2000000 in
theorem refActOne_v (v : Int) (n : Nod) (ok : n.Ok) (hv : In8 v) : VC Try.prog 199 ([i8 v, nod n]) (i8 (oneN v n)) := by
  have ok_za := ok.za
  have ok_qm := ok.qm
  have ok_qz := ok.qz
  have ok_lo := ok.lo
  have ok_hi := ok.hi
  have oz3 := @refHeld_v (v - n.za) (n.qm) (n.qs) (n.qz) (n.lo) (n.hi) (by omega) ok_qm ok_qz ok_lo ok_hi
  exact (VC.run (fn := Try.f199) (W := [.r [] [], .r [] [.n v, .n n.za, .n (v - n.za), .callr (rO oz3)]]) (r := i8 (heldQ (v - n.za) n.qm n.qs n.qz n.lo n.hi)) Try.func199 (by kernel_rfl) (.c (IntWalk.i32_in v (by omega)) <| .c (IntWalk.i32_in n.za (by omega)) <| .c (IntWalk.i32_in (v - n.za) (by omega)) <| .c oz3 <| .n)).weak (WeakL.refl _) (Weak.int (show ((heldQ (v - n.za) n.qm n.qs n.qz n.lo n.hi) : Int) = (oneN v n) from (by rfl)))
end Go.Proofs.Ytgecmooedhnenaa

/- Arrays of truth values compared. No condition. (Theorems over any program.) -/
namespace Go.Proofs.Ytgecmooedhnenaa
open Go.RowKit
set_option linter.unusedSimpArgs false
set_option linter.unusedVariables false
set_option linter.unnecessarySimpa false

def eqBs : List (Bool × Bool) → Bool
  | [] => true
  | (a, b) :: l => (a == b) && eqBs l
def blsA (l : List (Bool × Bool)) : Value := .agg (l.map fun q => Value.bool q.1).toArray
def blsB (l : List (Bool × Bool)) : Value := .agg (l.map fun q => Value.bool q.2).toArray
theorem eqItems_bls {P : Program} {d : Nat} {e : TypeId} {xs ys : Array Value} (w : World) (hu : P.underlying e = some .bool) : ∀ {l : List (Bool × Bool)} {off : Nat},
    (∀ (i : Nat) (q : Bool × Bool), l[i]? = some q → xs[off + i]? = some (.bool q.1) ∧ ys[off + i]? = some (.bool q.2)) →
    (Op.eqItems (d + 1) e 1 xs ys (List.range' off l.length)).run P w = .ok (eqBs l) w
  | [], off, _ => by simp [Op.eqItems, eqBs]
  | (a, b) :: l, off, h => by
    obtain ⟨h2, h3⟩ := h 0 (a, b) rfl
    rw [Nat.add_zero] at h2 h3
    have hp : ∀ (zs : Array Value) c, zs[off]? = some c → (part e zs (off * 1)).run P w = .ok c w := by
      intro zs c hc
      simp [part, isAgg, run_underlying hu, hc]
    have ih := eqItems_bls (d := d) (xs := xs) (ys := ys) w hu (l := l) (off := off + 1) fun i q hq => by
      have := h (i + 1) q (by simpa using hq)
      rw [show off + 1 + i = off + (i + 1) by omega]; exact this
    rw [List.length_cons, List.range'_succ, Op.eqItems]
    have hb : (Op.equalIn (d + 1) e (Value.bool a) (Value.bool b)).run P w = .ok (a == b) w := run_equalIn_bool w d e a b hu
    simp only [Sem.run_bind, hp _ _ h2, hp _ _ h3, Result.andThen_ok, hb]
    rw [eqBs]
    cases hab : (a == b) <;> simp [ih]
def arrOkB (P : Program) (t : TypeId) (m : Nat) : Bool := match P.underlying t with
  | some (.array n e) => match P.info? e, P.underlying e with
    | some _, some .bool => n == m && P.cellsOf e == 1
    | _, _ => false
  | _ => false
theorem bin_arrB {P : Program} {t : TypeId} {l : List (Bool × Bool)} (hg : P.eqGuardType P.depth t = false) (hk : arrOkB P t l.length = true) (x y : Operand) :
    BinTo P .eql t x y (blsA l) (blsB l) (.bool (eqBs l)) ∧ BinTo P .neq t x y (blsA l) (blsB l) (.bool (!eqBs l)) := by
  unfold arrOkB at hk
  split at hk
  · rename_i n e ht
    split at hk
    · rename_i i hi hu
      simp only [Bool.and_eq_true, beq_iff_eq] at hk
      obtain ⟨hn, hc⟩ := hk
      have hr : ∀ w, (Op.equalIn 10000 t (blsA l) (blsB l)).run P w = .ok (eqBs l) w := by
        intro w
        rw [blsA, blsB, run_equalIn_array w 9999 _ _ ht hi, hc, hn, List.range_eq_range']
        refine eqItems_bls w hu (d := 9998) (off := 0) fun i q hq => ⟨?_, ?_⟩
        · simp [hq]
        · simp [hq]
      constructor
      · intro w; rw [Sem.run_bind, blsA, blsB, run_eqGuard_agg w _ _ _ _ _ _ hg, Result.andThen_ok, run_eql_struct, ← blsA, ← blsB, hr]; rfl
      · intro w; rw [Sem.run_bind, blsA, blsB, run_eqGuard_agg w _ _ _ _ _ _ hg, Result.andThen_ok, run_neq_struct, ← blsA, ← blsB, hr]; rfl
    · cases hk
  · cases hk
end Go.Proofs.Ytgecmooedhnenaa

/- Which nodes of a block are in order, and used, by the program and by the document. No condition. -/
namespace Go.Proofs.Ytgecmooedhnenaa
open Go.RowKit
set_option linter.unusedSimpArgs false
set_option linter.unusedVariables false
set_option linter.unnecessarySimpa false

set_option maxRecDepth 100000 in
set_option maxHeartbeats 2000000 in
theorem pvalues_v (n : Nod)  : VC Try.prog 84 ([nod n]) (ints .i64 (takesL n)) := by
  rcases Bool.eq_false_or_eq_true (n.kd == 6) with hc0 | hc0
  · have gc0 : n.kd = 6 := bet hc0
    exact (VC.run (fn := Try.f84) (W := [.r [] [], .r [] [], .br true, .r [] []]) (r := AV.sl 1 [[i64 n.na], [i64 n.nb]]) Try.func84 (by kernel_rfl) (.c hc0 <| .n)).weak (WeakL.refl _) (Weak.rows (rows_to (row1 IntKind.i64) (r := [[i64 n.na], [i64 n.nb]]) (l := [n.na, n.nb]) (m := takesL n) (by first | (simp only [List.map_append, List.map_cons, List.map_nil, List.map_set, List.map_replicate, List.map_take, List.map_drop]; done) | rfl | (simp only [List.map_append, List.map_cons, List.map_nil, List.map_set, List.map_replicate, List.map_take, List.map_drop]; rfl)) (show ([n.na, n.nb]) = (takesL n) from (by (unfold takesL; rw [if_pos (by simp_all)])))))
  · have gc0 : ¬n.kd = 6 := bef hc0
    exact (VC.run (fn := Try.f84) (W := [.r [] [], .r [] [], .br false, .r [] []]) (r := AV.sl 1 [[i64 n.na]]) Try.func84 (by kernel_rfl) (.c hc0 <| .n)).weak (WeakL.refl _) (Weak.rows (rows_to (row1 IntKind.i64) (r := [[i64 n.na]]) (l := [n.na]) (m := takesL n) (by first | (simp only [List.map_append, List.map_cons, List.map_nil, List.map_set, List.map_replicate, List.map_take, List.map_drop]; done) | rfl | (simp only [List.map_append, List.map_cons, List.map_nil, List.map_set, List.map_replicate, List.map_take, List.map_drop]; rfl)) (show ([n.na]) = (takesL n) from (by (unfold takesL; rw [if_neg (by simp_all)])))))
theorem takes_in (n : Nod) (m : Int) : (∀ k, k < (takesL n).length → 0 ≤ (takesL n).getD k 0 ∧ (takesL n).getD k 0 < m) ↔ thereB n m = true := by
  rw [← takes_there]; simp only [decide_eq_true_eq]
noncomputable def pord_iy_I (l : List Nod) (u : Nat) (L : List Int) (k : Nat) : VS := stt 30 [(3, i64 u), (7, .sl 19 (l.map nodC)), (8, i64 l.length), (9, i64 u), (15, ints .i64 L), (16, i64 L.length), (17, i64 k)] []
noncomputable def pord_iy_Z (l : List Nod) (u : Nat) (L : List Int) : VS := pord_iy_I l u L (L.length)
set_option maxRecDepth 100000 in
set_option maxHeartbeats 2000000 in
theorem pord_iy_s (l : List Nod) (u : Nat) (L : List Int) (hl : L.length ≤ 2) (h : ∀ k, k < L.length → 0 ≤ L.getD k 0 ∧ L.getD k 0 < (u : Int) + 1) (k : Nat) (hk : k < L.length) : VT Try.prog (fnC Try.f80 [1, 0, 1, 0, 0, 1, 1, 0, 0, 1, 1, 0, 0]) (pord_iy_I l u L k) .normal (pord_iy_I l u L (k + 1)) := by
  have q := h k hk
  have oz3 := (decide_eq_false (p := (L.getD k 0 < 0)) (by omega))
  exact VT.run (W := [.r [] [], .br true, .r [] [.row [i64 (L.getD k 0)]], .r [] [.br true, .br true, .br true, .br false], .br false, .r [] [.n ((↑k : Int) + 1)]]) (G := [.any (rg [(6, 1), (18, 11)]), .weak 17 (i64 (↑(k + 1) : Int)), .sort]) (by kernel_rfl) (.c (decide_eq_true (p := ((↑k : Int) < (↑L.length : Int))) (by omega)) <| .c (show 0 ≤ (↑k : Int) by omega) <| .c (map_at (row1 IntKind.i64) (0) (l := L) (i := k) hk) <| .c oz3 <| .c oz3 <| .c oz3 <| .c oz3 <| .c (decide_eq_false (p := (L.getD k 0 > (↑u : Int))) (by omega)) <| .c (IntWalk.i64_in ((↑k : Int) + 1) (by omega)) <| .c (Weak.int (k := .i64) (show (((↑k : Int) + 1) : Int) = ((↑(k + 1) : Int)) from (by omega))) <| .n)
set_option maxRecDepth 100000 in
set_option maxHeartbeats 2000000 in
theorem pord_iy_e (l : List Nod) (u : Nat) (L : List Int) (hl : L.length ≤ 2) (h : ∀ k, k < L.length → 0 ≤ L.getD k 0 ∧ L.getD k 0 < (u : Int) + 1) : VT Try.prog (fnC Try.f80 [1, 0, 1, 0, 0, 1, 1, 0, 0, 1, 1, 0, 0]) (pord_iy_I l u L (L.length)) (.exit 2) (pord_iy_Z l u L) := by
  exact VT.run (W := [.r [] [], .br false]) (G := [.any [18], .sort]) (by kernel_rfl) (.c (decide_eq_false (p := ((↑L.length : Int) < (↑L.length : Int))) (by omega)) <| .n)
theorem pord_iy (l : List Nod) (u : Nat) (L : List Int) (hl : L.length ≤ 2) (h : ∀ k, k < L.length → 0 ≤ L.getD k 0 ∧ L.getD k 0 < (u : Int) + 1) : VT Try.prog (fnC Try.f80 [1, 0, 1, 0, 0, 1, 1, 0, 0, 1, 1, 0]) (pord_iy_I l u L 0) (.exit 2) (pord_iy_Z l u L) :=
  VT.loop (fun k => pord_iy_I l u L k) (L.length) (fun k hk => pord_iy_s l u L hl h k hk) (pord_iy_e l u L hl h) (by intro h; cases h)

noncomputable def pord_in_I (l : List Nod) (u : Nat) (L : List Int) (j : Nat) (k : Nat) : VS := stt 30 [(3, i64 u), (7, .sl 19 (l.map nodC)), (8, i64 l.length), (9, i64 u), (15, ints .i64 L), (16, i64 L.length), (17, i64 k)] []
noncomputable def pord_in_Z (l : List Nod) (u : Nat) (L : List Int) (j : Nat) : VS := stt 30 [(2, bv false)] []
set_option maxRecDepth 100000 in
set_option maxHeartbeats 2000000 in
theorem pord_in_s (l : List Nod) (u : Nat) (L : List Int) (j : Nat) (hl : L.length ≤ 2) (hj : j < L.length) (hf : ¬ (0 ≤ L.getD j 0 ∧ L.getD j 0 < (u : Int) + 1)) (h : ∀ k, k < j → 0 ≤ L.getD k 0 ∧ L.getD k 0 < (u : Int) + 1) (k : Nat) (hk : k < j) : VT Try.prog (fnC Try.f80 [1, 0, 1, 0, 0, 1, 1, 0, 0, 1, 1, 0, 0]) (pord_in_I l u L j k) .normal (pord_in_I l u L j (k + 1)) := by
  have q := h k hk
  have oz3 := (decide_eq_false (p := (L.getD k 0 < 0)) (by omega))
  exact VT.run (W := [.r [] [], .br true, .r [] [.row [i64 (L.getD k 0)]], .r [] [.br true, .br true, .br true, .br false], .br false, .r [] [.n ((↑k : Int) + 1)]]) (G := [.any (rg [(6, 1), (18, 11)]), .weak 17 (i64 (↑(k + 1) : Int)), .sort]) (by kernel_rfl) (.c (decide_eq_true (p := ((↑k : Int) < (↑L.length : Int))) (by omega)) <| .c (show 0 ≤ (↑k : Int) by omega) <| .c (map_at (row1 IntKind.i64) (0) (l := L) (i := k) (by omega)) <| .c oz3 <| .c oz3 <| .c oz3 <| .c oz3 <| .c (decide_eq_false (p := (L.getD k 0 > (↑u : Int))) (by omega)) <| .c (IntWalk.i64_in ((↑k : Int) + 1) (by omega)) <| .c (Weak.int (k := .i64) (show (((↑k : Int) + 1) : Int) = ((↑(k + 1) : Int)) from (by omega))) <| .n)
set_option maxRecDepth 100000 in
set_option maxHeartbeats 2000000 in
theorem pord_in_e (l : List Nod) (u : Nat) (L : List Int) (j : Nat) (hl : L.length ≤ 2) (hj : j < L.length) (hf : ¬ (0 ≤ L.getD j 0 ∧ L.getD j 0 < (u : Int) + 1)) (h : ∀ k, k < j → 0 ≤ L.getD k 0 ∧ L.getD k 0 < (u : Int) + 1) : VT Try.prog (fnC Try.f80 [1, 0, 1, 0, 0, 1, 1, 0, 0, 1, 1, 0, 0]) (pord_in_I l u L j (j)) (.ret) (pord_in_Z l u L j) := by
  exact VT.run (W := [.r [] [], .br true, .r [] [.row [i64 (L.getD j 0)]], .r [] [.op false, .op false, .op false, .sel 1], .br true, .r [] []]) (G := [.any (rg [(3, 1), (6, 4), (15, 9), (27, 1)]), .sort]) (by kernel_rfl) (.c (decide_eq_true (p := ((↑j : Int) < (↑L.length : Int))) (by omega)) <| .c (show 0 ≤ (↑j : Int) by omega) <| .c (map_at (row1 IntKind.i64) (0) (l := L) (i := j) hj) <| .c (show (decide (L.getD j 0 < 0) || decide (L.getD j 0 > (↑u : Int))) = true by (simp at *; omega)) <| .n)
theorem pord_in (l : List Nod) (u : Nat) (L : List Int) (j : Nat) (hl : L.length ≤ 2) (hj : j < L.length) (hf : ¬ (0 ≤ L.getD j 0 ∧ L.getD j 0 < (u : Int) + 1)) (h : ∀ k, k < j → 0 ≤ L.getD k 0 ∧ L.getD k 0 < (u : Int) + 1) : VT Try.prog (fnC Try.f80 [1, 0, 1, 0, 0, 1, 1, 0, 0, 1, 1, 0]) (pord_in_I l u L j 0) (.ret) (pord_in_Z l u L j) :=
  VT.loop (fun k => pord_in_I l u L j k) (j) (fun k hk => pord_in_s l u L j hl hj hf h k hk) (pord_in_e l u L j hl hj hf h) (by intro h; cases h)

noncomputable def pord_oy_I (l : List Nod) (k : Nat) : VS := stt 30 [(7, .sl 19 (l.map nodC)), (8, i64 l.length), (9, i64 k)] []
noncomputable def pord_oy_Z (l : List Nod) : VS := pord_oy_I l (l.length)
set_option maxRecDepth 100000 in
set_option maxHeartbeats 2000000 in
theorem pord_oy_s (l : List Nod) (hl : l.length ≤ 1000) (h : ∀ k : Nat, k < l.length → thereB (l.getD k default) ((k : Int) + 1) = true) (k : Nat) (hk : k < l.length) : VT Try.prog (fnC Try.f80 [1, 0, 1, 0, 0]) (pord_oy_I l k) .normal (pord_oy_I l (k + 1)) := by
  have q := (takes_in _ _).2 (h k hk)
  have q2 := takes_len (l.getD k default)
  have oz2 := (map_at (nodC) (default) (l := l) (i := k) hk)
  have oz3 := @pvalues_v (l.getD k default)
  have oz4 := (Weak.int (k := .i64) (show (((↑(List.map (row1 IntKind.i64) (takesL (l.getD k default))).length : Int)) : Int) = ((↑(takesL (l.getD k default)).length : Int)) from (by (simp; done))))
  have oz6 := @pord_iy (l) (k) (takesL (l.getD k default)) (by omega) q
  exact VT.run (W := [.r [] [], .br true, .r [] [.row (sO oz2)], .r [] [.callr (rO oz3)], .code [.any (rg [(4, 1), (10, 5)]), .drop [4], .weak 16 (wO oz4), .weak 17 (i64 (↑0 : Int)), .sort] (Exit.exit 2) (zO oz6), .r [] [.n ((↑k : Int) + 1)]]) (G := [.any [3, 15, 16, 17, 29], .weak 9 (i64 (↑(k + 1) : Int)), .sort]) (by kernel_rfl) (.c (decide_eq_true (p := ((↑k : Int) < (↑l.length : Int))) (by omega)) <| .c (show 0 ≤ (↑k : Int) by omega) <| .c oz2 <| .c oz3 <| .c oz4 <| .c (Weak.int (k := .i64) (show ((0) : Int) = ((↑0 : Int)) from (by omega))) <| .c oz6 <| .c (IntWalk.i64_in ((↑k : Int) + 1) (by omega)) <| .c (Weak.int (k := .i64) (show (((↑k : Int) + 1) : Int) = ((↑(k + 1) : Int)) from (by omega))) <| .n)
set_option maxRecDepth 100000 in
set_option maxHeartbeats 2000000 in
theorem pord_oy_e (l : List Nod) (hl : l.length ≤ 1000) (h : ∀ k : Nat, k < l.length → thereB (l.getD k default) ((k : Int) + 1) = true) : VT Try.prog (fnC Try.f80 [1, 0, 1, 0, 0]) (pord_oy_I l (l.length)) (.exit 0) (pord_oy_Z l) := by
  exact VT.run (W := [.r [] [], .br false]) (G := [.any [10], .sort]) (by kernel_rfl) (.c (decide_eq_false (p := ((↑l.length : Int) < (↑l.length : Int))) (by omega)) <| .n)
theorem pord_oy (l : List Nod) (hl : l.length ≤ 1000) (h : ∀ k : Nat, k < l.length → thereB (l.getD k default) ((k : Int) + 1) = true) : VT Try.prog (fnC Try.f80 [1, 0, 1, 0]) (pord_oy_I l 0) (.exit 0) (pord_oy_Z l) :=
  VT.loop (fun k => pord_oy_I l k) (l.length) (fun k hk => pord_oy_s l hl h k hk) (pord_oy_e l hl h) (by intro h; cases h)

noncomputable def pord_on_I (l : List Nod) (m i : Nat) (k : Nat) : VS := stt 30 [(7, .sl 19 (l.map nodC)), (8, i64 l.length), (9, i64 k)] []
noncomputable def pord_on_Z (l : List Nod) (m i : Nat) : VS := stt 30 [(2, bv false)] []
set_option maxRecDepth 100000 in
set_option maxHeartbeats 2000000 in
theorem pord_on_s (l : List Nod) (m i : Nat) (hl : l.length ≤ 1000) (hm : m < l.length) (hj : i < (takesL (l.getD m default)).length) (hf : ¬ (0 ≤ (takesL (l.getD m default)).getD i 0 ∧ (takesL (l.getD m default)).getD i 0 < (m : Int) + 1)) (hi : ∀ k, k < i → 0 ≤ (takesL (l.getD m default)).getD k 0 ∧ (takesL (l.getD m default)).getD k 0 < (m : Int) + 1) (h : ∀ k : Nat, k < m → thereB (l.getD k default) ((k : Int) + 1) = true) (k : Nat) (hk : k < m) : VT Try.prog (fnC Try.f80 [1, 0, 1, 0, 0]) (pord_on_I l m i k) .normal (pord_on_I l m i (k + 1)) := by
  have q := (takes_in _ _).2 (h k hk)
  have q2 := takes_len (l.getD k default)
  have q3 : k < l.length := by omega
  have oz2 := (map_at (nodC) (default) (l := l) (i := k) q3)
  have oz3 := @pvalues_v (l.getD k default)
  have oz4 := (Weak.int (k := .i64) (show (((↑(List.map (row1 IntKind.i64) (takesL (l.getD k default))).length : Int)) : Int) = ((↑(takesL (l.getD k default)).length : Int)) from (by (simp; done))))
  have oz6 := @pord_iy (l) (k) (takesL (l.getD k default)) (by omega) q
  exact VT.run (W := [.r [] [], .br true, .r [] [.row (sO oz2)], .r [] [.callr (rO oz3)], .code [.any (rg [(4, 1), (10, 5)]), .drop [4], .weak 16 (wO oz4), .weak 17 (i64 (↑0 : Int)), .sort] (Exit.exit 2) (zO oz6), .r [] [.n ((↑k : Int) + 1)]]) (G := [.any [3, 15, 16, 17, 29], .weak 9 (i64 (↑(k + 1) : Int)), .sort]) (by kernel_rfl) (.c (decide_eq_true (p := ((↑k : Int) < (↑l.length : Int))) (by omega)) <| .c (show 0 ≤ (↑k : Int) by omega) <| .c oz2 <| .c oz3 <| .c oz4 <| .c (Weak.int (k := .i64) (show ((0) : Int) = ((↑0 : Int)) from (by omega))) <| .c oz6 <| .c (IntWalk.i64_in ((↑k : Int) + 1) (by omega)) <| .c (Weak.int (k := .i64) (show (((↑k : Int) + 1) : Int) = ((↑(k + 1) : Int)) from (by omega))) <| .n)
set_option maxRecDepth 100000 in
set_option maxHeartbeats 2000000 in
theorem pord_on_e (l : List Nod) (m i : Nat) (hl : l.length ≤ 1000) (hm : m < l.length) (hj : i < (takesL (l.getD m default)).length) (hf : ¬ (0 ≤ (takesL (l.getD m default)).getD i 0 ∧ (takesL (l.getD m default)).getD i 0 < (m : Int) + 1)) (hi : ∀ k, k < i → 0 ≤ (takesL (l.getD m default)).getD k 0 ∧ (takesL (l.getD m default)).getD k 0 < (m : Int) + 1) (h : ∀ k : Nat, k < m → thereB (l.getD k default) ((k : Int) + 1) = true) : VT Try.prog (fnC Try.f80 [1, 0, 1, 0, 0]) (pord_on_I l m i (m)) (.ret) (pord_on_Z l m i) := by
  have q2 := takes_len (l.getD m default)
  have oz2 := (map_at (nodC) (default) (l := l) (i := m) hm)
  have oz3 := @pvalues_v (l.getD m default)
  have oz4 := (Weak.int (k := .i64) (show (((↑(List.map (row1 IntKind.i64) (takesL (l.getD m default))).length : Int)) : Int) = ((↑(takesL (l.getD m default)).length : Int)) from (by (simp; done))))
  have oz6 := @pord_in (l) (m) (takesL (l.getD m default)) (i) (by omega) hj hf hi
  exact VT.run (W := [.r [] [], .br true, .r [] [.row (sO oz2)], .r [] [.callr (rO oz3)], .code [.any (rg [(4, 1), (10, 5)]), .drop [4], .weak 16 (wO oz4), .weak 17 (i64 (↑0 : Int)), .sort] (Exit.ret) (zO oz6)]) (G := [.sort]) (by kernel_rfl) (.c (decide_eq_true (p := ((↑m : Int) < (↑l.length : Int))) (by omega)) <| .c (show 0 ≤ (↑m : Int) by omega) <| .c oz2 <| .c oz3 <| .c oz4 <| .c (Weak.int (k := .i64) (show ((0) : Int) = ((↑0 : Int)) from (by omega))) <| .c oz6 <| .n)
theorem pord_on (l : List Nod) (m i : Nat) (hl : l.length ≤ 1000) (hm : m < l.length) (hj : i < (takesL (l.getD m default)).length) (hf : ¬ (0 ≤ (takesL (l.getD m default)).getD i 0 ∧ (takesL (l.getD m default)).getD i 0 < (m : Int) + 1)) (hi : ∀ k, k < i → 0 ≤ (takesL (l.getD m default)).getD k 0 ∧ (takesL (l.getD m default)).getD k 0 < (m : Int) + 1) (h : ∀ k : Nat, k < m → thereB (l.getD k default) ((k : Int) + 1) = true) : VT Try.prog (fnC Try.f80 [1, 0, 1, 0]) (pord_on_I l m i 0) (.ret) (pord_on_Z l m i) :=
  VT.loop (fun k => pord_on_I l m i k) (m) (fun k hk => pord_on_s l m i hl hm hj hf hi h k hk) (pord_on_e l m i hl hm hj hf hi h) (by intro h; cases h)

set_option maxRecDepth 100000 in
set_option maxHeartbeats 2000000 in
theorem pord_y (l : List Nod) (hl : l.length ≤ 1000) (h : ∀ k : Nat, k < l.length → thereB (l.getD k default) ((k : Int) + 1) = true) : VC Try.prog 80 ([.sl 19 (l.map nodC)]) (bv true) := by
  have oz2 := @pord_oy (l) hl h
  exact VC.run (fn := Try.f80) (W := [.r [] [], .r [] [], .code [.any [0, 2], .weak 8 (i64 (↑l.length : Int)), .weak 9 (i64 (↑0 : Int)), .sort] (Exit.exit 0) (zO oz2), .r [] []]) Try.func80 (by kernel_rfl) (.c (Weak.int (k := .i64) (show (((↑(List.map nodC l).length : Int)) : Int) = ((↑l.length : Int)) from (by (simp; done)))) <| .c (Weak.int (k := .i64) (show ((0) : Int) = ((↑0 : Int)) from (by omega))) <| .c oz2 <| .n)

set_option maxRecDepth 100000 in
set_option maxHeartbeats 2000000 in
theorem pord_n (l : List Nod) (m i : Nat) (hl : l.length ≤ 1000) (hm : m < l.length) (hj : i < (takesL (l.getD m default)).length) (hf : ¬ (0 ≤ (takesL (l.getD m default)).getD i 0 ∧ (takesL (l.getD m default)).getD i 0 < (m : Int) + 1)) (hi : ∀ k, k < i → 0 ≤ (takesL (l.getD m default)).getD k 0 ∧ (takesL (l.getD m default)).getD k 0 < (m : Int) + 1) (h : ∀ k : Nat, k < m → thereB (l.getD k default) ((k : Int) + 1) = true) : VC Try.prog 80 ([.sl 19 (l.map nodC)]) (bv false) := by
  have oz2 := @pord_on (l) (m) (i) hl hm hj hf hi h
  exact VC.run (fn := Try.f80) (W := [.r [] [], .r [] [], .code [.any [0, 2], .weak 8 (i64 (↑l.length : Int)), .weak 9 (i64 (↑0 : Int)), .sort] (Exit.ret) (zO oz2)]) Try.func80 (by kernel_rfl) (.c (Weak.int (k := .i64) (show (((↑(List.map nodC l).length : Int)) : Int) = ((↑l.length : Int)) from (by (simp; done)))) <| .c (Weak.int (k := .i64) (show ((0) : Int) = ((↑0 : Int)) from (by omega))) <| .c oz2 <| .n)
theorem ordered_iff (l : List Nod) : orderedB l = true ↔ ∀ k : Nat, k < l.length → thereB (l.getD k default) ((k : Int) + 1) = true := by
  unfold orderedB; rw [List.all_eq_true]; simp only [List.mem_range]
theorem pord_v (l : List Nod) (hl : l.length ≤ 1000) : VC Try.prog 80 [.sl 19 (l.map nodC)] (bv (orderedB l)) := by
  rcases all_or (fun k => thereB (l.getD k default) ((k : Int) + 1)) l.length with h | ⟨m, h1, h2, h3⟩
  · rw [(ordered_iff l).2 h]; exact pord_y l hl h
  · have : orderedB l = false := by
      cases e : orderedB l with
      | false => rfl
      | true => have := (ordered_iff l).1 e m h1; rw [h2] at this; cases this
    rw [this]
    rcases all_or (fun k => decide (0 ≤ (takesL (l.getD m default)).getD k 0 ∧ (takesL (l.getD m default)).getD k 0 < (m : Int) + 1)) (takesL (l.getD m default)).length with g | ⟨i, g1, g2, g3⟩
    · have := (takes_there (l.getD m default) ((m : Int) + 1)).1 g; rw [h2] at this; cases this
    · exact pord_n l m i hl h1 g1 (of_decide_eq_false g2) (fun k hk => of_decide_eq_true (g3 k hk)) h3
noncomputable def rord_ly_I (l : List Nod) (k : Nat) : VS := stt 18 [(0, .sl 19 (l.map nodC)), (3, i64 k)] []
noncomputable def rord_ly_Z (l : List Nod) : VS := rord_ly_I l (l.length)
set_option maxRecDepth 100000 in
set_option maxHeartbeats 2000000 in
theorem rord_ly_s (l : List Nod) (hl : l.length ≤ 1000) (h : ∀ k : Nat, k < l.length → thereB (l.getD k default) ((k : Int) + 1) = true) (k : Nat) (hk : k < l.length) : VT Try.prog (fnC Try.f82 [1, 0, 1, 0, 0]) (rord_ly_I l k) .normal (rord_ly_I l (k + 1)) := by
  have q := h k hk
  have oz2 := (map_at (nodC) (default) (l := l) (i := k) hk)
  have oz3 := (IntWalk.i64_in ((↑k : Int) + 1) (by omega))
  have oz4 := @refThere_v (l.getD k default) ((↑k : Int) + 1)
  exact VT.run (W := [.r [] [], .br true, .r [] [.row (sO oz2), .n (nO oz3), .callr (rO oz4)], .br false, .r [] [.n (nO oz3)]]) (G := [.any (rg [(4, 14)]), .weak 3 (i64 (↑(k + 1) : Int)), .sort]) (by kernel_rfl) (.c (show decide ((↑k : Int) < (↑(List.map nodC l).length : Int)) = true by (simp; omega)) <| .c (show 0 ≤ (↑k : Int) by omega) <| .c oz2 <| .c oz3 <| .c oz4 <| .c (show (!thereB (l.getD k default) ((↑k : Int) + 1)) = false by (simp at *; omega)) <| .c oz3 <| .c (Weak.int (k := .i64) (show (((↑k : Int) + 1) : Int) = ((↑(k + 1) : Int)) from (by omega))) <| .n)
set_option maxRecDepth 100000 in
set_option maxHeartbeats 2000000 in
theorem rord_ly_e (l : List Nod) (hl : l.length ≤ 1000) (h : ∀ k : Nat, k < l.length → thereB (l.getD k default) ((k : Int) + 1) = true) : VT Try.prog (fnC Try.f82 [1, 0, 1, 0, 0]) (rord_ly_I l (l.length)) (.exit 0) (rord_ly_Z l) := by
  exact VT.run (W := [.r [] [], .br false]) (G := [.any [4, 5, 6, 7], .sort]) (by kernel_rfl) (.c (show decide ((↑l.length : Int) < (↑(List.map nodC l).length : Int)) = false by (simp; done)) <| .n)
theorem rord_ly (l : List Nod) (hl : l.length ≤ 1000) (h : ∀ k : Nat, k < l.length → thereB (l.getD k default) ((k : Int) + 1) = true) : VT Try.prog (fnC Try.f82 [1, 0, 1, 0]) (rord_ly_I l 0) (.exit 0) (rord_ly_Z l) :=
  VT.loop (fun k => rord_ly_I l k) (l.length) (fun k hk => rord_ly_s l hl h k hk) (rord_ly_e l hl h) (by intro h; cases h)

noncomputable def rord_ln_I (l : List Nod) (m : Nat) (k : Nat) : VS := stt 18 [(0, .sl 19 (l.map nodC)), (3, i64 k)] []
noncomputable def rord_ln_Z (l : List Nod) (m : Nat) : VS := stt 18 [(2, bv false)] []
set_option maxRecDepth 100000 in
set_option maxHeartbeats 2000000 in
theorem rord_ln_s (l : List Nod) (m : Nat) (hl : l.length ≤ 1000) (hm : m < l.length) (hf : thereB (l.getD m default) ((m : Int) + 1) = false) (h : ∀ k : Nat, k < m → thereB (l.getD k default) ((k : Int) + 1) = true) (k : Nat) (hk : k < m) : VT Try.prog (fnC Try.f82 [1, 0, 1, 0, 0]) (rord_ln_I l m k) .normal (rord_ln_I l m (k + 1)) := by
  have q := h k hk
  have oz2 := (map_at (nodC) (default) (l := l) (i := k) (by omega))
  have oz3 := (IntWalk.i64_in ((↑k : Int) + 1) (by omega))
  have oz4 := @refThere_v (l.getD k default) ((↑k : Int) + 1)
  exact VT.run (W := [.r [] [], .br true, .r [] [.row (sO oz2), .n (nO oz3), .callr (rO oz4)], .br false, .r [] [.n (nO oz3)]]) (G := [.any (rg [(4, 14)]), .weak 3 (i64 (↑(k + 1) : Int)), .sort]) (by kernel_rfl) (.c (show decide ((↑k : Int) < (↑(List.map nodC l).length : Int)) = true by (simp; omega)) <| .c (show 0 ≤ (↑k : Int) by omega) <| .c oz2 <| .c oz3 <| .c oz4 <| .c (show (!thereB (l.getD k default) ((↑k : Int) + 1)) = false by (simp at *; omega)) <| .c oz3 <| .c (Weak.int (k := .i64) (show (((↑k : Int) + 1) : Int) = ((↑(k + 1) : Int)) from (by omega))) <| .n)
set_option maxRecDepth 100000 in
set_option maxHeartbeats 2000000 in
theorem rord_ln_e (l : List Nod) (m : Nat) (hl : l.length ≤ 1000) (hm : m < l.length) (hf : thereB (l.getD m default) ((m : Int) + 1) = false) (h : ∀ k : Nat, k < m → thereB (l.getD k default) ((k : Int) + 1) = true) : VT Try.prog (fnC Try.f82 [1, 0, 1, 0, 0]) (rord_ln_I l m (m)) (.ret) (rord_ln_Z l m) := by
  have oz2 := (map_at (nodC) (default) (l := l) (i := m) hm)
  have oz4 := @refThere_v (l.getD m default) ((↑m : Int) + 1)
  exact VT.run (W := [.r [] [], .br true, .r [] [.row (sO oz2), .n ((↑m : Int) + 1), .callr (rO oz4)], .br true, .r [] []]) (G := [.any (rg [(0, 1), (3, 5), (10, 8)]), .sort]) (by kernel_rfl) (.c (show decide ((↑m : Int) < (↑(List.map nodC l).length : Int)) = true by (simp; omega)) <| .c (show 0 ≤ (↑m : Int) by omega) <| .c oz2 <| .c (IntWalk.i64_in ((↑m : Int) + 1) (by omega)) <| .c oz4 <| .c (show (!thereB (l.getD m default) ((↑m : Int) + 1)) = true by (simp at *; omega)) <| .n)
theorem rord_ln (l : List Nod) (m : Nat) (hl : l.length ≤ 1000) (hm : m < l.length) (hf : thereB (l.getD m default) ((m : Int) + 1) = false) (h : ∀ k : Nat, k < m → thereB (l.getD k default) ((k : Int) + 1) = true) : VT Try.prog (fnC Try.f82 [1, 0, 1, 0]) (rord_ln_I l m 0) (.ret) (rord_ln_Z l m) :=
  VT.loop (fun k => rord_ln_I l m k) (m) (fun k hk => rord_ln_s l m hl hm hf h k hk) (rord_ln_e l m hl hm hf h) (by intro h; cases h)

set_option maxRecDepth 100000 in
set_option maxHeartbeats 2000000 in
theorem rord_y (l : List Nod) (hl : l.length ≤ 1000) (h : ∀ k : Nat, k < l.length → thereB (l.getD k default) ((k : Int) + 1) = true) : VC Try.prog 82 ([.sl 19 (l.map nodC)]) (bv true) := by
  have oz1 := @rord_ly (l) hl h
  exact VC.run (fn := Try.f82) (W := [.r [] [], .r [] [], .code [.any [2], .weak 3 (i64 (↑0 : Int)), .sort] (Exit.exit 0) (zO oz1), .r [] []]) Try.func82 (by kernel_rfl) (.c (Weak.int (k := .i64) (show ((0) : Int) = ((↑0 : Int)) from (by omega))) <| .c oz1 <| .n)

set_option maxRecDepth 100000 in
set_option maxHeartbeats 2000000 in
theorem rord_n (l : List Nod) (m : Nat) (hl : l.length ≤ 1000) (hm : m < l.length) (hf : thereB (l.getD m default) ((m : Int) + 1) = false) (h : ∀ k : Nat, k < m → thereB (l.getD k default) ((k : Int) + 1) = true) : VC Try.prog 82 ([.sl 19 (l.map nodC)]) (bv false) := by
  have oz1 := @rord_ln (l) (m) hl hm hf h
  exact VC.run (fn := Try.f82) (W := [.r [] [], .r [] [], .code [.any [2], .weak 3 (i64 (↑0 : Int)), .sort] (Exit.ret) (zO oz1)]) Try.func82 (by kernel_rfl) (.c (Weak.int (k := .i64) (show ((0) : Int) = ((↑0 : Int)) from (by omega))) <| .c oz1 <| .n)
theorem rord_v (l : List Nod) (hl : l.length ≤ 1000) : VC Try.prog 82 [.sl 19 (l.map nodC)] (bv (orderedB l)) := by
  rcases all_or (fun k => thereB (l.getD k default) ((k : Int) + 1)) l.length with h | ⟨m, h1, h2, h3⟩
  · rw [(ordered_iff l).2 h]; exact rord_y l hl h
  · have : orderedB l = false := by
      cases e : orderedB l with
      | false => rfl
      | true => have := (ordered_iff l).1 e m h1; rw [h2] at this; cases this
    rw [this]; exact rord_n l m hl h1 h2 h3
set_option maxRecDepth 100000 in
set_option maxHeartbeats 2000000 in
theorem rtakes_v (n : Nod) (v : Int)  : VC Try.prog 146 ([nod n, i64 v]) (bv (takesB n v)) := by
  exact (VC.run (fn := Try.f146) (W := [.r [] [], .r [] [.op false, .op false, .op false, .op false, .op false, .op false, .op false, .op false, .op false, .sel 2, .sel 1]]) (r := bv (n.na == v || n.kd == 6 && n.nb == v)) Try.func146 (by kernel_rfl) (.n)).weak (WeakL.refl _) (Weak.bool (show ((n.na == v || n.kd == 6 && n.nb == v) : Bool) = (takesB n v) from (by (exact rfl))))

noncomputable def is_ly_I (l : List Nod) (i : Nat) (k : Nat) : VS := stt 31 [(0, .sl 19 (l.map nodC)), (1, i64 i), (5, i64 ((i + 1 + k : Nat) : Int))] []
noncomputable def is_ly_Z (l : List Nod) (i : Nat) : VS := is_ly_I l i (l.length - (i + 1))
set_option maxRecDepth 100000 in
set_option maxHeartbeats 2000000 in
theorem is_ly_s (l : List Nod) (i : Nat) (hl : l.length ≤ 1000) (hi : i < l.length) (IH : ∀ j : Nat, i < j → j < l.length → VC Try.prog 86 [.sl 19 (l.map nodC), i64 j] (bv (usedB l j))) (h : ∀ k, k < l.length - (i + 1) → (takesB (l.getD (i + 1 + k) default) ((i : Int) + 1) && usedB l (i + 1 + k)) = false) (k : Nat) (hk : k < l.length - (i + 1)) : VT Try.prog (fnC Try.f86 [1, 1, 0, 1, 0, 0]) (is_ly_I l i k) .normal (is_ly_I l i (k + 1)) := by
  have q := h k hk
  have oz2 := (map_at (nodC) (default) (l := l) (i := i + 1 + k) (by omega))
  have oz4 := @rtakes_v (l.getD (i + 1 + k) default) ((↑i : Int) + 1)
  have oz5 := @IH (i + 1 + k) (by omega) (by omega)
  exact VT.run (W := [.r [] [], .br true, .r [] [.row (sO oz2), .n ((↑i : Int) + 1), .callr (rO oz4), .op false, .op false, .op false, .callr (rO oz5), .sel 2], .br false, .r [] [.n ((↑(i + 1 + k) : Int) + 1)]]) (G := [.any (rg [(13, 14), (30, 1)]), .weak 5 (i64 (↑(i + 1 + (k + 1)) : Int)), .sort]) (by kernel_rfl) (.c (show decide ((↑(i + 1 + k) : Int) < (↑(List.map nodC l).length : Int)) = true by (simp; omega)) <| .c (show 0 ≤ (↑(i + 1 + k) : Int) by omega) <| .c oz2 <| .c (IntWalk.i64_in ((↑i : Int) + 1) (by omega)) <| .c oz4 <| .c oz5 <| .c q <| .c (IntWalk.i64_in ((↑(i + 1 + k) : Int) + 1) (by omega)) <| .c (Weak.int (k := .i64) (show (((↑(i + 1 + k) : Int) + 1) : Int) = ((↑(i + 1 + (k + 1)) : Int)) from (by omega))) <| .n)
set_option maxRecDepth 100000 in
set_option maxHeartbeats 2000000 in
theorem is_ly_e (l : List Nod) (i : Nat) (hl : l.length ≤ 1000) (hi : i < l.length) (IH : ∀ j : Nat, i < j → j < l.length → VC Try.prog 86 [.sl 19 (l.map nodC), i64 j] (bv (usedB l j))) (h : ∀ k, k < l.length - (i + 1) → (takesB (l.getD (i + 1 + k) default) ((i : Int) + 1) && usedB l (i + 1 + k)) = false) : VT Try.prog (fnC Try.f86 [1, 1, 0, 1, 0, 0]) (is_ly_I l i (l.length - (i + 1))) (.exit 0) (is_ly_Z l i) := by
  exact VT.run (W := [.r [] [], .br false]) (G := [.any (rg [(13, 4)]), .sort]) (by kernel_rfl) (.c (show decide ((↑(i + 1 + (l.length - (i + 1))) : Int) < (↑(List.map nodC l).length : Int)) = false by (simp; omega)) <| .n)
theorem is_ly (l : List Nod) (i : Nat) (hl : l.length ≤ 1000) (hi : i < l.length) (IH : ∀ j : Nat, i < j → j < l.length → VC Try.prog 86 [.sl 19 (l.map nodC), i64 j] (bv (usedB l j))) (h : ∀ k, k < l.length - (i + 1) → (takesB (l.getD (i + 1 + k) default) ((i : Int) + 1) && usedB l (i + 1 + k)) = false) : VT Try.prog (fnC Try.f86 [1, 1, 0, 1, 0]) (is_ly_I l i 0) (.exit 0) (is_ly_Z l i) :=
  VT.loop (fun k => is_ly_I l i k) (l.length - (i + 1)) (fun k hk => is_ly_s l i hl hi IH h k hk) (is_ly_e l i hl hi IH h) (by intro h; cases h)

noncomputable def is_ln_I (l : List Nod) (i m : Nat) (k : Nat) : VS := stt 31 [(0, .sl 19 (l.map nodC)), (1, i64 i), (5, i64 ((i + 1 + k : Nat) : Int))] []
noncomputable def is_ln_Z (l : List Nod) (i m : Nat) : VS := stt 31 [(4, bv true)] []
set_option maxRecDepth 100000 in
set_option maxHeartbeats 2000000 in
theorem is_ln_s (l : List Nod) (i m : Nat) (hl : l.length ≤ 1000) (hi : i < l.length) (IH : ∀ j : Nat, i < j → j < l.length → VC Try.prog 86 [.sl 19 (l.map nodC), i64 j] (bv (usedB l j))) (hm : m < l.length - (i + 1)) (hf : (takesB (l.getD (i + 1 + m) default) ((i : Int) + 1) && usedB l (i + 1 + m)) = true) (h : ∀ k, k < m → (takesB (l.getD (i + 1 + k) default) ((i : Int) + 1) && usedB l (i + 1 + k)) = false) (k : Nat) (hk : k < m) : VT Try.prog (fnC Try.f86 [1, 1, 0, 1, 0, 0]) (is_ln_I l i m k) .normal (is_ln_I l i m (k + 1)) := by
  have q := h k hk
  have oz2 := (map_at (nodC) (default) (l := l) (i := i + 1 + k) (by omega))
  have oz4 := @rtakes_v (l.getD (i + 1 + k) default) ((↑i : Int) + 1)
  have oz5 := @IH (i + 1 + k) (by omega) (by omega)
  exact VT.run (W := [.r [] [], .br true, .r [] [.row (sO oz2), .n ((↑i : Int) + 1), .callr (rO oz4), .op false, .op false, .op false, .callr (rO oz5), .sel 2], .br false, .r [] [.n ((↑(i + 1 + k) : Int) + 1)]]) (G := [.any (rg [(13, 14), (30, 1)]), .weak 5 (i64 (↑(i + 1 + (k + 1)) : Int)), .sort]) (by kernel_rfl) (.c (show decide ((↑(i + 1 + k) : Int) < (↑(List.map nodC l).length : Int)) = true by (simp; omega)) <| .c (show 0 ≤ (↑(i + 1 + k) : Int) by omega) <| .c oz2 <| .c (IntWalk.i64_in ((↑i : Int) + 1) (by omega)) <| .c oz4 <| .c oz5 <| .c q <| .c (IntWalk.i64_in ((↑(i + 1 + k) : Int) + 1) (by omega)) <| .c (Weak.int (k := .i64) (show (((↑(i + 1 + k) : Int) + 1) : Int) = ((↑(i + 1 + (k + 1)) : Int)) from (by omega))) <| .n)
set_option maxRecDepth 100000 in
set_option maxHeartbeats 2000000 in
theorem is_ln_e (l : List Nod) (i m : Nat) (hl : l.length ≤ 1000) (hi : i < l.length) (IH : ∀ j : Nat, i < j → j < l.length → VC Try.prog 86 [.sl 19 (l.map nodC), i64 j] (bv (usedB l j))) (hm : m < l.length - (i + 1)) (hf : (takesB (l.getD (i + 1 + m) default) ((i : Int) + 1) && usedB l (i + 1 + m)) = true) (h : ∀ k, k < m → (takesB (l.getD (i + 1 + k) default) ((i : Int) + 1) && usedB l (i + 1 + k)) = false) : VT Try.prog (fnC Try.f86 [1, 1, 0, 1, 0, 0]) (is_ln_I l i m (m)) (.ret) (is_ln_Z l i m) := by
  have oz2 := (map_at (nodC) (default) (l := l) (i := i + 1 + m) (by omega))
  have oz4 := @rtakes_v (l.getD (i + 1 + m) default) ((↑i : Int) + 1)
  have oz5 := @IH (i + 1 + m) (by omega) (by omega)
  exact VT.run (W := [.r [] [], .br true, .r [] [.row (sO oz2), .n ((↑i : Int) + 1), .callr (rO oz4), .op false, .op false, .op false, .callr (rO oz5), .sel 2], .br true, .r [] []]) (G := [.any (rg [(0, 2), (5, 1), (13, 4), (19, 8), (30, 1)]), .sort]) (by kernel_rfl) (.c (show decide ((↑(i + 1 + m) : Int) < (↑(List.map nodC l).length : Int)) = true by (simp; omega)) <| .c (show 0 ≤ (↑(i + 1 + m) : Int) by omega) <| .c oz2 <| .c (IntWalk.i64_in ((↑i : Int) + 1) (by omega)) <| .c oz4 <| .c oz5 <| .c hf <| .n)
theorem is_ln (l : List Nod) (i m : Nat) (hl : l.length ≤ 1000) (hi : i < l.length) (IH : ∀ j : Nat, i < j → j < l.length → VC Try.prog 86 [.sl 19 (l.map nodC), i64 j] (bv (usedB l j))) (hm : m < l.length - (i + 1)) (hf : (takesB (l.getD (i + 1 + m) default) ((i : Int) + 1) && usedB l (i + 1 + m)) = true) (h : ∀ k, k < m → (takesB (l.getD (i + 1 + k) default) ((i : Int) + 1) && usedB l (i + 1 + k)) = false) : VT Try.prog (fnC Try.f86 [1, 1, 0, 1, 0]) (is_ln_I l i m 0) (.ret) (is_ln_Z l i m) :=
  VT.loop (fun k => is_ln_I l i m k) (m) (fun k hk => is_ln_s l i m hl hi IH hm hf h k hk) (is_ln_e l i m hl hi IH hm hf h) (by intro h; cases h)

set_option maxRecDepth 100000 in
set_option maxHeartbeats 2000000 in
theorem is_l (l : List Nod) (i : Nat) (hl : l.length ≤ 1000) (hi : i + 1 = l.length) : VC Try.prog 86 ([.sl 19 (l.map nodC), i64 i]) (bv true) := by
  have q0 : (List.map nodC l).length = l.length := List.length_map _
  have oz0 := (IntWalk.i64_in ((↑(List.map nodC l).length : Int) - 1) (by omega))
  exact VC.run (fn := Try.f86) (W := [.r [] [], .r [] [.n (nO oz0)], .br true, .r [] []]) Try.func86 (by kernel_rfl) (.c oz0 <| .c (show ((↑i : Int) == (↑(List.map nodC l).length : Int) - 1) = true by (refine decide_eq_true ?_; omega)) <| .n)

set_option maxRecDepth 100000 in
set_option maxHeartbeats 2000000 in
theorem is_y (l : List Nod) (i m : Nat) (hl : l.length ≤ 1000) (hi : i + 1 < l.length) (IH : ∀ j : Nat, i < j → j < l.length → VC Try.prog 86 [.sl 19 (l.map nodC), i64 j] (bv (usedB l j))) (hm : m < l.length - (i + 1)) (hf : (takesB (l.getD (i + 1 + m) default) ((i : Int) + 1) && usedB l (i + 1 + m)) = true) (h : ∀ k, k < m → (takesB (l.getD (i + 1 + k) default) ((i : Int) + 1) && usedB l (i + 1 + k)) = false) : VC Try.prog 86 ([.sl 19 (l.map nodC), i64 i]) (bv true) := by
  have q0 : (List.map nodC l).length = l.length := List.length_map _
  have oz0 := (IntWalk.i64_in ((↑(List.map nodC l).length : Int) - 1) (by omega))
  have oz4 := @is_ln (l) (i) (m) hl (by omega) IH hm hf h
  exact VC.run (fn := Try.f86) (W := [.r [] [], .r [] [.n (nO oz0)], .br false, .r [] [.n ((↑i : Int) + 1)], .code [.any (rg [(4, 1), (6, 7)]), .weak 5 (i64 (↑(i + 1 + 0) : Int)), .sort] (Exit.ret) (zO oz4)]) Try.func86 (by kernel_rfl) (.c oz0 <| .c (show ((↑i : Int) == (↑(List.map nodC l).length : Int) - 1) = false by (refine decide_eq_false ?_; omega)) <| .c (IntWalk.i64_in ((↑i : Int) + 1) (by omega)) <| .c (Weak.int (k := .i64) (show (((↑i : Int) + 1) : Int) = ((↑(i + 1 + 0) : Int)) from (by omega))) <| .c oz4 <| .n)

set_option maxRecDepth 100000 in
set_option maxHeartbeats 2000000 in
theorem is_n (l : List Nod) (i : Nat) (hl : l.length ≤ 1000) (hi : i + 1 < l.length) (IH : ∀ j : Nat, i < j → j < l.length → VC Try.prog 86 [.sl 19 (l.map nodC), i64 j] (bv (usedB l j))) (h : ∀ k, k < l.length - (i + 1) → (takesB (l.getD (i + 1 + k) default) ((i : Int) + 1) && usedB l (i + 1 + k)) = false) : VC Try.prog 86 ([.sl 19 (l.map nodC), i64 i]) (bv false) := by
  have q0 : (List.map nodC l).length = l.length := List.length_map _
  have oz0 := (IntWalk.i64_in ((↑(List.map nodC l).length : Int) - 1) (by omega))
  have oz4 := @is_ly (l) (i) hl (by omega) IH h
  exact VC.run (fn := Try.f86) (W := [.r [] [], .r [] [.n (nO oz0)], .br false, .r [] [.n ((↑i : Int) + 1)], .code [.any (rg [(4, 1), (6, 7)]), .weak 5 (i64 (↑(i + 1 + 0) : Int)), .sort] (Exit.exit 0) (zO oz4), .r [] []]) Try.func86 (by kernel_rfl) (.c oz0 <| .c (show ((↑i : Int) == (↑(List.map nodC l).length : Int) - 1) = false by (refine decide_eq_false ?_; omega)) <| .c (IntWalk.i64_in ((↑i : Int) + 1) (by omega)) <| .c (Weak.int (k := .i64) (show (((↑i : Int) + 1) : Int) = ((↑(i + 1 + 0) : Int)) from (by omega))) <| .c oz4 <| .n)
theorem is_v (l : List Nod) (hl : l.length ≤ 1000) : ∀ (d i : Nat), l.length - i = d → i < l.length → VC Try.prog 86 [.sl 19 (l.map nodC), i64 i] (bv (usedB l i)) := by
  intro d
  induction d using Nat.strongRecOn with
  | _ d ih =>
    intro i hd hi
    by_cases e : i + 1 = l.length
    · rw [(used_iff hi).2 (.inl e)]; exact is_l l i hl e
    · have IH : ∀ j : Nat, i < j → j < l.length → VC Try.prog 86 [.sl 19 (l.map nodC), i64 j] (bv (usedB l j)) := fun j h1 h2 => ih (l.length - j) (by omega) j rfl h2
      rcases all_or (fun k => !(takesB (l.getD (i + 1 + k) default) ((i : Int) + 1) && usedB l (i + 1 + k))) (l.length - (i + 1)) with h | ⟨m, h1, h2, h3⟩
      · have : usedB l i = false := by
          cases eq : usedB l i with
          | false => rfl
          | true =>
            rcases (used_iff hi).1 eq with h9 | ⟨j, g1, g2, g3, g4⟩
            · exact absurd h9 e
            · have := h (j - (i + 1)) (by omega)
              rw [show i + 1 + (j - (i + 1)) = j by omega, g3, g4] at this; cases this
        rw [this]; exact is_n l i hl (by omega) IH fun k hk => by simpa only [Bool.not_eq_true'] using h k hk
      · have h2' : (takesB (l.getD (i + 1 + m) default) ((i : Int) + 1) && usedB l (i + 1 + m)) = true := by simpa using h2
        have h4 := h2'
        simp only [Bool.and_eq_true] at h4
        rw [(used_iff hi).2 (.inr ⟨i + 1 + m, by omega, by omega, h4.2, h4.1⟩)]
        exact is_y l i m hl (by omega) IH h1 h2' fun k hk => by simpa only [Bool.not_eq_true'] using h3 k hk
theorem rIs_v (l : List Nod) (i : Nat) (hl : l.length ≤ 1000) (hi : i < l.length) : VC Try.prog 86 [.sl 19 (l.map nodC), i64 i] (bv (usedB l i)) := is_v l hl _ i rfl hi
end Go.Proofs.Ytgecmooedhnenaa

/- What is left of a block without what nobody takes, by the program and by the document. No condition. -/
namespace Go.Proofs.Ytgecmooedhnenaa
open Go.RowKit
set_option linter.unusedSimpArgs false
set_option linter.unusedVariables false
set_option linter.unnecessarySimpa false

/-- How many numbers of a list lie below one. -/
def numI (L : List Int) (v : Int) : Int := ((L.filter fun u => decide (u < v)).length : Int)
theorem numI_le (L : List Int) (v : Int) : 0 ≤ numI L v ∧ numI L v ≤ L.length := by unfold numI; have := List.length_filter_le (fun u : Int => decide (u < v)) L; omega
theorem numI_step {L : List Int} {k : Nat} (hk : k < L.length) (v : Int) : numI (L.take (k + 1)) v = numI (L.take k) v + (if L.getD k 0 < v then 1 else 0) := by
  unfold numI
  rw [List.take_add_one, List.getElem?_eq_getElem hk, List.getD_eq_getElem?_getD, List.getElem?_eq_getElem hk]
  simp only [Option.toList_some, List.filter_append, List.length_append, Option.getD_some]
  by_cases h : L[k] < v <;> simp [h]
theorem numI_yes {L : List Int} {k : Nat} (hk : k < L.length) {v : Int} (h : L.getD k 0 < v) : numI (L.take (k + 1)) v = numI (L.take k) v + 1 := by rw [numI_step hk, if_pos h]
theorem numI_no {L : List Int} {k : Nat} (hk : k < L.length) {v : Int} (h : ¬ L.getD k 0 < v) : numI (L.take (k + 1)) v = numI (L.take k) v := by rw [numI_step hk, if_neg h]; omega
abbrev usI (us : List Nat) : List Int := us.map fun u : Nat => (u : Int)
theorem numI_us (us : List Nat) (v : Int) : numI (usI us) v = numU us v := by
  unfold numI numU usI
  rw [List.filter_map, List.length_map]; rfl
noncomputable def number_l_I (L : List Int) (v : Int) (k : Nat) : VS := stt 22 [(0, ints .i64 L), (1, i64 v), (5, i64 (numI (L.take k) v)), (6, i64 k)] []
noncomputable def number_l_Z (L : List Int) (v : Int) : VS := number_l_I L v (L.length)
set_option maxRecDepth 100000 in
set_option maxHeartbeats 2000000 in
theorem number_l_s (L : List Int) (v : Int) (hl : L.length ≤ 1000) (k : Nat) (hk : k < L.length) : VT Try.prog (fnC Try.f83 [1, 1, 0, 1, 0, 0]) (number_l_I L v k) .normal (number_l_I L v (k + 1)) := by
  have q := numI_le (L.take k) v
  have q2 : (L.take k).length = k := by rw [List.length_take]; omega
  have q3 := @numI_yes L k hk v
  have q4 := @numI_no L k hk v
  have oz0 := (show decide ((↑k : Int) < (↑(List.map (row1 IntKind.i64) L).length : Int)) = true by (simp; omega))
  have oz1 := (show 0 ≤ (↑k : Int) by omega)
  have oz2 := (map_at (row1 IntKind.i64) (0) (l := L) (i := k) hk)
  rcases Bool.eq_false_or_eq_true (decide (L.getD k 0 < v)) with hc0 | hc0
  · have gc0 := of_decide_eq_true hc0
    exact VT.run (W := [.r [] [], .br true, .r [] [.row (sO oz2)], .br true, .r [] [.n (numI (List.take k L) v + 1)], .r [] [.n ((↑k : Int) + 1)]]) (G := [.any (rg [(7, 14)]), .weak 5 (i64 (numI (List.take (k + 1) L) v)), .weak 6 (i64 (↑(k + 1) : Int)), .sort]) (by kernel_rfl) (.c oz0 <| .c oz1 <| .c oz2 <| .c hc0 <| .c (IntWalk.i64_in (numI (List.take k L) v + 1) (by omega)) <| .c (IntWalk.i64_in ((↑k : Int) + 1) (by omega)) <| .c (Weak.int (k := .i64) (show ((numI (List.take k L) v + 1) : Int) = (numI (List.take (k + 1) L) v) from (by omega))) <| .c (Weak.int (k := .i64) (show (((↑k : Int) + 1) : Int) = ((↑(k + 1) : Int)) from (by omega))) <| .n)
  · have gc0 := of_decide_eq_false hc0
    exact VT.run (W := [.r [] [], .br true, .r [] [.row (sO oz2)], .br false, .r [] [.n ((↑k : Int) + 1)]]) (G := [.any (rg [(7, 12)]), .weak 5 (i64 (numI (List.take (k + 1) L) v)), .weak 6 (i64 (↑(k + 1) : Int)), .sort]) (by kernel_rfl) (.c oz0 <| .c oz1 <| .c oz2 <| .c hc0 <| .c (IntWalk.i64_in ((↑k : Int) + 1) (by omega)) <| .c (Weak.int (k := .i64) (show ((numI (List.take k L) v) : Int) = (numI (List.take (k + 1) L) v) from (by omega))) <| .c (Weak.int (k := .i64) (show (((↑k : Int) + 1) : Int) = ((↑(k + 1) : Int)) from (by omega))) <| .n)
set_option maxRecDepth 100000 in
set_option maxHeartbeats 2000000 in
theorem number_l_e (L : List Int) (v : Int) (hl : L.length ≤ 1000) : VT Try.prog (fnC Try.f83 [1, 1, 0, 1, 0, 0]) (number_l_I L v (L.length)) (.exit 0) (number_l_Z L v) := by
  exact VT.run (W := [.r [] [], .br false]) (G := [.any [7, 8, 9, 10], .sort]) (by kernel_rfl) (.c (show decide ((↑L.length : Int) < (↑(List.map (row1 IntKind.i64) L).length : Int)) = false by (simp; done)) <| .n)
theorem number_l (L : List Int) (v : Int) (hl : L.length ≤ 1000) : VT Try.prog (fnC Try.f83 [1, 1, 0, 1, 0]) (number_l_I L v 0) (.exit 0) (number_l_Z L v) :=
  VT.loop (fun k => number_l_I L v k) (L.length) (fun k hk => number_l_s L v hl k hk) (number_l_e L v hl) (by intro h; cases h)

set_option maxRecDepth 100000 in
set_option maxHeartbeats 2000000 in
theorem number_v (L : List Int) (v : Int) (hl : L.length ≤ 1000) : VC Try.prog 83 ([ints .i64 L, i64 v]) (i64 (numI L v)) := by
  have oz2 := @number_l (L) (v) hl
  exact (VC.run (fn := Try.f83) (W := [.r [] [], .r [] [], .r [] [], .code [.any [4], .weak 5 (i64 (numI (List.take 0 L) v)), .weak 6 (i64 (↑0 : Int)), .sort] (Exit.exit 0) (zO oz2), .r [] []]) (r := i64 (numI (List.take L.length L) v)) Try.func83 (by kernel_rfl) (.c (Weak.int (k := .i64) (show ((0) : Int) = (numI (List.take 0 L) v) from (by rfl))) <| .c (Weak.int (k := .i64) (show ((0) : Int) = ((↑0 : Int)) from (by omega))) <| .c oz2 <| .n)).weak (WeakL.refl _) (Weak.int (show ((numI (List.take L.length L) v) : Int) = (numI L v) from (by (simp; done))))
/-- The places of the used nodes among the first k. -/
def usedI (l : List Nod) (k : Nat) : List Int := usI ((List.range k).filter (usedB l))
theorem usedI_all (l : List Nod) : usedI l l.length = usI (usedL l) := rfl
theorem usedI_len (l : List Nod) (k : Nat) : (usedI l k).length ≤ k := by
  unfold usedI usI; rw [List.length_map]; have := List.length_filter_le (usedB l) (List.range k); rw [List.length_range] at this; exact this
theorem usedI_yes {l : List Nod} {k : Nat} (h : usedB l k = true) : usedI l (k + 1) = usedI l k ++ [(k : Int)] := by
  unfold usedI usI; rw [List.range_succ, List.filter_append, List.map_append]; simp [h]
theorem usedI_no {l : List Nod} {k : Nat} (h : usedB l k = false) : usedI l (k + 1) = usedI l k := by
  unfold usedI usI; rw [List.range_succ, List.filter_append, List.map_append]; simp [h]
noncomputable def rused_l_I (l : List Nod) (k : Nat) : VS := stt 23 [(0, .sl 19 (l.map nodC)), (3, .own 900), (4, i64 k)] [(900, .slc 3 1 ((usedI l k).map (row1 .i64)))]
noncomputable def rused_l_Z (l : List Nod) : VS := rused_l_I l (l.length)
set_option maxRecDepth 100000 in
set_option maxHeartbeats 2000000 in
theorem rused_l_s (l : List Nod) (hl : l.length ≤ 1000) (ho : orderedB l = true) (k : Nat) (hk : k < l.length) : VT Try.prog (fnC Try.f24 [1, 1, 0, 1, 0, 0]) (rused_l_I l k) .normal (rused_l_I l (k + 1)) := by
  have q := usedI_len l k
  have q2 : (List.map (row1 .i64) (usedI l k)).length = (usedI l k).length := List.length_map _
  have q3 := @usedI_yes l k
  have q4 := @usedI_no l k
  have q0 : (List.map nodC l).length = l.length := List.length_map _
  have oz0 := (decide_eq_true (p := ((↑k : Int) < (↑(List.map nodC l).length : Int))) (by omega))
  have oz2 := @rord_v (l) hl
  have oz5 := @rIs_v (l) (k) hl hk
  rcases Bool.eq_false_or_eq_true (usedB l k) with hc0 | hc0
  · have gc0 : usedB l k = true := by first | exact hc0 | exact of_decide_eq_true hc0 | exact of_decide_eq_false hc0 | simpa [eqNums] using hc0 | (simp [eqNums] at hc0 ⊢; first | done | assumption | omega)
    exact VT.run (W := [.r [] [.br true, .br true, .callr (rO oz2), .br true], .br true, .r [] [.callr (rO oz5)], .br true, .r [] [], .r [] [.n ((↑k : Int) + 1)]]) (G := [.any (rg [(5, 17)]), .drop [20], .ren 21 900, .weak 4 (i64 (↑(k + 1) : Int)), .blk 900 (Blk.slc 3 1 (List.map (row1 IntKind.i64) (usedI l (k + 1)))), .sort]) (by kernel_rfl) (.c oz0 <| .c oz0 <| .c oz2 <| .c oz0 <| .c ho <| .c oz5 <| .c hc0 <| .c (show ((List.map (row1 IntKind.i64) (usedI l k)).length + 1) * 8 ≤ 140737488355328 by omega) <| .c (show (List.map (row1 IntKind.i64) (usedI l k)).length + 1 ≤ 9223372036854775807 by omega) <| .c (IntWalk.i64_in ((↑k : Int) + 1) (by omega)) <| .c (Weak.int (k := .i64) (show (((↑k : Int) + 1) : Int) = ((↑(k + 1) : Int)) from (by omega))) <| .c (show BlkW (Blk.slc 3 1 (List.map (row1 IntKind.i64) (usedI l k) ++ [[i64 (↑k : Int)]])) (Blk.slc 3 1 (List.map (row1 IntKind.i64) (usedI l (k + 1)))) from (BlkW.rows (rows_to (row1 IntKind.i64) (r := List.map (row1 IntKind.i64) (usedI l k) ++ [[i64 (↑k : Int)]]) (l := usedI l k ++ [(↑k : Int)]) (m := usedI l (k + 1)) (by first | (simp only [List.map_append, List.map_cons, List.map_nil, List.map_set, List.map_replicate, List.map_take, List.map_drop]; done) | rfl | (simp only [List.map_append, List.map_cons, List.map_nil, List.map_set, List.map_replicate, List.map_take, List.map_drop]; rfl)) (show (usedI l k ++ [(↑k : Int)]) = (usedI l (k + 1)) from (by (rw [q3 (by assumption)])))))) <| .n)
  · have gc0 : usedB l k = false := by first | exact hc0 | exact of_decide_eq_true hc0 | exact of_decide_eq_false hc0 | simpa [eqNums] using hc0 | (simp [eqNums] at hc0 ⊢; first | done | assumption | omega)
    exact VT.run (W := [.r [] [.br true, .br true, .callr (rO oz2), .br true], .br true, .r [] [.callr (rO oz5)], .br false, .r [] [.n ((↑k : Int) + 1)]]) (G := [.any (rg [(5, 13)]), .weak 4 (i64 (↑(k + 1) : Int)), .blk 900 (Blk.slc 3 1 (List.map (row1 IntKind.i64) (usedI l (k + 1)))), .sort]) (by kernel_rfl) (.c oz0 <| .c oz0 <| .c oz2 <| .c oz0 <| .c ho <| .c oz5 <| .c hc0 <| .c (IntWalk.i64_in ((↑k : Int) + 1) (by omega)) <| .c (Weak.int (k := .i64) (show (((↑k : Int) + 1) : Int) = ((↑(k + 1) : Int)) from (by omega))) <| .c (show BlkW (Blk.slc 3 1 (List.map (row1 IntKind.i64) (usedI l k))) (Blk.slc 3 1 (List.map (row1 IntKind.i64) (usedI l (k + 1)))) from (BlkW.rows (rows_to (row1 IntKind.i64) (r := List.map (row1 IntKind.i64) (usedI l k)) (l := usedI l k) (m := usedI l (k + 1)) rfl (show (usedI l k) = (usedI l (k + 1)) from (by (rw [q4 (by assumption)])))))) <| .n)
set_option maxRecDepth 100000 in
set_option maxHeartbeats 2000000 in
theorem rused_l_e (l : List Nod) (hl : l.length ≤ 1000) (ho : orderedB l = true) : VT Try.prog (fnC Try.f24 [1, 1, 0, 1, 0, 0]) (rused_l_I l (l.length)) (.exit 0) (rused_l_Z l) := by
  have q0 : (List.map nodC l).length = l.length := List.length_map _
  have oz0 := (show decide ((↑l.length : Int) < (↑(List.map nodC l).length : Int)) = !true by (refine decide_eq_false ?_; omega))
  exact VT.run (W := [.r [] [.br false, .br false, .br false], .br false]) (G := [.any (rg [(5, 8)]), .sort]) (by kernel_rfl) (.c oz0 <| .c oz0 <| .c (decide_eq_false (p := ((↑l.length : Int) < (↑(List.map nodC l).length : Int))) (by omega)) <| .c (show false = false by with_reducible rfl) <| .n)
theorem rused_l (l : List Nod) (hl : l.length ≤ 1000) (ho : orderedB l = true) : VT Try.prog (fnC Try.f24 [1, 1, 0, 1, 0]) (rused_l_I l 0) (.exit 0) (rused_l_Z l) :=
  VT.loop (fun k => rused_l_I l k) (l.length) (fun k hk => rused_l_s l hl ho k hk) (rused_l_e l hl ho) (by intro h; cases h)

set_option maxRecDepth 100000 in
set_option maxHeartbeats 2000000 in
theorem rused_y (l : List Nod) (hl : l.length ≤ 1000) (ho : orderedB l = true) : VC Try.prog 24 ([.sl 19 (l.map nodC)]) (ints .i64 (usI (usedL l))) := by
  have oz1 := @rused_l (l) hl ho
  exact (VC.run (fn := Try.f24) (W := [.r [] [], .r [] [], .r [] [], .code [.any [2], .weak 4 (i64 (↑0 : Int)), .nils 3 900 3 1, .sort] (Exit.exit 0) (zO oz1), .r [] []]) (r := AV.sl 1 (List.map (row1 IntKind.i64) (usedI l l.length))) Try.func24 (by kernel_rfl) (.c (Weak.int (k := .i64) (show ((0) : Int) = ((↑0 : Int)) from (by omega))) <| .c oz1 <| .n)).weak (WeakL.refl _) (Weak.rows (rows_to (row1 IntKind.i64) (r := List.map (row1 IntKind.i64) (usedI l l.length)) (l := usedI l l.length) (m := usI (usedL l)) rfl (show (usedI l l.length) = (usI (usedL l)) from (by (rw [usedI_all])))))

/-- The first k of the nodes that are left. -/
def prunK (l : List Nod) (k : Nat) : List Nod := ((usedL l).take k).map fun i => pruneN (usedL l) (l.getD i default)
theorem prunK_len (l : List Nod) (k : Nat) : (prunK l k).length ≤ k := by unfold prunK; rw [List.length_map, List.length_take]; omega
theorem prunK_step {l : List Nod} {k : Nat} (hk : k < (usedL l).length) : prunK l (k + 1) = prunK l k ++ [pruneN (usedL l) (l.getD ((usedL l).getD k 0) default)] := by
  unfold prunK
  rw [List.take_add_one, List.getElem?_eq_getElem hk, List.getD_eq_getElem?_getD (l := usedL l), List.getElem?_eq_getElem hk]
  simp only [Option.toList_some, List.map_append, List.map_cons, List.map_nil, Option.getD_some]
theorem prunK_all {l : List Nod} (h : orderedB l = true) : prunK l (usedL l).length = pruneL l := by unfold prunK pruneL; rw [List.take_length, if_pos h]
theorem used_len (l : List Nod) : (usedL l).length ≤ l.length := by
  unfold usedL; have := List.length_filter_le (usedB l) (List.range l.length); rw [List.length_range] at this; exact this
theorem usI_at {us : List Nat} {k : Nat} (hk : k < us.length) : (usI us).getD k 0 = ((us.getD k 0 : Nat) : Int) := by
  unfold usI; rw [List.getD_eq_getElem?_getD, List.getElem?_map, List.getElem?_eq_getElem hk, List.getD_eq_getElem?_getD, List.getElem?_eq_getElem hk]; rfl
noncomputable def rblock51_l_I (l : List Nod) (k : Nat) : VS := stt 44 [(0, .sl 19 (l.map nodC)), (3, ints .i64 (usI (usedL l))), (4, .own 900), (5, i64 k)] [(900, .slc 47 19 ((prunK l k).map nodC))]
noncomputable def rblock51_l_Z (l : List Nod) : VS := rblock51_l_I l ((usedL l).length)
set_option maxRecDepth 100000 in
set_option maxHeartbeats 2000000 in
theorem rblock51_l_s (l : List Nod) (hl : l.length ≤ 1000) (k : Nat) (hk : k < (usedL l).length) : VT Try.prog (fnC Try.f21 [1, 1, 1, 1, 0, 1, 0, 0]) (rblock51_l_I l k) .normal (rblock51_l_I l (k + 1)) := by
  have q := prunK_len l k
  have q2 : (List.map nodC (prunK l k)).length = (prunK l k).length := List.length_map _
  have q3 := used_len l
  have q4 := usI_at hk
  have q5 := (mem_used.1 (used_at hk)).1
  have q6 := @prunK_step l k hk
  have q7 : (usI (usedL l)).length = (usedL l).length := List.length_map _
  have q9 : (List.map (row1 .i64) (usI (usedL l))).length = (usI (usedL l)).length := List.length_map _
  have q8 : ((usI (usedL l)).getD k 0).toNat = (usedL l).getD k 0 := by rw [q4]; rfl
  have q10 := fun v => numI_us (usedL l) v
  rw [← q8] at q6
  unfold pruneN at q6
  simp only [← q10] at q6
  have oz0 := (decide_eq_true (p := ((↑k : Int) < (↑(List.map (row1 IntKind.i64) (usI (usedL l))).length : Int))) (by omega))
  have oz1 := (show 0 ≤ (↑k : Int) by omega)
  have oz2 := (map_at (row1 IntKind.i64) (0) (l := usI (usedL l)) (i := k) (by omega))
  have oz3 := (show 0 ≤ (usI (usedL l)).getD k 0 by omega)
  have oz4 := (map_at (nodC) (default) (l := l) (i := ((usI (usedL l)).getD k 0).toNat) (by omega))
  have oz5 := @number_v (usI (usedL l)) ((l.getD ((usI (usedL l)).getD k 0).toNat default).na) (by omega)
  rcases Bool.eq_false_or_eq_true ((l.getD ((usI (usedL l)).getD k 0).toNat default).kd == 6) with hc0 | hc0
  · have gc0 : (l.getD ((usI (usedL l)).getD k 0).toNat default).kd = 6 := bet hc0
    have oz7 := @number_v (usI (usedL l)) ((l.getD ((usI (usedL l)).getD k 0).toNat default).nb) (by omega)
    exact VT.run (W := [.r [] [], .br true, .r [] [.row (sO oz2), .row (sO oz4)], .r [] [.callr (rO oz5)], .r [] [], .br true, .r [] [.callr (rO oz7)], .r [] [], .r [] [.n ((↑k : Int) + 1)]]) (G := [.any (rg [(6, 1), (13, 30)]), .drop [6, 41], .ren 42 900, .weak 5 (i64 (↑(k + 1) : Int)), .blk 900 (Blk.slc 47 19 (List.map nodC (prunK l (k + 1)))), .sort]) (by kernel_rfl) (.c oz0 <| .c oz1 <| .c oz2 <| .c oz3 <| .c oz4 <| .c oz5 <| .c hc0 <| .c oz7 <| .c (show ((List.map nodC (prunK l k)).length + 1) * 168 ≤ 140737488355328 by omega) <| .c (show (List.map nodC (prunK l k)).length + 1 ≤ 9223372036854775807 by omega) <| .c (IntWalk.i64_in ((↑k : Int) + 1) (by omega)) <| .c (Weak.int (k := .i64) (show (((↑k : Int) + 1) : Int) = ((↑(k + 1) : Int)) from (by omega))) <| .c (show BlkW (Blk.slc 47 19 (List.map nodC (prunK l k) ++ [[i64 (l.getD ((usI (usedL l)).getD k 0).toNat default).kd, i64 (numI (usI (usedL l)) (l.getD ((usI (usedL l)).getD k 0).toNat default).na), i64 (numI (usI (usedL l)) (l.getD ((usI (usedL l)).getD k 0).toNat default).nb), i64 (l.getD ((usI (usedL l)).getD k 0).toNat default).nk, i64 (l.getD ((usI (usedL l)).getD k 0).toNat default).ns, i64 (l.getD ((usI (usedL l)).getD k 0).toNat default).np, i64 (l.getD ((usI (usedL l)).getD k 0).toNat default).no, i8 (l.getD ((usI (usedL l)).getD k 0).toNat default).za, i8 (l.getD ((usI (usedL l)).getD k 0).toNat default).zb, AV.sl 1 (List.map (row1 IntKind.i8) (l.getD ((usI (usedL l)).getD k 0).toNat default).w), AV.sl 1 (List.map (row1 IntKind.i32) (l.getD ((usI (usedL l)).getD k 0).toNat default).b), i32 (l.getD ((usI (usedL l)).getD k 0).toNat default).qm, i64 (l.getD ((usI (usedL l)).getD k 0).toNat default).qs, i8 (l.getD ((usI (usedL l)).getD k 0).toNat default).qz, i32 (l.getD ((usI (usedL l)).getD k 0).toNat default).rm, i64 (l.getD ((usI (usedL l)).getD k 0).toNat default).rs, i8 (l.getD ((usI (usedL l)).getD k 0).toNat default).rz, i8 (l.getD ((usI (usedL l)).getD k 0).toNat default).lo, i8 (l.getD ((usI (usedL l)).getD k 0).toNat default).hi]])) (Blk.slc 47 19 (List.map nodC (prunK l (k + 1)))) from (BlkW.rows (rows_to (nodC) (r := List.map nodC (prunK l k) ++ [[i64 (l.getD ((usI (usedL l)).getD k 0).toNat default).kd, i64 (numI (usI (usedL l)) (l.getD ((usI (usedL l)).getD k 0).toNat default).na), i64 (numI (usI (usedL l)) (l.getD ((usI (usedL l)).getD k 0).toNat default).nb), i64 (l.getD ((usI (usedL l)).getD k 0).toNat default).nk, i64 (l.getD ((usI (usedL l)).getD k 0).toNat default).ns, i64 (l.getD ((usI (usedL l)).getD k 0).toNat default).np, i64 (l.getD ((usI (usedL l)).getD k 0).toNat default).no, i8 (l.getD ((usI (usedL l)).getD k 0).toNat default).za, i8 (l.getD ((usI (usedL l)).getD k 0).toNat default).zb, AV.sl 1 (List.map (row1 IntKind.i8) (l.getD ((usI (usedL l)).getD k 0).toNat default).w), AV.sl 1 (List.map (row1 IntKind.i32) (l.getD ((usI (usedL l)).getD k 0).toNat default).b), i32 (l.getD ((usI (usedL l)).getD k 0).toNat default).qm, i64 (l.getD ((usI (usedL l)).getD k 0).toNat default).qs, i8 (l.getD ((usI (usedL l)).getD k 0).toNat default).qz, i32 (l.getD ((usI (usedL l)).getD k 0).toNat default).rm, i64 (l.getD ((usI (usedL l)).getD k 0).toNat default).rs, i8 (l.getD ((usI (usedL l)).getD k 0).toNat default).rz, i8 (l.getD ((usI (usedL l)).getD k 0).toNat default).lo, i8 (l.getD ((usI (usedL l)).getD k 0).toNat default).hi]]) (l := prunK l k ++ [Nod.mk (l.getD ((usI (usedL l)).getD k 0).toNat default).kd (numI (usI (usedL l)) (l.getD ((usI (usedL l)).getD k 0).toNat default).na) (numI (usI (usedL l)) (l.getD ((usI (usedL l)).getD k 0).toNat default).nb) (l.getD ((usI (usedL l)).getD k 0).toNat default).nk (l.getD ((usI (usedL l)).getD k 0).toNat default).ns (l.getD ((usI (usedL l)).getD k 0).toNat default).np (l.getD ((usI (usedL l)).getD k 0).toNat default).no (l.getD ((usI (usedL l)).getD k 0).toNat default).za (l.getD ((usI (usedL l)).getD k 0).toNat default).zb (l.getD ((usI (usedL l)).getD k 0).toNat default).w (l.getD ((usI (usedL l)).getD k 0).toNat default).b (l.getD ((usI (usedL l)).getD k 0).toNat default).qm (l.getD ((usI (usedL l)).getD k 0).toNat default).qs (l.getD ((usI (usedL l)).getD k 0).toNat default).qz (l.getD ((usI (usedL l)).getD k 0).toNat default).rm (l.getD ((usI (usedL l)).getD k 0).toNat default).rs (l.getD ((usI (usedL l)).getD k 0).toNat default).rz (l.getD ((usI (usedL l)).getD k 0).toNat default).lo (l.getD ((usI (usedL l)).getD k 0).toNat default).hi]) (m := prunK l (k + 1)) (by first | (simp only [List.map_append, List.map_cons, List.map_nil, List.map_set, List.map_replicate, List.map_take, List.map_drop]; done) | rfl | (simp only [List.map_append, List.map_cons, List.map_nil, List.map_set, List.map_replicate, List.map_take, List.map_drop]; rfl) | (simp only [List.map_append, List.map_cons, List.map_nil, List.map_set, List.map_replicate, List.map_take, List.map_drop, nodC, ints]; done)) (show (prunK l k ++ [Nod.mk (l.getD ((usI (usedL l)).getD k 0).toNat default).kd (numI (usI (usedL l)) (l.getD ((usI (usedL l)).getD k 0).toNat default).na) (numI (usI (usedL l)) (l.getD ((usI (usedL l)).getD k 0).toNat default).nb) (l.getD ((usI (usedL l)).getD k 0).toNat default).nk (l.getD ((usI (usedL l)).getD k 0).toNat default).ns (l.getD ((usI (usedL l)).getD k 0).toNat default).np (l.getD ((usI (usedL l)).getD k 0).toNat default).no (l.getD ((usI (usedL l)).getD k 0).toNat default).za (l.getD ((usI (usedL l)).getD k 0).toNat default).zb (l.getD ((usI (usedL l)).getD k 0).toNat default).w (l.getD ((usI (usedL l)).getD k 0).toNat default).b (l.getD ((usI (usedL l)).getD k 0).toNat default).qm (l.getD ((usI (usedL l)).getD k 0).toNat default).qs (l.getD ((usI (usedL l)).getD k 0).toNat default).qz (l.getD ((usI (usedL l)).getD k 0).toNat default).rm (l.getD ((usI (usedL l)).getD k 0).toNat default).rs (l.getD ((usI (usedL l)).getD k 0).toNat default).rz (l.getD ((usI (usedL l)).getD k 0).toNat default).lo (l.getD ((usI (usedL l)).getD k 0).toNat default).hi]) = (prunK l (k + 1)) from (by (rw [q6, if_pos (by assumption)])))))) <| .n)
  · have gc0 : ¬(l.getD ((usI (usedL l)).getD k 0).toNat default).kd = 6 := bef hc0
    exact VT.run (W := [.r [] [], .br true, .r [] [.row (sO oz2), .row (sO oz4)], .r [] [.callr (rO oz5)], .r [] [], .br false, .r [] [], .r [] [.n ((↑k : Int) + 1)]]) (G := [.any (rg [(6, 1), (13, 21), (39, 4)]), .drop [6, 41], .ren 42 900, .weak 5 (i64 (↑(k + 1) : Int)), .blk 900 (Blk.slc 47 19 (List.map nodC (prunK l (k + 1)))), .sort]) (by kernel_rfl) (.c oz0 <| .c oz1 <| .c oz2 <| .c oz3 <| .c oz4 <| .c oz5 <| .c hc0 <| .c (show ((List.map nodC (prunK l k)).length + 1) * 168 ≤ 140737488355328 by omega) <| .c (show (List.map nodC (prunK l k)).length + 1 ≤ 9223372036854775807 by omega) <| .c (IntWalk.i64_in ((↑k : Int) + 1) (by omega)) <| .c (Weak.int (k := .i64) (show (((↑k : Int) + 1) : Int) = ((↑(k + 1) : Int)) from (by omega))) <| .c (show BlkW (Blk.slc 47 19 (List.map nodC (prunK l k) ++ [[i64 (l.getD ((usI (usedL l)).getD k 0).toNat default).kd, i64 (numI (usI (usedL l)) (l.getD ((usI (usedL l)).getD k 0).toNat default).na), i64 (l.getD ((usI (usedL l)).getD k 0).toNat default).nb, i64 (l.getD ((usI (usedL l)).getD k 0).toNat default).nk, i64 (l.getD ((usI (usedL l)).getD k 0).toNat default).ns, i64 (l.getD ((usI (usedL l)).getD k 0).toNat default).np, i64 (l.getD ((usI (usedL l)).getD k 0).toNat default).no, i8 (l.getD ((usI (usedL l)).getD k 0).toNat default).za, i8 (l.getD ((usI (usedL l)).getD k 0).toNat default).zb, AV.sl 1 (List.map (row1 IntKind.i8) (l.getD ((usI (usedL l)).getD k 0).toNat default).w), AV.sl 1 (List.map (row1 IntKind.i32) (l.getD ((usI (usedL l)).getD k 0).toNat default).b), i32 (l.getD ((usI (usedL l)).getD k 0).toNat default).qm, i64 (l.getD ((usI (usedL l)).getD k 0).toNat default).qs, i8 (l.getD ((usI (usedL l)).getD k 0).toNat default).qz, i32 (l.getD ((usI (usedL l)).getD k 0).toNat default).rm, i64 (l.getD ((usI (usedL l)).getD k 0).toNat default).rs, i8 (l.getD ((usI (usedL l)).getD k 0).toNat default).rz, i8 (l.getD ((usI (usedL l)).getD k 0).toNat default).lo, i8 (l.getD ((usI (usedL l)).getD k 0).toNat default).hi]])) (Blk.slc 47 19 (List.map nodC (prunK l (k + 1)))) from (BlkW.rows (rows_to (nodC) (r := List.map nodC (prunK l k) ++ [[i64 (l.getD ((usI (usedL l)).getD k 0).toNat default).kd, i64 (numI (usI (usedL l)) (l.getD ((usI (usedL l)).getD k 0).toNat default).na), i64 (l.getD ((usI (usedL l)).getD k 0).toNat default).nb, i64 (l.getD ((usI (usedL l)).getD k 0).toNat default).nk, i64 (l.getD ((usI (usedL l)).getD k 0).toNat default).ns, i64 (l.getD ((usI (usedL l)).getD k 0).toNat default).np, i64 (l.getD ((usI (usedL l)).getD k 0).toNat default).no, i8 (l.getD ((usI (usedL l)).getD k 0).toNat default).za, i8 (l.getD ((usI (usedL l)).getD k 0).toNat default).zb, AV.sl 1 (List.map (row1 IntKind.i8) (l.getD ((usI (usedL l)).getD k 0).toNat default).w), AV.sl 1 (List.map (row1 IntKind.i32) (l.getD ((usI (usedL l)).getD k 0).toNat default).b), i32 (l.getD ((usI (usedL l)).getD k 0).toNat default).qm, i64 (l.getD ((usI (usedL l)).getD k 0).toNat default).qs, i8 (l.getD ((usI (usedL l)).getD k 0).toNat default).qz, i32 (l.getD ((usI (usedL l)).getD k 0).toNat default).rm, i64 (l.getD ((usI (usedL l)).getD k 0).toNat default).rs, i8 (l.getD ((usI (usedL l)).getD k 0).toNat default).rz, i8 (l.getD ((usI (usedL l)).getD k 0).toNat default).lo, i8 (l.getD ((usI (usedL l)).getD k 0).toNat default).hi]]) (l := prunK l k ++ [Nod.mk (l.getD ((usI (usedL l)).getD k 0).toNat default).kd (numI (usI (usedL l)) (l.getD ((usI (usedL l)).getD k 0).toNat default).na) (l.getD ((usI (usedL l)).getD k 0).toNat default).nb (l.getD ((usI (usedL l)).getD k 0).toNat default).nk (l.getD ((usI (usedL l)).getD k 0).toNat default).ns (l.getD ((usI (usedL l)).getD k 0).toNat default).np (l.getD ((usI (usedL l)).getD k 0).toNat default).no (l.getD ((usI (usedL l)).getD k 0).toNat default).za (l.getD ((usI (usedL l)).getD k 0).toNat default).zb (l.getD ((usI (usedL l)).getD k 0).toNat default).w (l.getD ((usI (usedL l)).getD k 0).toNat default).b (l.getD ((usI (usedL l)).getD k 0).toNat default).qm (l.getD ((usI (usedL l)).getD k 0).toNat default).qs (l.getD ((usI (usedL l)).getD k 0).toNat default).qz (l.getD ((usI (usedL l)).getD k 0).toNat default).rm (l.getD ((usI (usedL l)).getD k 0).toNat default).rs (l.getD ((usI (usedL l)).getD k 0).toNat default).rz (l.getD ((usI (usedL l)).getD k 0).toNat default).lo (l.getD ((usI (usedL l)).getD k 0).toNat default).hi]) (m := prunK l (k + 1)) (by first | (simp only [List.map_append, List.map_cons, List.map_nil, List.map_set, List.map_replicate, List.map_take, List.map_drop]; done) | rfl | (simp only [List.map_append, List.map_cons, List.map_nil, List.map_set, List.map_replicate, List.map_take, List.map_drop]; rfl) | (simp only [List.map_append, List.map_cons, List.map_nil, List.map_set, List.map_replicate, List.map_take, List.map_drop, nodC, ints]; done)) (show (prunK l k ++ [Nod.mk (l.getD ((usI (usedL l)).getD k 0).toNat default).kd (numI (usI (usedL l)) (l.getD ((usI (usedL l)).getD k 0).toNat default).na) (l.getD ((usI (usedL l)).getD k 0).toNat default).nb (l.getD ((usI (usedL l)).getD k 0).toNat default).nk (l.getD ((usI (usedL l)).getD k 0).toNat default).ns (l.getD ((usI (usedL l)).getD k 0).toNat default).np (l.getD ((usI (usedL l)).getD k 0).toNat default).no (l.getD ((usI (usedL l)).getD k 0).toNat default).za (l.getD ((usI (usedL l)).getD k 0).toNat default).zb (l.getD ((usI (usedL l)).getD k 0).toNat default).w (l.getD ((usI (usedL l)).getD k 0).toNat default).b (l.getD ((usI (usedL l)).getD k 0).toNat default).qm (l.getD ((usI (usedL l)).getD k 0).toNat default).qs (l.getD ((usI (usedL l)).getD k 0).toNat default).qz (l.getD ((usI (usedL l)).getD k 0).toNat default).rm (l.getD ((usI (usedL l)).getD k 0).toNat default).rs (l.getD ((usI (usedL l)).getD k 0).toNat default).rz (l.getD ((usI (usedL l)).getD k 0).toNat default).lo (l.getD ((usI (usedL l)).getD k 0).toNat default).hi]) = (prunK l (k + 1)) from (by (rw [q6, if_neg (by assumption)])))))) <| .n)
set_option maxRecDepth 100000 in
set_option maxHeartbeats 2000000 in
theorem rblock51_l_e (l : List Nod) (hl : l.length ≤ 1000) : VT Try.prog (fnC Try.f21 [1, 1, 1, 1, 0, 1, 0, 0]) (rblock51_l_I l ((usedL l).length)) (.exit 0) (rblock51_l_Z l) := by
  exact VT.run (W := [.r [] [], .br false]) (G := [.any (rg [(13, 4)]), .sort]) (by kernel_rfl) (.c (show decide ((↑(usedL l).length : Int) < (↑(List.map (row1 IntKind.i64) (usI (usedL l))).length : Int)) = false by (simp; done)) <| .n)
theorem rblock51_l (l : List Nod) (hl : l.length ≤ 1000) : VT Try.prog (fnC Try.f21 [1, 1, 1, 1, 0, 1, 0]) (rblock51_l_I l 0) (.exit 0) (rblock51_l_Z l) :=
  VT.loop (fun k => rblock51_l_I l k) ((usedL l).length) (fun k hk => rblock51_l_s l hl k hk) (rblock51_l_e l hl) (by intro h; cases h)

set_option maxRecDepth 100000 in
set_option maxHeartbeats 2000000 in
theorem rblock51_y (l : List Nod) (hl : l.length ≤ 1000) (ho : orderedB l = true) : VC Try.prog 21 ([.sl 19 (l.map nodC)]) (.sl 19 ((pruneL l).map nodC)) := by
  have oz0 := @rord_v (l) hl
  have oz2 := @rused_y (l) hl ho
  have oz4 := @rblock51_l (l) hl
  exact (VC.run (fn := Try.f21) (W := [.r [] [], .r [] [.callr (rO oz0)], .br false, .r [] [.callr (rO oz2)], .r [] [], .r [] [], .code [.any [2, 7, 8, 9, 11, 12], .weak 5 (i64 (↑0 : Int)), .nils 4 900 47 19, .sort] (Exit.exit 0) (zO oz4), .r [] []]) (r := AV.sl 19 (List.map nodC (prunK l (usedL l).length))) Try.func21 (by kernel_rfl) (.c oz0 <| .c (show (!orderedB l) = false by (simp; omega)) <| .c oz2 <| .c (Weak.int (k := .i64) (show ((0) : Int) = ((↑0 : Int)) from (by omega))) <| .c oz4 <| .n)).weak (WeakL.refl _) (Weak.rows (rows_to (nodC) (r := List.map nodC (prunK l (usedL l).length)) (l := prunK l (usedL l).length) (m := pruneL l) rfl (show (prunK l (usedL l).length) = (pruneL l) from (by (rw [← prunK_all ho])))))

set_option maxRecDepth 100000 in
set_option maxHeartbeats 2000000 in
theorem rblock51_n (l : List Nod) (hl : l.length ≤ 1000) (ho : orderedB l = false) : VC Try.prog 21 ([.sl 19 (l.map nodC)]) (.sl 19 (l.map nodC)) := by
  have oz0 := @rord_v (l) hl
  exact VC.run (fn := Try.f21) (W := [.r [] [], .r [] [.callr (rO oz0)], .br true, .r [] []]) Try.func21 (by kernel_rfl) (.c oz0 <| .c (show (!orderedB l) = true by (simp; omega)) <| .n)
theorem rblock51_v (l : List Nod) (hl : l.length ≤ 1000) : VC Try.prog 21 [.sl 19 (l.map nodC)] (.sl 19 ((pruneL l).map nodC)) := by
  cases e : orderedB l with
  | true => exact rblock51_y l hl e
  | false => have : pruneL l = l := by unfold pruneL; rw [if_neg (by simp [e])]
             rw [this]; exact rblock51_n l hl e
end Go.Proofs.Ytgecmooedhnenaa

