/- Between which numbers sums lie, by the program. No condition. -/
import Derived.Test.YtgecmooedhnenaaCw
namespace Go.Proofs.Ytgecmooedhnenaa
open Go.RowKit
set_option linter.unusedSimpArgs false
set_option linter.unusedVariables false
set_option linter.unnecessarySimpa false

structure Rng where
  lo : Int
  hi : Int
instance : Inhabited Rng := ⟨⟨0, 0⟩⟩
abbrev rngC (r : Rng) : List AV := [i64 r.lo, i64 r.hi]
abbrev rng (r : Rng) : AV := .agg (rngC r)
def foldR (a : Int) (l : List Int) : Nat → Rng
  | 0 => ⟨a, a⟩
  | k + 1 => ⟨min (foldR a l k).lo (l.getD k 0), max (foldR a l k).hi (l.getD k 0)⟩
noncomputable def of_l_I (a : Int) (l : List Int) (k : Nat) : VS := stt 28 [(4, .ptr 4 0 0), (5, .ptr 5 0 0), (11, ints .i64 l), (12, i64 l.length), (13, i64 k)] [(4, .var [i64 0, i64 0]), (5, .var (rngC (foldR a l k)))]
noncomputable def of_l_Z (a : Int) (l : List Int) : VS := of_l_I a l (l.length)
set_option maxRecDepth 100000 in
set_option maxHeartbeats 2000000 in
theorem of_l_s (a : Int) (l : List Int) (hl : l.length ≤ 1000) (k : Nat) (hk : k < l.length) : VT Try.prog (fnC Try.f233 [1, 1, 0, 1, 0, 0]) (of_l_I a l k) .normal (of_l_I a l (k + 1)) := by
  exact VT.run (W := [.r [] [], .br true, .r [] [.row [i64 (l.getD k 0)]], .r [] [], .r [] [.n ((↑k : Int) + 1)]]) (G := [.any (rg [(7, 1), (14, 13)]), .weak 13 (i64 (↑(k + 1) : Int)), .blk 5 (Blk.var [i64 (foldR a l (k + 1)).lo, i64 (foldR a l (k + 1)).hi]), .sort]) (by kernel_rfl) (.c (decide_eq_true (p := ((↑k : Int) < (↑l.length : Int))) (by omega)) <| .c (show 0 ≤ (↑k : Int) by omega) <| .c (map_at (row1 IntKind.i64) (0) (l := l) (i := k) hk) <| .c (IntWalk.i64_in ((↑k : Int) + 1) (by omega)) <| .c (Weak.int (k := .i64) (show (((↑k : Int) + 1) : Int) = ((↑(k + 1) : Int)) from (by omega))) <| .c (show BlkW (Blk.var [i64 (if l.getD k 0 < (foldR a l k).lo then l.getD k 0 else (foldR a l k).lo), i64 (if l.getD k 0 > (foldR a l k).hi then l.getD k 0 else (foldR a l k).hi)]) (Blk.var [i64 (foldR a l (k + 1)).lo, i64 (foldR a l (k + 1)).hi]) from (BlkW.var (.cons (Weak.int (show ((if l.getD k 0 < (foldR a l k).lo then l.getD k 0 else (foldR a l k).lo) : Int) = ((foldR a l (k + 1)).lo) from (by (simp only [foldR]; split <;> omega)))) (.cons (Weak.int (show ((if l.getD k 0 > (foldR a l k).hi then l.getD k 0 else (foldR a l k).hi) : Int) = ((foldR a l (k + 1)).hi) from (by (simp only [foldR]; split <;> omega)))) .nil)))) <| .n)
set_option maxRecDepth 100000 in
set_option maxHeartbeats 2000000 in
theorem of_l_e (a : Int) (l : List Int) (hl : l.length ≤ 1000) : VT Try.prog (fnC Try.f233 [1, 1, 0, 1, 0, 0]) (of_l_I a l (l.length)) (.exit 0) (of_l_Z a l) := by
  exact VT.run (W := [.r [] [], .br false]) (G := [.any [14], .sort]) (by kernel_rfl) (.c (decide_eq_false (p := ((↑l.length : Int) < (↑l.length : Int))) (by omega)) <| .n)
theorem of_l (a : Int) (l : List Int) (hl : l.length ≤ 1000) : VT Try.prog (fnC Try.f233 [1, 1, 0, 1, 0]) (of_l_I a l 0) (.exit 0) (of_l_Z a l) :=
  VT.loop (fun k => of_l_I a l k) (l.length) (fun k hk => of_l_s a l hl k hk) (of_l_e a l hl) (by intro h; cases h)

set_option maxRecDepth 100000 in
set_option maxHeartbeats 2000000 in
theorem of_v (a : Int) (l : List Int) (hl : l.length ≤ 1000) : VC Try.prog 233 ([i64 a, ints .i64 l]) (rng (foldR a l l.length)) := by
  have oz0 := (Weak.int (k := .i64) (show (((↑(List.map (row1 IntKind.i64) l).length : Int)) : Int) = ((↑l.length : Int)) from (by (simp; done))))
  have oz3 := @of_l (a) (l) hl
  exact VC.run (fn := Try.f233) (W := [.r [] [], .r [] [], .r [] [], .code [.any [0, 1, 8, 9, 10], .weak 12 (wO oz0), .weak 13 (i64 (↑0 : Int)), .blk 5 (Blk.var [i64 (foldR a l 0).lo, i64 (foldR a l 0).hi]), .sort] (Exit.exit 0) (zO oz3), .r [] []]) Try.func233 (by kernel_rfl) (.c oz0 <| .c (Weak.int (k := .i64) (show ((0) : Int) = ((↑0 : Int)) from (by omega))) <| .c (show BlkW (Blk.var [i64 a, i64 a]) (Blk.var [i64 (foldR a l 0).lo, i64 (foldR a l 0).hi]) from (BlkW.var (.cons (.refl _) (.cons (Weak.int (show ((a) : Int) = ((foldR a l 0).hi) from (by rfl))) .nil)))) <| .c oz3 <| .n)
theorem of1_v (a b : Int) : VC Try.prog 233 [i64 a, .sl 1 [[i64 b]]] (rng ⟨min a b, max a b⟩) := of_v a [b] (by simp)
theorem of2_v (a b c : Int) : VC Try.prog 233 [i64 a, .sl 1 [[i64 b], [i64 c]]] (rng ⟨min (min a b) c, max (max a b) c⟩) := of_v a [b, c] (by simp)
/-- One weight's range. -/
def spA (v lo hi z : Int) (g : Bool) : Rng := if g = true then ⟨min (min 0 (min (v * (lo - z)) (v * (hi - z)))) (max (v * (lo - z)) (v * (hi - z))), max (max 0 (min (v * (lo - z)) (v * (hi - z)))) (max (v * (lo - z)) (v * (hi - z)))⟩
  else ⟨min (v * (lo - z)) (v * (hi - z)), max (v * (lo - z)) (v * (hi - z))⟩
def rowR (w : List Int) (bias lo hi z : Int) (g : Bool) : Nat → Rng
  | 0 => ⟨bias, bias⟩
  | k + 1 => ⟨(rowR w bias lo hi z g k).lo + (spA (w.getD k 0) lo hi z g).lo, (rowR w bias lo hi z g k).hi + (spA (w.getD k 0) lo hi z g).hi⟩
theorem spA_bd {v lo hi z : Int} (g : Bool) (hv : In8 v) (h1 : In8 lo) (h2 : In8 hi) (h3 : In8 z) : -32640 ≤ (spA v lo hi z g).lo ∧ (spA v lo hi z g).lo ≤ 32640 ∧ -32640 ≤ (spA v lo hi z g).hi ∧ (spA v lo hi z g).hi ≤ 32640 := by
  unfold In8 at *
  have a := prod_bd (a := v) (b := lo - z) hv (by omega)
  have b := prod_bd (a := v) (b := hi - z) hv (by omega)
  unfold spA; split <;> simp only <;> omega
theorem rowR_bd {w : List Int} {bias lo hi z : Int} (g : Bool) (hw : ∀ v ∈ w, In8 v) (hb : In32 bias) (h1 : In8 lo) (h2 : In8 hi) (h3 : In8 z) : ∀ k : Nat, -2147483648 - 32640 * k ≤ (rowR w bias lo hi z g k).lo ∧ (rowR w bias lo hi z g k).lo ≤ 2147483647 + 32640 * k ∧ -2147483648 - 32640 * k ≤ (rowR w bias lo hi z g k).hi ∧ (rowR w bias lo hi z g k).hi ≤ 2147483647 + 32640 * k
  | 0 => by unfold In32 at hb; simp only [rowR]; omega
  | k + 1 => by
    have := rowR_bd g hw hb h1 h2 h3 k
    have := spA_bd g (v := w.getD k 0) (gt_of hw (by unfold In8; omega) k) h1 h2 h3
    simp only [rowR]; omega
noncomputable def row_l_I (w : List Int) (bias lo hi z : Int) (g : Bool) (k : Nat) : VS := stt 66 [(2, i8 lo), (3, i8 hi), (4, i8 z), (5, bv g), (12, .ptr 12 0 0), (13, .ptr 13 0 0), (22, ints .i8 w), (23, i64 w.length), (24, i64 k)] [(12, .var [i64 0, i64 0]), (13, .var (rngC (rowR w bias lo hi z g k)))]
noncomputable def row_l_Z (w : List Int) (bias lo hi z : Int) (g : Bool) : VS := row_l_I w bias lo hi z g (w.length)
set_option maxRecDepth 100000 in
set_option maxHeartbeats 2000000 in
theorem row_l_s (w : List Int) (bias lo hi z : Int) (g : Bool) (hw : ∀ v ∈ w, In8 v) (wl : w.length ≤ 1000000) (hb : In32 bias) (h1 : In8 lo) (h2 : In8 hi) (h3 : In8 z) (k : Nat) (hk : k < w.length) : VT Try.prog (fnC Try.f218 [1, 1, 0, 1, 0, 0]) (row_l_I w bias lo hi z g k) .normal (row_l_I w bias lo hi z g (k + 1)) := by
  have q1 := gt8 hw k
  have q2 := rowR_bd g hw hb h1 h2 h3 k
  have q3 := spA_bd g (v := w.getD k 0) (gt_of hw (by unfold In8; omega) k) h1 h2 h3
  unfold In8 at h1 h2 h3
  have q4 := prod_bd (a := w.getD k 0) (b := lo - z) q1 (by omega)
  have q5 := prod_bd (a := w.getD k 0) (b := hi - z) q1 (by omega)
  have oz0 := (decide_eq_true (p := ((↑k : Int) < (↑w.length : Int))) (by omega))
  have oz1 := (show 0 ≤ (↑k : Int) by omega)
  have oz2 := (map_at (row1 IntKind.i8) (0) (l := w) (i := k) hk)
  have oz3 := (IntWalk.i64_in (w.getD k 0) (by omega))
  have oz4 := (IntWalk.i64_in lo (by omega))
  have oz5 := (IntWalk.i64_in z (by omega))
  have oz6 := (IntWalk.i64_in (lo - z) (by omega))
  have oz7 := (IntWalk.i64_in (w.getD k 0 * (lo - z)) (by omega))
  have oz9 := (IntWalk.i64_in hi (by omega))
  have oz11 := (IntWalk.i64_in (hi - z) (by omega))
  have oz12 := (IntWalk.i64_in (w.getD k 0 * (hi - z)) (by omega))
  have oz13 := @of1_v (w.getD k 0 * (lo - z)) (w.getD k 0 * (hi - z))
  rcases Bool.eq_false_or_eq_true (g) with hc0 | hc0
  · have gc0 : g = true := by first | exact hc0 | exact of_decide_eq_true hc0 | exact of_decide_eq_false hc0 | simpa [eqNums] using hc0 | (simp [eqNums] at hc0 ⊢; first | done | assumption | omega)
    have oz15 := @of2_v (0) (min (w.getD k 0 * (lo - z)) (w.getD k 0 * (hi - z))) (max (w.getD k 0 * (lo - z)) (w.getD k 0 * (hi - z)))
    have oz16 := (show IntKind.i64.wrap ((rowR w bias lo hi z g k).lo + (Rng.mk (min (min 0 (min (w.getD k 0 * (lo - z)) (w.getD k 0 * (hi - z)))) (max (w.getD k 0 * (lo - z)) (w.getD k 0 * (hi - z)))) (max (max 0 (min (w.getD k 0 * (lo - z)) (w.getD k 0 * (hi - z)))) (max (w.getD k 0 * (lo - z)) (w.getD k 0 * (hi - z))))).lo) = (rowR w bias lo hi z g k).lo + (Rng.mk (min (min 0 (min (w.getD k 0 * (lo - z)) (w.getD k 0 * (hi - z)))) (max (w.getD k 0 * (lo - z)) (w.getD k 0 * (hi - z)))) (max (max 0 (min (w.getD k 0 * (lo - z)) (w.getD k 0 * (hi - z)))) (max (w.getD k 0 * (lo - z)) (w.getD k 0 * (hi - z))))).lo by (refine IntWalk.i64_in _ ?_; unfold spA at q3; split at q3 <;> simp_all <;> omega))
    have oz17 := (show IntKind.i64.wrap ((rowR w bias lo hi z g k).hi + (Rng.mk (min (min 0 (min (w.getD k 0 * (lo - z)) (w.getD k 0 * (hi - z)))) (max (w.getD k 0 * (lo - z)) (w.getD k 0 * (hi - z)))) (max (max 0 (min (w.getD k 0 * (lo - z)) (w.getD k 0 * (hi - z)))) (max (w.getD k 0 * (lo - z)) (w.getD k 0 * (hi - z))))).hi) = (rowR w bias lo hi z g k).hi + (Rng.mk (min (min 0 (min (w.getD k 0 * (lo - z)) (w.getD k 0 * (hi - z)))) (max (w.getD k 0 * (lo - z)) (w.getD k 0 * (hi - z)))) (max (max 0 (min (w.getD k 0 * (lo - z)) (w.getD k 0 * (hi - z)))) (max (w.getD k 0 * (lo - z)) (w.getD k 0 * (hi - z))))).hi by (refine IntWalk.i64_in _ ?_; unfold spA at q3; split at q3 <;> simp_all <;> omega))
    exact VT.run (W := [.r [] [], .br true, .r [] [.row (sO oz2)], .r [] [.n (nO oz3), .n (nO oz4), .n (nO oz5), .n (nO oz6), .n (nO oz7), .n (nO oz3), .n (nO oz9), .n (nO oz5), .n (nO oz11), .n (nO oz12), .callr (rO oz13)], .r [] [], .br true, .r [] [.callr (rO oz15)], .r [] [.n (nO oz16), .n (nO oz17)], .r [] [.n ((↑k : Int) + 1)]]) (G := [.any (rg [(15, 2), (25, 40)]), .drop [44, 16, 51], .weak 24 (i64 (↑(k + 1) : Int)), .blk 13 (Blk.var [i64 (rowR w bias lo hi z g (k + 1)).lo, i64 (rowR w bias lo hi z g (k + 1)).hi]), .sort]) (by kernel_rfl) (.c oz0 <| .c oz1 <| .c oz2 <| .c oz3 <| .c oz4 <| .c oz5 <| .c oz6 <| .c oz7 <| .c oz3 <| .c oz9 <| .c oz5 <| .c oz11 <| .c oz12 <| .c oz13 <| .c hc0 <| .c oz15 <| .c oz16 <| .c oz17 <| .c (IntWalk.i64_in ((↑k : Int) + 1) (by omega)) <| .c (Weak.int (k := .i64) (show (((↑k : Int) + 1) : Int) = ((↑(k + 1) : Int)) from (by omega))) <| .c (show BlkW (Blk.var [i64 ((rowR w bias lo hi z g k).lo + (Rng.mk (min (min 0 (min (w.getD k 0 * (lo - z)) (w.getD k 0 * (hi - z)))) (max (w.getD k 0 * (lo - z)) (w.getD k 0 * (hi - z)))) (max (max 0 (min (w.getD k 0 * (lo - z)) (w.getD k 0 * (hi - z)))) (max (w.getD k 0 * (lo - z)) (w.getD k 0 * (hi - z))))).lo), i64 ((rowR w bias lo hi z g k).hi + (Rng.mk (min (min 0 (min (w.getD k 0 * (lo - z)) (w.getD k 0 * (hi - z)))) (max (w.getD k 0 * (lo - z)) (w.getD k 0 * (hi - z)))) (max (max 0 (min (w.getD k 0 * (lo - z)) (w.getD k 0 * (hi - z)))) (max (w.getD k 0 * (lo - z)) (w.getD k 0 * (hi - z))))).hi)]) (Blk.var [i64 (rowR w bias lo hi z g (k + 1)).lo, i64 (rowR w bias lo hi z g (k + 1)).hi]) from (BlkW.var (.cons (Weak.int (show (((rowR w bias lo hi z g k).lo + (Rng.mk (min (min 0 (min (w.getD k 0 * (lo - z)) (w.getD k 0 * (hi - z)))) (max (w.getD k 0 * (lo - z)) (w.getD k 0 * (hi - z)))) (max (max 0 (min (w.getD k 0 * (lo - z)) (w.getD k 0 * (hi - z)))) (max (w.getD k 0 * (lo - z)) (w.getD k 0 * (hi - z))))).lo) : Int) = ((rowR w bias lo hi z g (k + 1)).lo) from (by (simp_all [rowR, spA]; done)))) (.cons (Weak.int (show (((rowR w bias lo hi z g k).hi + (Rng.mk (min (min 0 (min (w.getD k 0 * (lo - z)) (w.getD k 0 * (hi - z)))) (max (w.getD k 0 * (lo - z)) (w.getD k 0 * (hi - z)))) (max (max 0 (min (w.getD k 0 * (lo - z)) (w.getD k 0 * (hi - z)))) (max (w.getD k 0 * (lo - z)) (w.getD k 0 * (hi - z))))).hi) : Int) = ((rowR w bias lo hi z g (k + 1)).hi) from (by (simp_all [rowR, spA]; done)))) .nil)))) <| .n)
  · have gc0 : g = false := by first | exact hc0 | exact of_decide_eq_true hc0 | exact of_decide_eq_false hc0 | simpa [eqNums] using hc0 | (simp [eqNums] at hc0 ⊢; first | done | assumption | omega)
    have oz15 := (show IntKind.i64.wrap ((rowR w bias lo hi z g k).lo + (Rng.mk (min (w.getD k 0 * (lo - z)) (w.getD k 0 * (hi - z))) (max (w.getD k 0 * (lo - z)) (w.getD k 0 * (hi - z)))).lo) = (rowR w bias lo hi z g k).lo + (Rng.mk (min (w.getD k 0 * (lo - z)) (w.getD k 0 * (hi - z))) (max (w.getD k 0 * (lo - z)) (w.getD k 0 * (hi - z)))).lo by (refine IntWalk.i64_in _ ?_; unfold spA at q3; split at q3 <;> simp_all <;> omega))
    have oz16 := (show IntKind.i64.wrap ((rowR w bias lo hi z g k).hi + (Rng.mk (min (w.getD k 0 * (lo - z)) (w.getD k 0 * (hi - z))) (max (w.getD k 0 * (lo - z)) (w.getD k 0 * (hi - z)))).hi) = (rowR w bias lo hi z g k).hi + (Rng.mk (min (w.getD k 0 * (lo - z)) (w.getD k 0 * (hi - z))) (max (w.getD k 0 * (lo - z)) (w.getD k 0 * (hi - z)))).hi by (refine IntWalk.i64_in _ ?_; unfold spA at q3; split at q3 <;> simp_all <;> omega))
    exact VT.run (W := [.r [] [], .br true, .r [] [.row (sO oz2)], .r [] [.n (nO oz3), .n (nO oz4), .n (nO oz5), .n (nO oz6), .n (nO oz7), .n (nO oz3), .n (nO oz9), .n (nO oz5), .n (nO oz11), .n (nO oz12), .callr (rO oz13)], .r [] [], .br false, .r [] [.n (nO oz15), .n (nO oz16)], .r [] [.n ((↑k : Int) + 1)]]) (G := [.any (rg [(15, 2), (25, 22), (53, 12)]), .drop [44, 16], .weak 24 (i64 (↑(k + 1) : Int)), .blk 13 (Blk.var [i64 (rowR w bias lo hi z g (k + 1)).lo, i64 (rowR w bias lo hi z g (k + 1)).hi]), .sort]) (by kernel_rfl) (.c oz0 <| .c oz1 <| .c oz2 <| .c oz3 <| .c oz4 <| .c oz5 <| .c oz6 <| .c oz7 <| .c oz3 <| .c oz9 <| .c oz5 <| .c oz11 <| .c oz12 <| .c oz13 <| .c hc0 <| .c oz15 <| .c oz16 <| .c (IntWalk.i64_in ((↑k : Int) + 1) (by omega)) <| .c (Weak.int (k := .i64) (show (((↑k : Int) + 1) : Int) = ((↑(k + 1) : Int)) from (by omega))) <| .c (show BlkW (Blk.var [i64 ((rowR w bias lo hi z g k).lo + (Rng.mk (min (w.getD k 0 * (lo - z)) (w.getD k 0 * (hi - z))) (max (w.getD k 0 * (lo - z)) (w.getD k 0 * (hi - z)))).lo), i64 ((rowR w bias lo hi z g k).hi + (Rng.mk (min (w.getD k 0 * (lo - z)) (w.getD k 0 * (hi - z))) (max (w.getD k 0 * (lo - z)) (w.getD k 0 * (hi - z)))).hi)]) (Blk.var [i64 (rowR w bias lo hi z g (k + 1)).lo, i64 (rowR w bias lo hi z g (k + 1)).hi]) from (BlkW.var (.cons (Weak.int (show (((rowR w bias lo hi z g k).lo + (Rng.mk (min (w.getD k 0 * (lo - z)) (w.getD k 0 * (hi - z))) (max (w.getD k 0 * (lo - z)) (w.getD k 0 * (hi - z)))).lo) : Int) = ((rowR w bias lo hi z g (k + 1)).lo) from (by (simp_all [rowR, spA]; done)))) (.cons (Weak.int (show (((rowR w bias lo hi z g k).hi + (Rng.mk (min (w.getD k 0 * (lo - z)) (w.getD k 0 * (hi - z))) (max (w.getD k 0 * (lo - z)) (w.getD k 0 * (hi - z)))).hi) : Int) = ((rowR w bias lo hi z g (k + 1)).hi) from (by (simp_all [rowR, spA]; done)))) .nil)))) <| .n)
set_option maxRecDepth 100000 in
set_option maxHeartbeats 2000000 in
theorem row_l_e (w : List Int) (bias lo hi z : Int) (g : Bool) (hw : ∀ v ∈ w, In8 v) (wl : w.length ≤ 1000000) (hb : In32 bias) (h1 : In8 lo) (h2 : In8 hi) (h3 : In8 z) : VT Try.prog (fnC Try.f218 [1, 1, 0, 1, 0, 0]) (row_l_I w bias lo hi z g (w.length)) (.exit 0) (row_l_Z w bias lo hi z g) := by
  exact VT.run (W := [.r [] [], .br false]) (G := [.any [25], .sort]) (by kernel_rfl) (.c (decide_eq_false (p := ((↑w.length : Int) < (↑w.length : Int))) (by omega)) <| .n)
theorem row_l (w : List Int) (bias lo hi z : Int) (g : Bool) (hw : ∀ v ∈ w, In8 v) (wl : w.length ≤ 1000000) (hb : In32 bias) (h1 : In8 lo) (h2 : In8 hi) (h3 : In8 z) : VT Try.prog (fnC Try.f218 [1, 1, 0, 1, 0]) (row_l_I w bias lo hi z g 0) (.exit 0) (row_l_Z w bias lo hi z g) :=
  VT.loop (fun k => row_l_I w bias lo hi z g k) (w.length) (fun k hk => row_l_s w bias lo hi z g hw wl hb h1 h2 h3 k hk) (row_l_e w bias lo hi z g hw wl hb h1 h2 h3) (by intro h; cases h)

set_option maxRecDepth 100000 in
set_option maxHeartbeats 2000000 in
theorem row_v (w : List Int) (bias lo hi z : Int) (g : Bool) (hw : ∀ v ∈ w, In8 v) (wl : w.length ≤ 1000000) (hb : In32 bias) (h1 : In8 lo) (h2 : In8 hi) (h3 : In8 z) : VC Try.prog 218 ([ints .i8 w, i32 bias, i8 lo, i8 hi, i8 z, bv g]) (rng (rowR w bias lo hi z g w.length)) := by
  obtain ⟨b1, b2⟩ := id hb
  have oz0 := (IntWalk.i64_in bias (by omega))
  have oz2 := (Weak.int (k := .i64) (show (((↑(List.map (row1 IntKind.i8) w).length : Int)) : Int) = ((↑w.length : Int)) from (by (simp; done))))
  have oz5 := @row_l (w) (bias) (lo) (hi) (z) (g) hw wl hb h1 h2 h3
  exact VC.run (fn := Try.f218) (W := [.r [] [], .r [] [.n (nO oz0), .n (nO oz0)], .r [] [], .code [.any (rg [(0, 2), (17, 5)]), .weak 23 (wO oz2), .weak 24 (i64 (↑0 : Int)), .blk 13 (Blk.var [i64 (rowR w bias lo hi z g 0).lo, i64 (rowR w bias lo hi z g 0).hi]), .sort] (Exit.exit 0) (zO oz5), .r [] []]) Try.func218 (by kernel_rfl) (.c oz0 <| .c oz0 <| .c oz2 <| .c (Weak.int (k := .i64) (show ((0) : Int) = ((↑0 : Int)) from (by omega))) <| .c (show BlkW (Blk.var [i64 bias, i64 bias]) (Blk.var [i64 (rowR w bias lo hi z g 0).lo, i64 (rowR w bias lo hi z g 0).hi]) from (BlkW.var (.cons (.refl _) (.cons (Weak.int (show ((bias) : Int) = ((rowR w bias lo hi z g 0).hi) from (by rfl))) .nil)))) <| .c oz5 <| .n)
end Go.Proofs.Ytgecmooedhnenaa

