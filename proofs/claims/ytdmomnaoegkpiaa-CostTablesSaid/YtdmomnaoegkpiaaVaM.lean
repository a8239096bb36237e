/- Whether models and bundles may be, by the program. No condition. -/
import Derived.Test.YtdmomnaoegkpiaaVaB
namespace Go.Proofs.Ytdmomnaoegkpiaa
open Go.RowKit
set_option linter.unusedSimpArgs false
set_option linter.unusedVariables false
set_option linter.unnecessarySimpa false

/-- What is wrong, and where. -/
structure Flt where
  w : Int
  m : Int
  b : Int
  n : Int
abbrev fltC (f : Flt) : List AV := [i64 f.w, i64 f.m, i64 f.b, i64 f.n]
abbrev flt (f : Flt) : AV := .agg (fltC f)
def wholeE (u : Bun) : Int := if ¬ 0 < elems u.h u.x u.c then 5 else if u.cl < 2 ∨ u.cl > 16 then 2 else if u.m.length = 0 then 12 else if 3 < u.m.length then 4 else 0
set_option maxRecDepth 100000 in
set_option maxHeartbeats 2000000 in
theorem vwhole_v (u : Bun) (ok : u.Ok) (hl : u.m.length ≤ 1000) : VC Try.prog 89 ([bun u]) (i64 (wholeE u)) := by
  have q1 := elems_in u.h u.x u.c
  have q2 : u.inp.Ok := ⟨ok.h, ok.x, ok.c⟩
  have oz0 := @sRight_v (Shp.mk u.h u.x u.c) q2
  rcases Bool.eq_false_or_eq_true (!decide (0 < elems u.h u.x u.c)) with hc0 | hc0
  · have gc0 := bnt hc0
    exact (VC.run (fn := Try.f89) (W := [.r [] [], .r [] [.callr (rO oz0)], .br true, .r [] []]) (r := i64 5) Try.func89 (by kernel_rfl) (.c oz0 <| .c hc0 <| .n)).weak (WeakL.refl _) (Weak.int (show ((5) : Int) = (wholeE u) from (by (unfold wholeE; (try simp only [List.length_map] at *); (repeat first | rw [if_pos (by omega)] | rw [if_neg (by omega)])))))
  · have gc0 := bnf hc0
    rcases Bool.eq_false_or_eq_true (decide (u.cl < 2) || decide (u.cl > 16)) with hc1 | hc1
    · have gc1 : u.cl < 2 ∨ u.cl > 16 := by first | (simp only [Bool.or_eq_true, Bool.or_eq_false_iff, Bool.and_eq_true, Bool.and_eq_false_iff, Bool.not_eq_true', Bool.not_eq_false', decide_eq_true_eq, decide_eq_false_iff_not, beq_iff_eq, bne_iff_ne, ne_eq, beq_eq_false_iff_ne, bne_eq_false_iff_eq, eqNums, Bool.and_true] at hc1; first | exact hc1 | omega) | simpa using hc1 | (simp at hc1 ⊢; omega)
      exact (VC.run (fn := Try.f89) (W := [.r [] [], .r [] [.callr (rO oz0)], .br false, .r [] [.op false, .op false, .op false, .sel 1], .br true, .r [] []]) (r := i64 2) Try.func89 (by kernel_rfl) (.c oz0 <| .c hc0 <| .c hc1 <| .n)).weak (WeakL.refl _) (Weak.int (show ((2) : Int) = (wholeE u) from (by (unfold wholeE; (try simp only [List.length_map] at *); (repeat first | rw [if_pos (by omega)] | rw [if_neg (by omega)])))))
    · have gc1 : ¬u.cl < 2 ∧ ¬u.cl > 16 := by first | (simp only [Bool.or_eq_true, Bool.or_eq_false_iff, Bool.and_eq_true, Bool.and_eq_false_iff, Bool.not_eq_true', Bool.not_eq_false', decide_eq_true_eq, decide_eq_false_iff_not, beq_iff_eq, bne_iff_ne, ne_eq, beq_eq_false_iff_ne, bne_eq_false_iff_eq, eqNums, Bool.and_true] at hc1; first | exact hc1 | omega) | simpa using hc1 | (simp at hc1 ⊢; omega)
      rcases Bool.eq_false_or_eq_true ((↑(List.map mdlC u.m).length : Int) == 0) with hc2 | hc2
      · have gc2 : (↑(List.map mdlC u.m).length : Int) = 0 := bet hc2
        exact (VC.run (fn := Try.f89) (W := [.r [] [], .r [] [.callr (rO oz0)], .br false, .r [] [.op false, .op false, .op false, .sel 1], .br false, .r [] [], .br true, .r [] []]) (r := i64 12) Try.func89 (by kernel_rfl) (.c oz0 <| .c hc0 <| .c hc1 <| .c hc2 <| .n)).weak (WeakL.refl _) (Weak.int (show ((12) : Int) = (wholeE u) from (by (unfold wholeE; (try simp only [List.length_map] at *); (repeat first | rw [if_pos (by omega)] | rw [if_neg (by omega)])))))
      · have gc2 : ¬(↑(List.map mdlC u.m).length : Int) = 0 := bef hc2
        rcases Bool.eq_false_or_eq_true (decide ((↑(List.map mdlC u.m).length : Int) > 3)) with hc3 | hc3
        · have gc3 := of_decide_eq_true hc3
          exact (VC.run (fn := Try.f89) (W := [.r [] [], .r [] [.callr (rO oz0)], .br false, .r [] [.op false, .op false, .op false, .sel 1], .br false, .r [] [], .br false, .r [] [], .br true, .r [] []]) (r := i64 4) Try.func89 (by kernel_rfl) (.c oz0 <| .c hc0 <| .c hc1 <| .c hc2 <| .c hc3 <| .n)).weak (WeakL.refl _) (Weak.int (show ((4) : Int) = (wholeE u) from (by (unfold wholeE; (try simp only [List.length_map] at *); (repeat first | rw [if_pos (by omega)] | rw [if_neg (by omega)])))))
        · have gc3 := of_decide_eq_false hc3
          exact (VC.run (fn := Try.f89) (W := [.r [] [], .r [] [.callr (rO oz0)], .br false, .r [] [.op false, .op false, .op false, .sel 1], .br false, .r [] [], .br false, .r [] [], .br false, .r [] []]) (r := i64 0) Try.func89 (by kernel_rfl) (.c oz0 <| .c hc0 <| .c hc1 <| .c hc2 <| .c hc3 <| .n)).weak (WeakL.refl _) (Weak.int (show ((0) : Int) = (wholeE u) from (by (unfold wholeE; (try simp only [List.length_map] at *); (repeat first | rw [if_pos (by omega)] | rw [if_neg (by omega)])))))
/-- The shape that comes to the block k. -/
def inS (l : List Blc) (a : Shp) : Nat → Shp
  | 0 => a
  | k + 1 => lastS (l.getD k default).n (inS l a k)
theorem inS_ok {l : List Blc} {a : Shp} (h : a.Ok) : ∀ k, (inS l a k).Ok
  | 0 => h
  | k + 1 => lastS_ok (inS_ok h k)
/-- What is wrong with the block k. -/
abbrev vB (l : List Blc) (a : Shp) (cl : Int) (k : Nat) : Int × Int := validE (l.getD k default) (inS l a k) cl ((k : Int) == ((List.map blcC l).length : Int) - 1)
theorem validE_ok {x : Blc} {a : Shp} {cl : Int} {last : Bool} (h : (validE x a cl last).2 = 0) : SOK x.n a := by
  by_cases g : SOK x.n a
  · exact g
  · rw [validE_s g] at h; exact absurd h (shapesE_n g)
noncomputable def vmodel_ly_I (u : Bun) (l : List Blc) (a : Shp) (j : Int) (k : Nat) : VS := stt 77 [(1, i64 j), (2, .ptr 2 0 0), (4, .ptr 4 0 0), (5, .sl 5 (l.map blcC)), (6, .ptr 6 0 0), (34, .sl 5 (l.map blcC)), (35, i64 l.length), (36, i64 k)] [(2, .var (bunC u)), (4, .var [i64 0, i64 0, i64 0, i64 0]), (6, .var (shpC (inS l a k)))]
noncomputable def vmodel_ly_Z (u : Bun) (l : List Blc) (a : Shp) (j : Int) : VS := vmodel_ly_I u l a j (l.length)
set_option maxRecDepth 100000 in
set_option maxHeartbeats 2000000 in
theorem vmodel_ly_s (u : Bun) (l : List Blc) (a : Shp) (j : Int) (ok : ∀ d ∈ l, d.Ok) (sm : ∀ d ∈ l, d.Sm) (oka : a.Ok) (hl : l.length ≤ 6) (h : ∀ k, k < l.length → (vB l a u.cl k).2 = 0) (k : Nat) (hk : k < l.length) : VT Try.prog (fnC Try.f90 [1, 1, 1, 1, 0, 1, 0, 0]) (vmodel_ly_I u l a j k) .normal (vmodel_ly_I u l a j (k + 1)) := by
  have q := h k hk
  have q1 := validE_ok q
  have q2 := getD_in ok hk
  have q3 := getD_in sm hk
  have q4 := inS_ok (l := l) oka k
  have lb : (List.map blcC l).length = l.length := List.length_map _
  have q5 := q2.n
  have q6 := q3.s
  have q7 := q3.l
  have l1 := growL_len nextE (l.getD k default).n (inS l a k) (l.getD k default).n.length
  have l3 : (List.map shpC (growL nextE (l.getD k default).n (inS l a k) (l.getD k default).n.length)).length = (growL nextE (l.getD k default).n (inS l a k) (l.getD k default).n.length).length := List.length_map _
  have i1 : ((↑(List.map shpC (growL nextE (l.getD k default).n (inS l a k) (l.getD k default).n.length)).length : Int) - 1).toNat = (l.getD k default).n.length := by omega
  have oz2 := (map_at (blcC) (default) (l := l) (i := k) hk)
  have oz3 := (IntWalk.i64_in ((↑(List.map blcC l).length : Int) - 1) (by omega))
  have oz4 := @vblock_v (l.getD k default) (inS l a k) (u.cl) ((↑k : Int) == (↑(List.map blcC l).length : Int) - 1) q2 q4 q3
  have oz6 := @shapes_y ((l.getD k default).n) (inS l a k) q5 q6 q1
  have oz7 := (IntWalk.i64_in ((↑(List.map shpC (growL nextE (l.getD k default).n (inS l a k) (l.getD k default).n.length)).length : Int) - 1) (by omega))
  have oz9 := (map_at (shpC) (default) (l := growL nextE (l.getD k default).n (inS l a k) (l.getD k default).n.length) (i := ((↑(List.map shpC (growL nextE (l.getD k default).n (inS l a k) (l.getD k default).n.length)).length : Int) - 1).toNat) (by omega))
  exact VT.run (W := [.r [] [], .br true, .r [] [.row (sO oz2)], .r [] [.n (nO oz3), .callr (rO oz4)], .r [] [], .br false, .r [] [.callr (rO oz6)], .r [] [.n (nO oz7), .row (sO oz9)], .r [] [.n ((↑k : Int) + 1)]]) (G := [.any (rg [(7, 7), (37, 19), (61, 15)]), .drop [8], .weak 36 (i64 (↑(k + 1) : Int)), .blk 6 (Blk.var [i64 (inS l a (k + 1)).h, i64 (inS l a (k + 1)).x, i64 (inS l a (k + 1)).c]), .sort]) (by kernel_rfl) (.c (decide_eq_true (p := ((↑k : Int) < (↑l.length : Int))) (by omega)) <| .c (show 0 ≤ (↑k : Int) by omega) <| .c oz2 <| .c oz3 <| .c oz4 <| .c (show ((validE (l.getD k default) (inS l a k) u.cl ((↑k : Int) == (↑(List.map blcC l).length : Int) - 1)).snd != 0) = false by (rw [q]; rfl)) <| .c oz6 <| .c oz7 <| .c (show 0 ≤ (↑(List.map shpC (growL nextE (l.getD k default).n (inS l a k) (l.getD k default).n.length)).length : Int) - 1 by omega) <| .c oz9 <| .c (IntWalk.i64_in ((↑k : Int) + 1) (by omega)) <| .c (Weak.int (k := .i64) (show (((↑k : Int) + 1) : Int) = ((↑(k + 1) : Int)) from (by omega))) <| .c (show BlkW (Blk.var [i64 ((growL nextE (l.getD k default).n (inS l a k) (l.getD k default).n.length).getD ((↑(List.map shpC (growL nextE (l.getD k default).n (inS l a k) (l.getD k default).n.length)).length : Int) - 1).toNat default).h, i64 ((growL nextE (l.getD k default).n (inS l a k) (l.getD k default).n.length).getD ((↑(List.map shpC (growL nextE (l.getD k default).n (inS l a k) (l.getD k default).n.length)).length : Int) - 1).toNat default).x, i64 ((growL nextE (l.getD k default).n (inS l a k) (l.getD k default).n.length).getD ((↑(List.map shpC (growL nextE (l.getD k default).n (inS l a k) (l.getD k default).n.length)).length : Int) - 1).toNat default).c]) (Blk.var [i64 (inS l a (k + 1)).h, i64 (inS l a (k + 1)).x, i64 (inS l a (k + 1)).c]) from (BlkW.var (.cons (Weak.int (show ((((growL nextE (l.getD k default).n (inS l a k) (l.getD k default).n.length).getD ((↑(List.map shpC (growL nextE (l.getD k default).n (inS l a k) (l.getD k default).n.length)).length : Int) - 1).toNat default).h) : Int) = ((inS l a (k + 1)).h) from (by (rw [i1] <;> rfl)))) (.cons (Weak.int (show ((((growL nextE (l.getD k default).n (inS l a k) (l.getD k default).n.length).getD ((↑(List.map shpC (growL nextE (l.getD k default).n (inS l a k) (l.getD k default).n.length)).length : Int) - 1).toNat default).x) : Int) = ((inS l a (k + 1)).x) from (by (rw [i1] <;> rfl)))) (.cons (Weak.int (show ((((growL nextE (l.getD k default).n (inS l a k) (l.getD k default).n.length).getD ((↑(List.map shpC (growL nextE (l.getD k default).n (inS l a k) (l.getD k default).n.length)).length : Int) - 1).toNat default).c) : Int) = ((inS l a (k + 1)).c) from (by (rw [i1] <;> rfl)))) .nil))))) <| .n)
set_option maxRecDepth 100000 in
set_option maxHeartbeats 2000000 in
theorem vmodel_ly_e (u : Bun) (l : List Blc) (a : Shp) (j : Int) (ok : ∀ d ∈ l, d.Ok) (sm : ∀ d ∈ l, d.Sm) (oka : a.Ok) (hl : l.length ≤ 6) (h : ∀ k, k < l.length → (vB l a u.cl k).2 = 0) : VT Try.prog (fnC Try.f90 [1, 1, 1, 1, 0, 1, 0, 0]) (vmodel_ly_I u l a j (l.length)) (.exit 1) (vmodel_ly_Z u l a j) := by
  exact VT.run (W := [.r [] [], .br false]) (G := [.any [37], .sort]) (by kernel_rfl) (.c (decide_eq_false (p := ((↑l.length : Int) < (↑l.length : Int))) (by omega)) <| .n)
theorem vmodel_ly (u : Bun) (l : List Blc) (a : Shp) (j : Int) (ok : ∀ d ∈ l, d.Ok) (sm : ∀ d ∈ l, d.Sm) (oka : a.Ok) (hl : l.length ≤ 6) (h : ∀ k, k < l.length → (vB l a u.cl k).2 = 0) : VT Try.prog (fnC Try.f90 [1, 1, 1, 1, 0, 1, 0]) (vmodel_ly_I u l a j 0) (.exit 1) (vmodel_ly_Z u l a j) :=
  VT.loop (fun k => vmodel_ly_I u l a j k) (l.length) (fun k hk => vmodel_ly_s u l a j ok sm oka hl h k hk) (vmodel_ly_e u l a j ok sm oka hl h) (by intro h; cases h)

noncomputable def vmodel_ln_I (u : Bun) (l : List Blc) (a : Shp) (j : Int) (m : Nat) (k : Nat) : VS := stt 77 [(1, i64 j), (2, .ptr 2 0 0), (4, .ptr 4 0 0), (5, .sl 5 (l.map blcC)), (6, .ptr 6 0 0), (34, .sl 5 (l.map blcC)), (35, i64 l.length), (36, i64 k)] [(2, .var (bunC u)), (4, .var [i64 0, i64 0, i64 0, i64 0]), (6, .var (shpC (inS l a k)))]
noncomputable def vmodel_ln_Z (u : Bun) (l : List Blc) (a : Shp) (j : Int) (m : Nat) : VS := stt 77 [(4, .ptr 4 0 0)] [(4, .var [i64 (vB l a u.cl m).2, i64 j, i64 m, i64 (vB l a u.cl m).1])]
set_option maxRecDepth 100000 in
set_option maxHeartbeats 2000000 in
theorem vmodel_ln_s (u : Bun) (l : List Blc) (a : Shp) (j : Int) (m : Nat) (ok : ∀ d ∈ l, d.Ok) (sm : ∀ d ∈ l, d.Sm) (oka : a.Ok) (hl : l.length ≤ 6) (hm : m < l.length) (hf : (vB l a u.cl m).2 ≠ 0) (h : ∀ k, k < m → (vB l a u.cl k).2 = 0) (k : Nat) (hk : k < m) : VT Try.prog (fnC Try.f90 [1, 1, 1, 1, 0, 1, 0, 0]) (vmodel_ln_I u l a j m k) .normal (vmodel_ln_I u l a j m (k + 1)) := by
  have q := h k hk
  have q1 := validE_ok q
  have q2 := getD_in ok (show k < l.length by omega)
  have q3 := getD_in sm (show k < l.length by omega)
  have q4 := inS_ok (l := l) oka k
  have lb : (List.map blcC l).length = l.length := List.length_map _
  have q5 := q2.n
  have q6 := q3.s
  have q7 := q3.l
  have l1 := growL_len nextE (l.getD k default).n (inS l a k) (l.getD k default).n.length
  have l3 : (List.map shpC (growL nextE (l.getD k default).n (inS l a k) (l.getD k default).n.length)).length = (growL nextE (l.getD k default).n (inS l a k) (l.getD k default).n.length).length := List.length_map _
  have i1 : ((↑(List.map shpC (growL nextE (l.getD k default).n (inS l a k) (l.getD k default).n.length)).length : Int) - 1).toNat = (l.getD k default).n.length := by omega
  have oz2 := (map_at (blcC) (default) (l := l) (i := k) (by omega))
  have oz3 := (IntWalk.i64_in ((↑(List.map blcC l).length : Int) - 1) (by omega))
  have oz4 := @vblock_v (l.getD k default) (inS l a k) (u.cl) ((↑k : Int) == (↑(List.map blcC l).length : Int) - 1) q2 q4 q3
  have oz6 := @shapes_y ((l.getD k default).n) (inS l a k) q5 q6 q1
  have oz7 := (IntWalk.i64_in ((↑(List.map shpC (growL nextE (l.getD k default).n (inS l a k) (l.getD k default).n.length)).length : Int) - 1) (by omega))
  have oz9 := (map_at (shpC) (default) (l := growL nextE (l.getD k default).n (inS l a k) (l.getD k default).n.length) (i := ((↑(List.map shpC (growL nextE (l.getD k default).n (inS l a k) (l.getD k default).n.length)).length : Int) - 1).toNat) (by omega))
  exact VT.run (W := [.r [] [], .br true, .r [] [.row (sO oz2)], .r [] [.n (nO oz3), .callr (rO oz4)], .r [] [], .br false, .r [] [.callr (rO oz6)], .r [] [.n (nO oz7), .row (sO oz9)], .r [] [.n ((↑k : Int) + 1)]]) (G := [.any (rg [(7, 7), (37, 19), (61, 15)]), .drop [8], .weak 36 (i64 (↑(k + 1) : Int)), .blk 6 (Blk.var [i64 (inS l a (k + 1)).h, i64 (inS l a (k + 1)).x, i64 (inS l a (k + 1)).c]), .sort]) (by kernel_rfl) (.c (decide_eq_true (p := ((↑k : Int) < (↑l.length : Int))) (by omega)) <| .c (show 0 ≤ (↑k : Int) by omega) <| .c oz2 <| .c oz3 <| .c oz4 <| .c (show ((validE (l.getD k default) (inS l a k) u.cl ((↑k : Int) == (↑(List.map blcC l).length : Int) - 1)).snd != 0) = false by (rw [q]; rfl)) <| .c oz6 <| .c oz7 <| .c (show 0 ≤ (↑(List.map shpC (growL nextE (l.getD k default).n (inS l a k) (l.getD k default).n.length)).length : Int) - 1 by omega) <| .c oz9 <| .c (IntWalk.i64_in ((↑k : Int) + 1) (by omega)) <| .c (Weak.int (k := .i64) (show (((↑k : Int) + 1) : Int) = ((↑(k + 1) : Int)) from (by omega))) <| .c (show BlkW (Blk.var [i64 ((growL nextE (l.getD k default).n (inS l a k) (l.getD k default).n.length).getD ((↑(List.map shpC (growL nextE (l.getD k default).n (inS l a k) (l.getD k default).n.length)).length : Int) - 1).toNat default).h, i64 ((growL nextE (l.getD k default).n (inS l a k) (l.getD k default).n.length).getD ((↑(List.map shpC (growL nextE (l.getD k default).n (inS l a k) (l.getD k default).n.length)).length : Int) - 1).toNat default).x, i64 ((growL nextE (l.getD k default).n (inS l a k) (l.getD k default).n.length).getD ((↑(List.map shpC (growL nextE (l.getD k default).n (inS l a k) (l.getD k default).n.length)).length : Int) - 1).toNat default).c]) (Blk.var [i64 (inS l a (k + 1)).h, i64 (inS l a (k + 1)).x, i64 (inS l a (k + 1)).c]) from (BlkW.var (.cons (Weak.int (show ((((growL nextE (l.getD k default).n (inS l a k) (l.getD k default).n.length).getD ((↑(List.map shpC (growL nextE (l.getD k default).n (inS l a k) (l.getD k default).n.length)).length : Int) - 1).toNat default).h) : Int) = ((inS l a (k + 1)).h) from (by (rw [i1] <;> rfl)))) (.cons (Weak.int (show ((((growL nextE (l.getD k default).n (inS l a k) (l.getD k default).n.length).getD ((↑(List.map shpC (growL nextE (l.getD k default).n (inS l a k) (l.getD k default).n.length)).length : Int) - 1).toNat default).x) : Int) = ((inS l a (k + 1)).x) from (by (rw [i1] <;> rfl)))) (.cons (Weak.int (show ((((growL nextE (l.getD k default).n (inS l a k) (l.getD k default).n.length).getD ((↑(List.map shpC (growL nextE (l.getD k default).n (inS l a k) (l.getD k default).n.length)).length : Int) - 1).toNat default).c) : Int) = ((inS l a (k + 1)).c) from (by (rw [i1] <;> rfl)))) .nil))))) <| .n)
set_option maxRecDepth 100000 in
set_option maxHeartbeats 2000000 in
theorem vmodel_ln_e (u : Bun) (l : List Blc) (a : Shp) (j : Int) (m : Nat) (ok : ∀ d ∈ l, d.Ok) (sm : ∀ d ∈ l, d.Sm) (oka : a.Ok) (hl : l.length ≤ 6) (hm : m < l.length) (hf : (vB l a u.cl m).2 ≠ 0) (h : ∀ k, k < m → (vB l a u.cl k).2 = 0) : VT Try.prog (fnC Try.f90 [1, 1, 1, 1, 0, 1, 0, 0]) (vmodel_ln_I u l a j m (m)) (.ret) (vmodel_ln_Z u l a j m) := by
  have q2 := getD_in ok hm
  have q3 := getD_in sm hm
  have q4 := inS_ok (l := l) oka m
  have lb : (List.map blcC l).length = l.length := List.length_map _
  have oz2 := (map_at (blcC) (default) (l := l) (i := m) hm)
  have oz3 := (IntWalk.i64_in ((↑(List.map blcC l).length : Int) - 1) (by omega))
  have oz4 := @vblock_v (l.getD m default) (inS l a m) (u.cl) ((↑m : Int) == (↑(List.map blcC l).length : Int) - 1) q2 q4 q3
  exact VT.run (W := [.r [] [], .br true, .r [] [.row (sO oz2)], .r [] [.n (nO oz3), .callr (rO oz4)], .r [] [], .br true, .r [] []]) (G := [.any (rg [(1, 2), (5, 6), (34, 27)]), .drop [2, 6, 8], .sort]) (by kernel_rfl) (.c (decide_eq_true (p := ((↑m : Int) < (↑l.length : Int))) (by omega)) <| .c (show 0 ≤ (↑m : Int) by omega) <| .c oz2 <| .c oz3 <| .c oz4 <| .c (show ((validE (l.getD m default) (inS l a m) u.cl ((↑m : Int) == (↑(List.map blcC l).length : Int) - 1)).snd != 0) = true by (rw [bne_iff_ne]; exact hf)) <| .n)
theorem vmodel_ln (u : Bun) (l : List Blc) (a : Shp) (j : Int) (m : Nat) (ok : ∀ d ∈ l, d.Ok) (sm : ∀ d ∈ l, d.Sm) (oka : a.Ok) (hl : l.length ≤ 6) (hm : m < l.length) (hf : (vB l a u.cl m).2 ≠ 0) (h : ∀ k, k < m → (vB l a u.cl k).2 = 0) : VT Try.prog (fnC Try.f90 [1, 1, 1, 1, 0, 1, 0]) (vmodel_ln_I u l a j m 0) (.ret) (vmodel_ln_Z u l a j m) :=
  VT.loop (fun k => vmodel_ln_I u l a j m k) (m) (fun k hk => vmodel_ln_s u l a j m ok sm oka hl hm hf h k hk) (vmodel_ln_e u l a j m ok sm oka hl hm hf h) (by intro h; cases h)
def modelE (l : List Blc) (a : Shp) (cl j : Int) : Flt :=
  if l.length = 0 then ⟨12, j, -1, -1⟩ else if 6 < l.length then ⟨4, j, -1, -1⟩
  else if firstBad (fun k => (vB l a cl k).2 == 0) l.length < l.length then ⟨(vB l a cl (firstBad (fun k => (vB l a cl k).2 == 0) l.length)).2, j, firstBad (fun k => (vB l a cl k).2 == 0) l.length, (vB l a cl (firstBad (fun k => (vB l a cl k).2 == 0) l.length)).1⟩
  else ⟨0, 0, 0, 0⟩
theorem modelE_y {l : List Blc} {a : Shp} {cl j : Int} (h0 : ¬ l.length = 0) (h6 : l.length ≤ 6) (h : ∀ k, k < l.length → (vB l a cl k).2 = 0) : modelE l a cl j = ⟨0, 0, 0, 0⟩ := by
  unfold modelE
  rw [if_neg h0, if_neg (by omega), firstBad_all fun k hk => by simpa using h k hk, if_neg (by omega)]
theorem modelE_m {l : List Blc} {a : Shp} {cl j : Int} {m : Nat} (h6 : l.length ≤ 6) (hm : m < l.length) (hf : (vB l a cl m).2 ≠ 0) (h : ∀ k, k < m → (vB l a cl k).2 = 0) : modelE l a cl j = ⟨(vB l a cl m).2, j, m, (vB l a cl m).1⟩ := by
  have e := firstBad_at (p := fun k => (vB l a cl k).2 == 0) (m := m) (by simpa using hf) (fun k hk => by simpa using h k hk) hm
  unfold modelE
  rw [if_neg (by omega), if_neg (by omega), e, if_pos hm]
theorem modelE_cases (l : List Blc) (a : Shp) (cl : Int) : (¬ l.length = 0 ∧ l.length ≤ 6 ∧ ∀ k, k < l.length → (vB l a cl k).2 = 0) ∨ (l.length = 0 ∨ 6 < l.length) ∨ (l.length ≤ 6 ∧ ∃ m, m < l.length ∧ (vB l a cl m).2 ≠ 0 ∧ ∀ k, k < m → (vB l a cl k).2 = 0) := by
  by_cases c : l.length = 0 ∨ 6 < l.length
  · exact .inr (.inl c)
  · rcases all_or (fun k => (vB l a cl k).2 == 0) l.length with h | ⟨m, h1, h2, h3⟩
    · exact .inl ⟨by omega, by omega, fun k hk => by simpa using h k hk⟩
    · exact .inr (.inr ⟨by omega, m, h1, by simpa using h2, fun k hk => by simpa using h3 k hk⟩)
structure Bun.Sm (u : Bun) : Prop where
  l : u.m.length ≤ 4
  m : ∀ d ∈ u.m, d.l.length ≤ 8 ∧ ∀ x ∈ d.l, x.Sm
theorem Bun.sm {u : Bun} (h : bunS u = true) : u.Sm := by
  simp only [bunS, mdlS, Bool.and_eq_true, decide_eq_true_eq, List.all_eq_true] at h
  exact ⟨h.1, fun d hd => ⟨(h.2 d hd).1, fun x hx => Blc.sm ((h.2 d hd).2 x hx)⟩⟩
set_option maxRecDepth 100000 in
set_option maxHeartbeats 2000000 in
theorem vmodel_y (u : Bun) (j : Nat) (ok : u.Ok) (sm : u.Sm) (hj : j < u.m.length) (h0 : ¬ (u.m.getD j default).l.length = 0) (h6 : (u.m.getD j default).l.length ≤ 6) (h : ∀ k, k < (u.m.getD j default).l.length → (vB (u.m.getD j default).l u.inp u.cl k).2 = 0) : VC Try.prog 90 ([bun u, i64 j]) (flt ⟨0, 0, 0, 0⟩) := by
  have q2 : u.inp.Ok := ⟨ok.h, ok.x, ok.c⟩
  have q3 := (getD_in ok.m hj).l
  have q4 := (getD_in sm.m hj).2
  have q5 := sm.l
  have oz1 := (map_at (mdlC) (default) (l := u.m) (i := j) hj)
  have oz4 := (Weak.int (k := .i64) (show (((↑(List.map blcC (u.m.getD j default).l).length : Int)) : Int) = ((↑(u.m.getD j default).l.length : Int)) from (by (simp; done))))
  have oz6 := @vmodel_ly (u) ((u.m.getD j default).l) (Shp.mk u.1 u.2 u.3) ((↑j : Int)) q3 q4 q2 h6 h
  exact VC.run (fn := Try.f90) (W := [.r [] [], .r [] [.row (sO oz1)], .r [] [], .br false, .r [] [], .br false, .r [] [], .r [] [], .code [.any (rg [(0, 1), (14, 10), (26, 4), (32, 2)]), .weak 35 (wO oz4), .weak 36 (i64 (↑0 : Int)), .sort] (Exit.exit 1) (zO oz6), .r [] []]) Try.func90 (by kernel_rfl) (.c (show 0 ≤ (↑j : Int) by omega) <| .c oz1 <| .c (show ((↑(List.map blcC (u.m.getD j default).l).length : Int) == 0) = false by (simp at *; omega)) <| .c (show decide ((↑(List.map blcC (u.m.getD j default).l).length : Int) > 6) = false by (simp at *; omega)) <| .c oz4 <| .c (Weak.int (k := .i64) (show ((0) : Int) = ((↑0 : Int)) from (by omega))) <| .c oz6 <| .n)

set_option maxRecDepth 100000 in
set_option maxHeartbeats 2000000 in
theorem vmodel_m (u : Bun) (j m : Nat) (ok : u.Ok) (sm : u.Sm) (hj : j < u.m.length) (h6 : (u.m.getD j default).l.length ≤ 6) (hm : m < (u.m.getD j default).l.length) (hf : (vB (u.m.getD j default).l u.inp u.cl m).2 ≠ 0) (h : ∀ k, k < m → (vB (u.m.getD j default).l u.inp u.cl k).2 = 0) : VC Try.prog 90 ([bun u, i64 j]) (flt ⟨(vB (u.m.getD j default).l u.inp u.cl m).2, j, m, (vB (u.m.getD j default).l u.inp u.cl m).1⟩) := by
  have q2 : u.inp.Ok := ⟨ok.h, ok.x, ok.c⟩
  have q3 := (getD_in ok.m hj).l
  have q4 := (getD_in sm.m hj).2
  have q5 := sm.l
  have oz1 := (map_at (mdlC) (default) (l := u.m) (i := j) hj)
  have oz4 := (Weak.int (k := .i64) (show (((↑(List.map blcC (u.m.getD j default).l).length : Int)) : Int) = ((↑(u.m.getD j default).l.length : Int)) from (by (simp; done))))
  have oz6 := @vmodel_ln (u) ((u.m.getD j default).l) (Shp.mk u.1 u.2 u.3) ((↑j : Int)) (m) q3 q4 q2 h6 hm hf h
  exact VC.run (fn := Try.f90) (W := [.r [] [], .r [] [.row (sO oz1)], .r [] [], .br false, .r [] [], .br false, .r [] [], .r [] [], .code [.any (rg [(0, 1), (14, 10), (26, 4), (32, 2)]), .weak 35 (wO oz4), .weak 36 (i64 (↑0 : Int)), .sort] (Exit.ret) (zO oz6)]) Try.func90 (by kernel_rfl) (.c (show 0 ≤ (↑j : Int) by omega) <| .c oz1 <| .c (show ((↑(List.map blcC (u.m.getD j default).l).length : Int) == 0) = false by (simp only [decide_eq_true_eq, decide_eq_false_iff_not, beq_iff_eq, bne_iff_ne, ne_eq, beq_eq_false_iff_ne, bne_eq_false_iff_eq, Bool.not_eq_true', Bool.not_eq_false', Bool.not_eq_eq_eq_not, Bool.not_true, Bool.not_false, Classical.not_not, Int.not_lt, Int.not_le, Bool.and_eq_true, Bool.and_eq_false_iff, Bool.or_eq_true, Bool.or_eq_false_iff, Bool.and_true, Bool.true_and, Bool.and_false, Bool.false_and, Bool.or_false, Bool.false_or, eqNums, List.length_map, List.length_append, List.length_cons, List.length_nil, List.length_set, List.length_replicate, List.length_take, List.length_drop, List.length_range, Int.toNat_natCast, Nat.zero_add, List.map_eq_nil_iff]; (first | done | with_reducible assumption | omega | contradiction))) <| .c (show decide ((↑(List.map blcC (u.m.getD j default).l).length : Int) > 6) = false by (simp at *; omega)) <| .c oz4 <| .c (Weak.int (k := .i64) (show ((0) : Int) = ((↑0 : Int)) from (by omega))) <| .c oz6 <| .n)

set_option maxRecDepth 100000 in
set_option maxHeartbeats 2000000 in
theorem vmodel_a (u : Bun) (j : Nat) (sm : u.Sm) (hj : j < u.m.length) (h : (u.m.getD j default).l.length = 0 ∨ 6 < (u.m.getD j default).l.length) : VC Try.prog 90 ([bun u, i64 j]) (flt (modelE (u.m.getD j default).l u.inp u.cl j)) := by
  have q5 := sm.l
  have oz0 := (show 0 ≤ (↑j : Int) by omega)
  have oz1 := (map_at (mdlC) (default) (l := u.m) (i := j) hj)
  rcases Bool.eq_false_or_eq_true ((↑(List.map blcC (u.m.getD j default).l).length : Int) == 0) with hc0 | hc0
  · have gc0 : (↑(List.map blcC (u.m.getD j default).l).length : Int) = 0 := bet hc0
    exact (VC.run (fn := Try.f90) (W := [.r [] [], .r [] [.row (sO oz1)], .r [] [], .br true, .r [] []]) (r := AV.agg [i64 12, i64 (↑j : Int), i64 (-1), i64 (-1)]) Try.func90 (by kernel_rfl) (.c oz0 <| .c oz1 <| .c hc0 <| .n)).weak (WeakL.refl _) (Weak.agg (.cons (Weak.int (show ((12) : Int) = ((modelE (u.m.getD j default).l u.inp u.cl (↑j : Int)).w) from (by (unfold modelE; (try simp only [List.length_map] at *); (repeat first | rw [if_pos (by omega)] | rw [if_neg (by omega)]))))) (.cons (Weak.int (show (((↑j : Int)) : Int) = ((modelE (u.m.getD j default).l u.inp u.cl (↑j : Int)).m) from (by (unfold modelE; (try simp only [List.length_map] at *); (repeat first | rw [if_pos (by omega)] | rw [if_neg (by omega)]))))) (.cons (Weak.int (show ((-1) : Int) = ((modelE (u.m.getD j default).l u.inp u.cl (↑j : Int)).b) from (by (unfold modelE; (try simp only [List.length_map] at *); (repeat first | rw [if_pos (by omega)] | rw [if_neg (by omega)]))))) (.cons (Weak.int (show ((-1) : Int) = ((modelE (u.m.getD j default).l u.inp u.cl (↑j : Int)).n) from (by (unfold modelE; (try simp only [List.length_map] at *); (repeat first | rw [if_pos (by omega)] | rw [if_neg (by omega)]))))) .nil)))))
  · have gc0 : ¬(↑(List.map blcC (u.m.getD j default).l).length : Int) = 0 := bef hc0
    exact (VC.run (fn := Try.f90) (W := [.r [] [], .r [] [.row (sO oz1)], .r [] [], .br false, .r [] [], .br true, .r [] []]) (r := AV.agg [i64 4, i64 (↑j : Int), i64 (-1), i64 (-1)]) Try.func90 (by kernel_rfl) (.c oz0 <| .c oz1 <| .c hc0 <| .c (show decide ((↑(List.map blcC (u.m.getD j default).l).length : Int) > 6) = true by (simp only [decide_eq_true_eq, decide_eq_false_iff_not, beq_iff_eq, bne_iff_ne, ne_eq, beq_eq_false_iff_ne, bne_eq_false_iff_eq, Bool.not_eq_true', Bool.not_eq_false', Bool.not_eq_eq_eq_not, Bool.not_true, Bool.not_false, Classical.not_not, Int.not_lt, Int.not_le, Bool.and_eq_true, Bool.and_eq_false_iff, Bool.or_eq_true, Bool.or_eq_false_iff, Bool.and_true, Bool.true_and, Bool.and_false, Bool.false_and, Bool.or_false, Bool.false_or, eqNums, List.length_map, List.length_append, List.length_cons, List.length_nil, List.length_set, List.length_replicate, List.length_take, List.length_drop, List.length_range, Int.toNat_natCast, Nat.zero_add, List.map_eq_nil_iff] at *; (first | done | with_reducible assumption | omega | contradiction))) <| .n)).weak (WeakL.refl _) (Weak.agg (.cons (Weak.int (show ((4) : Int) = ((modelE (u.m.getD j default).l u.inp u.cl (↑j : Int)).w) from (by (unfold modelE; (try simp only [List.length_map] at *); (repeat first | rw [if_pos (by omega)] | rw [if_neg (by omega)]))))) (.cons (Weak.int (show (((↑j : Int)) : Int) = ((modelE (u.m.getD j default).l u.inp u.cl (↑j : Int)).m) from (by (unfold modelE; (try simp only [List.length_map] at *); (repeat first | rw [if_pos (by omega)] | rw [if_neg (by omega)]))))) (.cons (Weak.int (show ((-1) : Int) = ((modelE (u.m.getD j default).l u.inp u.cl (↑j : Int)).b) from (by (unfold modelE; (try simp only [List.length_map] at *); (repeat first | rw [if_pos (by omega)] | rw [if_neg (by omega)]))))) (.cons (Weak.int (show ((-1) : Int) = ((modelE (u.m.getD j default).l u.inp u.cl (↑j : Int)).n) from (by (unfold modelE; (try simp only [List.length_map] at *); (repeat first | rw [if_pos (by omega)] | rw [if_neg (by omega)]))))) .nil)))))
theorem vmodel_v (u : Bun) (j : Nat) (ok : u.Ok) (sm : u.Sm) (hj : j < u.m.length) : VC Try.prog 90 [bun u, i64 j] (flt (modelE (u.m.getD j default).l u.inp u.cl j)) := by
  rcases modelE_cases (u.m.getD j default).l u.inp u.cl with ⟨h0, h6, h⟩ | h | ⟨h6, m, h1, h2, h3⟩
  · rw [modelE_y h0 h6 h]; exact vmodel_y u j ok sm hj h0 h6 h
  · exact vmodel_a u j sm hj h
  · rw [modelE_m h6 h1 h2 h3]; exact vmodel_m u j m ok sm hj h6 h1 h2 h3
theorem modelE_z {l : List Blc} {a : Shp} {cl j : Int} (h : (modelE l a cl j).w = 0) : modelE l a cl j = ⟨0, 0, 0, 0⟩ := by
  rcases modelE_cases l a cl with ⟨h0, h6, g⟩ | g | ⟨h6, m, h1, h2, h3⟩
  · exact modelE_y h0 h6 g
  · exfalso
    revert h
    unfold modelE
    by_cases c : l.length = 0
    · rw [if_pos c]; dsimp only; decide
    · rw [if_neg c, if_pos (by omega)]; dsimp only; decide
  · rw [modelE_m h6 h1 h2 h3] at h; exact absurd h h2
end Go.Proofs.Ytdmomnaoegkpiaa

