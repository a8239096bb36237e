/- Blocks, models, bundles; which are gone through. No condition. -/
import Derived.Test.YtdmomnaoegkpiaaFew
namespace Go.Proofs.Ytdmomnaoegkpiaa
open Go.RowKit
set_option linter.unusedSimpArgs false
set_option linter.unusedVariables false
set_option linter.unnecessarySimpa false

abbrev shpZ (s : Shp) : List AV := [i64 s.h, i64 s.x, i64 s.c]
structure Blc where
  n : List Nod
  ex : Bool
  w : List Int
  b : List Int
  nd : Int
abbrev blcC (x : Blc) : List AV := [.sl 19 (x.n.map nodC), bv x.ex, ints .i8 x.w, ints .i32 x.b, i32 x.nd]
structure Blc.Ok (x : Blc) : Prop where
  n : ∀ d ∈ x.n, Nod.Ok d
  w : ∀ v ∈ x.w, In8 v
  b : ∀ v ∈ x.b, In32 v
  nd : In32 x.nd
instance : Inhabited Blc := ⟨⟨[], false, [], [], 0⟩⟩
structure Mdl where
  l : List Blc
abbrev mdlC (m : Mdl) : List AV := [.sl 5 (m.l.map blcC)]
structure Mdl.Ok (m : Mdl) : Prop where
  l : ∀ d ∈ m.l, Blc.Ok d
instance : Inhabited Mdl := ⟨⟨[]⟩⟩
structure Bun where
  h : Int
  x : Int
  c : Int
  cl : Int
  m : List Mdl
abbrev bunC (u : Bun) : List AV := [i64 u.h, i64 u.x, i64 u.c, i64 u.cl, .sl 1 (u.m.map mdlC)]
structure Bun.Ok (u : Bun) : Prop where
  h : In64 u.h
  x : In64 u.x
  c : In64 u.c
  cl : In64 u.cl
  m : ∀ d ∈ u.m, Mdl.Ok d
abbrev Bun.inp (u : Bun) : Shp := ⟨u.h, u.x, u.c⟩
abbrev blc (x : Blc) : AV := .agg (blcC x)
abbrev bun (u : Bun) : AV := .agg (bunC u)
def blcS (x : Blc) : Bool := fewB x.n 0 && decide (x.w.length ≤ 4000) && decide (x.b.length ≤ 100)
def mdlS (m : Mdl) : Bool := decide (m.l.length ≤ 8) && m.l.all blcS
def bunS (u : Bun) : Bool := decide (u.m.length ≤ 4) && u.m.all mdlS
theorem blcS_iff {x : Blc} : blcS x = true ↔ fewB x.n 0 = true ∧ x.w.length ≤ 4000 ∧ x.b.length ≤ 100 := by
  simp only [blcS, Bool.and_eq_true, decide_eq_true_eq, and_assoc]
theorem mdlS_iff {m : Mdl} : mdlS m = true ↔ m.l.length ≤ 8 ∧ ∀ k, k < m.l.length → blcS (m.l.getD k default) = true := by
  simp only [mdlS, Bool.and_eq_true, decide_eq_true_eq, all_getD]
noncomputable def few31_iy_I (u : Bun) (K : Int) (l : List Blc) (k : Nat) : VS := stt 60 [(1, .ptr 1 0 0), (3, i64 K), (4, .sl 5 (l.map blcC)), (5, i64 k)] [(1, .var (bunC u))]
noncomputable def few31_iy_Z (u : Bun) (K : Int) (l : List Blc) : VS := few31_iy_I u K l (l.length)
set_option maxRecDepth 100000 in
set_option maxHeartbeats 2000000 in
theorem few31_iy_s (u : Bun) (K : Int) (l : List Blc) (hl : l.length ≤ 8) (h : ∀ k, k < l.length → blcS (l.getD k default) = true) (k : Nat) (hk : k < l.length) : VT Try.prog (fnC Try.f26 [1, 1, 0, 1, 0, 0, 1, 0, 0, 1, 1, 1, 0, 0]) (few31_iy_I u K l k) .normal (few31_iy_I u K l (k + 1)) := by
  have q := blcS_iff.1 (h k hk)
  obtain ⟨q1, q2, q3⟩ := q
  have oz1 := (show 0 ≤ (↑k : Int) by omega)
  have oz2 := (map_at (blcC) (default) (l := l) (i := k) hk)
  have oz4 := @few_0 ((l.getD k default).n)
  exact VT.run (W := [.r [] [], .br true, .r [] [.row (sO oz2), .call (aO oz4) (rO oz4), .op false, .op false, .op false, .row (sO oz2), .op false, .op false, .op false, .op false, .op false, .sel 1, .op false, .op false, .op false, .row (sO oz2), .op false, .op false, .op false, .op false, .op false, .sel 1], .br false, .r [] [.n ((↑k : Int) + 1)]]) (G := [.any (rg [(26, 15), (49, 2), (59, 1)]), .weak 5 (i64 (↑(k + 1) : Int)), .sort]) (by kernel_rfl) (.c (show decide ((↑k : Int) < (↑(List.map blcC l).length : Int)) = true by (simp; omega)) <| .c oz1 <| .c oz2 <| .c (show WeakL [AV.sl 19 (List.map nodC (l.getD k default).n), AV.agg [i64 0, i64 0, i64 0, AV.lit (Value.slice none 0 0)]] [AV.sl 19 (List.map nodC (l.getD k default).n), AV.agg [i64 0, i64 0, i64 0, AV.sl 1 []]] from (.cons (.refl _) (.cons (Weak.agg (.cons (.refl _) (.cons (.refl _) (.cons (.refl _) (.cons (Weak.nil _) .nil))))) .nil))) <| .c oz4 <| .c oz1 <| .c oz2 <| .c oz1 <| .c oz2 <| .c (show (!fewB (l.getD k default).n 0 || decide ((↑(List.map (row1 IntKind.i8) (l.getD k default).w).length : Int) > 4000) || decide ((↑(List.map (row1 IntKind.i32) (l.getD k default).b).length : Int) > 100)) = false by (rw [q1]; simp only [Bool.not_true, Bool.false_or, Bool.or_eq_false_iff, decide_eq_false_iff_not, List.length_map]; omega)) <| .c (IntWalk.i64_in ((↑k : Int) + 1) (by omega)) <| .c (Weak.int (k := .i64) (show (((↑k : Int) + 1) : Int) = ((↑(k + 1) : Int)) from (by omega))) <| .n)
set_option maxRecDepth 100000 in
set_option maxHeartbeats 2000000 in
theorem few31_iy_e (u : Bun) (K : Int) (l : List Blc) (hl : l.length ≤ 8) (h : ∀ k, k < l.length → blcS (l.getD k default) = true) : VT Try.prog (fnC Try.f26 [1, 1, 0, 1, 0, 0, 1, 0, 0, 1, 1, 1, 0, 0]) (few31_iy_I u K l (l.length)) (.exit 2) (few31_iy_Z u K l) := by
  exact VT.run (W := [.r [] [], .br false]) (G := [.any (rg [(26, 4)]), .sort]) (by kernel_rfl) (.c (show decide ((↑l.length : Int) < (↑(List.map blcC l).length : Int)) = false by (simp; done)) <| .n)
theorem few31_iy (u : Bun) (K : Int) (l : List Blc) (hl : l.length ≤ 8) (h : ∀ k, k < l.length → blcS (l.getD k default) = true) : VT Try.prog (fnC Try.f26 [1, 1, 0, 1, 0, 0, 1, 0, 0, 1, 1, 1, 0]) (few31_iy_I u K l 0) (.exit 2) (few31_iy_Z u K l) :=
  VT.loop (fun k => few31_iy_I u K l k) (l.length) (fun k hk => few31_iy_s u K l hl h k hk) (few31_iy_e u K l hl h) (by intro h; cases h)

noncomputable def few31_in_I (u : Bun) (K : Int) (l : List Blc) (m : Nat) (k : Nat) : VS := stt 60 [(1, .ptr 1 0 0), (3, i64 K), (4, .sl 5 (l.map blcC)), (5, i64 k)] [(1, .var (bunC u))]
noncomputable def few31_in_Z (u : Bun) (K : Int) (l : List Blc) (m : Nat) : VS := stt 60 [(2, bv false)] []
set_option maxRecDepth 100000 in
set_option maxHeartbeats 2000000 in
theorem few31_in_s (u : Bun) (K : Int) (l : List Blc) (m : Nat) (hl : l.length ≤ 8) (hm : m < l.length) (hf : blcS (l.getD m default) = false) (h : ∀ k, k < m → blcS (l.getD k default) = true) (k : Nat) (hk : k < m) : VT Try.prog (fnC Try.f26 [1, 1, 0, 1, 0, 0, 1, 0, 0, 1, 1, 1, 0, 0]) (few31_in_I u K l m k) .normal (few31_in_I u K l m (k + 1)) := by
  have q := blcS_iff.1 (h k hk)
  obtain ⟨q1, q2, q3⟩ := q
  have oz1 := (show 0 ≤ (↑k : Int) by omega)
  have oz2 := (map_at (blcC) (default) (l := l) (i := k) (by omega))
  have oz4 := @few_0 ((l.getD k default).n)
  exact VT.run (W := [.r [] [], .br true, .r [] [.row (sO oz2), .call (aO oz4) (rO oz4), .op false, .op false, .op false, .row (sO oz2), .op false, .op false, .op false, .op false, .op false, .sel 1, .op false, .op false, .op false, .row (sO oz2), .op false, .op false, .op false, .op false, .op false, .sel 1], .br false, .r [] [.n ((↑k : Int) + 1)]]) (G := [.any (rg [(26, 15), (49, 2), (59, 1)]), .weak 5 (i64 (↑(k + 1) : Int)), .sort]) (by kernel_rfl) (.c (show decide ((↑k : Int) < (↑(List.map blcC l).length : Int)) = true by (simp; omega)) <| .c oz1 <| .c oz2 <| .c (show WeakL [AV.sl 19 (List.map nodC (l.getD k default).n), AV.agg [i64 0, i64 0, i64 0, AV.lit (Value.slice none 0 0)]] [AV.sl 19 (List.map nodC (l.getD k default).n), AV.agg [i64 0, i64 0, i64 0, AV.sl 1 []]] from (.cons (.refl _) (.cons (Weak.agg (.cons (.refl _) (.cons (.refl _) (.cons (.refl _) (.cons (Weak.nil _) .nil))))) .nil))) <| .c oz4 <| .c oz1 <| .c oz2 <| .c oz1 <| .c oz2 <| .c (show (!fewB (l.getD k default).n 0 || decide ((↑(List.map (row1 IntKind.i8) (l.getD k default).w).length : Int) > 4000) || decide ((↑(List.map (row1 IntKind.i32) (l.getD k default).b).length : Int) > 100)) = false by (rw [q1]; simp only [Bool.not_true, Bool.false_or, Bool.or_eq_false_iff, decide_eq_false_iff_not, List.length_map]; omega)) <| .c (IntWalk.i64_in ((↑k : Int) + 1) (by omega)) <| .c (Weak.int (k := .i64) (show (((↑k : Int) + 1) : Int) = ((↑(k + 1) : Int)) from (by omega))) <| .n)
set_option maxRecDepth 100000 in
set_option maxHeartbeats 2000000 in
theorem few31_in_e (u : Bun) (K : Int) (l : List Blc) (m : Nat) (hl : l.length ≤ 8) (hm : m < l.length) (hf : blcS (l.getD m default) = false) (h : ∀ k, k < m → blcS (l.getD k default) = true) : VT Try.prog (fnC Try.f26 [1, 1, 0, 1, 0, 0, 1, 0, 0, 1, 1, 1, 0, 0]) (few31_in_I u K l m (m)) (.ret) (few31_in_Z u K l m) := by
  have q0 : fewB (l.getD m default).n 0 = true → ¬ ((l.getD m default).w.length ≤ 4000 ∧ (l.getD m default).b.length ≤ 100) := fun c d => by rw [blcS_iff.2 ⟨c, d⟩] at hf; cases hf
  have oz1 := (show 0 ≤ (↑m : Int) by omega)
  have oz2 := (map_at (blcC) (default) (l := l) (i := m) hm)
  have oz4 := @few_0 ((l.getD m default).n)
  exact VT.run (W := [.r [] [], .br true, .r [] [.row (sO oz2), .call (aO oz4) (rO oz4), .op false, .op false, .op false, .row (sO oz2), .op false, .op false, .op false, .op false, .op false, .sel 1, .op false, .op false, .op false, .row (sO oz2), .op false, .op false, .op false, .op false, .op false, .sel 1], .br true, .r [] []]) (G := [.any (rg [(1, 1), (3, 3), (26, 4), (32, 9), (49, 2), (59, 1)]), .drop [1], .sort]) (by kernel_rfl) (.c (show decide ((↑m : Int) < (↑(List.map blcC l).length : Int)) = true by (simp; omega)) <| .c oz1 <| .c oz2 <| .c (show WeakL [AV.sl 19 (List.map nodC (l.getD m default).n), AV.agg [i64 0, i64 0, i64 0, AV.lit (Value.slice none 0 0)]] [AV.sl 19 (List.map nodC (l.getD m default).n), AV.agg [i64 0, i64 0, i64 0, AV.sl 1 []]] from (.cons (.refl _) (.cons (Weak.agg (.cons (.refl _) (.cons (.refl _) (.cons (.refl _) (.cons (Weak.nil _) .nil))))) .nil))) <| .c oz4 <| .c oz1 <| .c oz2 <| .c oz1 <| .c oz2 <| .c (show (!fewB (l.getD m default).n 0 || decide ((↑(List.map (row1 IntKind.i8) (l.getD m default).w).length : Int) > 4000) || decide ((↑(List.map (row1 IntKind.i32) (l.getD m default).b).length : Int) > 100)) = true by (cases ef : fewB (l.getD m default).n 0 with | false => rfl | true => (have q9 := q0 ef; simp only [Bool.not_true, Bool.false_or, Bool.or_eq_true, decide_eq_true_eq, List.length_map]; omega))) <| .n)
theorem few31_in (u : Bun) (K : Int) (l : List Blc) (m : Nat) (hl : l.length ≤ 8) (hm : m < l.length) (hf : blcS (l.getD m default) = false) (h : ∀ k, k < m → blcS (l.getD k default) = true) : VT Try.prog (fnC Try.f26 [1, 1, 0, 1, 0, 0, 1, 0, 0, 1, 1, 1, 0]) (few31_in_I u K l m 0) (.ret) (few31_in_Z u K l m) :=
  VT.loop (fun k => few31_in_I u K l m k) (m) (fun k hk => few31_in_s u K l m hl hm hf h k hk) (few31_in_e u K l m hl hm hf h) (by intro h; cases h)

noncomputable def few31_oy_I (u : Bun) (k : Nat) : VS := stt 60 [(1, .ptr 1 0 0), (3, i64 k)] [(1, .var (bunC u))]
noncomputable def few31_oy_Z (u : Bun) : VS := few31_oy_I u (u.m.length)
set_option maxRecDepth 100000 in
set_option maxHeartbeats 2000000 in
theorem few31_oy_s (u : Bun) (hl : u.m.length ≤ 4) (h : ∀ k, k < u.m.length → mdlS (u.m.getD k default) = true) (k : Nat) (hk : k < u.m.length) : VT Try.prog (fnC Try.f26 [1, 1, 0, 1, 0, 0]) (few31_oy_I u k) .normal (few31_oy_I u (k + 1)) := by
  have q := mdlS_iff.1 (h k hk)
  obtain ⟨q1, q2⟩ := q
  have oz2 := (map_at (mdlC) (default) (l := u.m) (i := k) hk)
  have oz5 := @few31_iy (u) ((↑k : Int)) ((u.m.getD k default).l) q1 q2
  exact VT.run (W := [.r [] [], .br true, .r [] [.row (sO oz2)], .r [] [], .br false, .r [] [], .code [.any (rg [(10, 5), (17, 9)]), .weak 5 (i64 (↑0 : Int)), .sort] (Exit.exit 2) (zO oz5), .r [] [.n ((↑k : Int) + 1)]]) (G := [.any [4, 5, 15, 16], .weak 3 (i64 (↑(k + 1) : Int)), .sort]) (by kernel_rfl) (.c (show decide ((↑k : Int) < (↑(List.map mdlC u.m).length : Int)) = true by (simp; omega)) <| .c (show 0 ≤ (↑k : Int) by omega) <| .c oz2 <| .c (show decide ((↑(List.map blcC (u.m.getD k default).l).length : Int) > 8) = false by (simp at *; omega)) <| .c (Weak.int (k := .i64) (show ((0) : Int) = ((↑0 : Int)) from (by omega))) <| .c oz5 <| .c (IntWalk.i64_in ((↑k : Int) + 1) (by omega)) <| .c (Weak.int (k := .i64) (show (((↑k : Int) + 1) : Int) = ((↑(k + 1) : Int)) from (by omega))) <| .n)
set_option maxRecDepth 100000 in
set_option maxHeartbeats 2000000 in
theorem few31_oy_e (u : Bun) (hl : u.m.length ≤ 4) (h : ∀ k, k < u.m.length → mdlS (u.m.getD k default) = true) : VT Try.prog (fnC Try.f26 [1, 1, 0, 1, 0, 0]) (few31_oy_I u (u.m.length)) (.exit 0) (few31_oy_Z u) := by
  exact VT.run (W := [.r [] [], .br false]) (G := [.any (rg [(10, 5)]), .sort]) (by kernel_rfl) (.c (show decide ((↑u.m.length : Int) < (↑(List.map mdlC u.m).length : Int)) = false by (simp; done)) <| .n)
theorem few31_oy (u : Bun) (hl : u.m.length ≤ 4) (h : ∀ k, k < u.m.length → mdlS (u.m.getD k default) = true) : VT Try.prog (fnC Try.f26 [1, 1, 0, 1, 0]) (few31_oy_I u 0) (.exit 0) (few31_oy_Z u) :=
  VT.loop (fun k => few31_oy_I u k) (u.m.length) (fun k hk => few31_oy_s u hl h k hk) (few31_oy_e u hl h) (by intro h; cases h)

noncomputable def few31_oa_I (u : Bun) (m : Nat) (k : Nat) : VS := stt 60 [(1, .ptr 1 0 0), (3, i64 k)] [(1, .var (bunC u))]
noncomputable def few31_oa_Z (u : Bun) (m : Nat) : VS := stt 60 [(2, bv false)] []
set_option maxRecDepth 100000 in
set_option maxHeartbeats 2000000 in
theorem few31_oa_s (u : Bun) (m : Nat) (hl : u.m.length ≤ 4) (hm : m < u.m.length) (hf : 8 < (u.m.getD m default).l.length) (h : ∀ k, k < m → mdlS (u.m.getD k default) = true) (k : Nat) (hk : k < m) : VT Try.prog (fnC Try.f26 [1, 1, 0, 1, 0, 0]) (few31_oa_I u m k) .normal (few31_oa_I u m (k + 1)) := by
  have q := mdlS_iff.1 (h k hk)
  obtain ⟨q1, q2⟩ := q
  have oz2 := (map_at (mdlC) (default) (l := u.m) (i := k) (by omega))
  have oz5 := @few31_iy (u) ((↑k : Int)) ((u.m.getD k default).l) q1 q2
  exact VT.run (W := [.r [] [], .br true, .r [] [.row (sO oz2)], .r [] [], .br false, .r [] [], .code [.any (rg [(10, 5), (17, 9)]), .weak 5 (i64 (↑0 : Int)), .sort] (Exit.exit 2) (zO oz5), .r [] [.n ((↑k : Int) + 1)]]) (G := [.any [4, 5, 15, 16], .weak 3 (i64 (↑(k + 1) : Int)), .sort]) (by kernel_rfl) (.c (show decide ((↑k : Int) < (↑(List.map mdlC u.m).length : Int)) = true by (simp; omega)) <| .c (show 0 ≤ (↑k : Int) by omega) <| .c oz2 <| .c (show decide ((↑(List.map blcC (u.m.getD k default).l).length : Int) > 8) = false by (simp at *; omega)) <| .c (Weak.int (k := .i64) (show ((0) : Int) = ((↑0 : Int)) from (by omega))) <| .c oz5 <| .c (IntWalk.i64_in ((↑k : Int) + 1) (by omega)) <| .c (Weak.int (k := .i64) (show (((↑k : Int) + 1) : Int) = ((↑(k + 1) : Int)) from (by omega))) <| .n)
set_option maxRecDepth 100000 in
set_option maxHeartbeats 2000000 in
theorem few31_oa_e (u : Bun) (m : Nat) (hl : u.m.length ≤ 4) (hm : m < u.m.length) (hf : 8 < (u.m.getD m default).l.length) (h : ∀ k, k < m → mdlS (u.m.getD k default) = true) : VT Try.prog (fnC Try.f26 [1, 1, 0, 1, 0, 0]) (few31_oa_I u m (m)) (.ret) (few31_oa_Z u m) := by
  have oz2 := (map_at (mdlC) (default) (l := u.m) (i := m) hm)
  exact VT.run (W := [.r [] [], .br true, .r [] [.row (sO oz2)], .r [] [], .br true, .r [] []]) (G := [.any (rg [(1, 1), (3, 2), (10, 5), (17, 9)]), .drop [1], .sort]) (by kernel_rfl) (.c (show decide ((↑m : Int) < (↑(List.map mdlC u.m).length : Int)) = true by (simp; omega)) <| .c (show 0 ≤ (↑m : Int) by omega) <| .c oz2 <| .c (show decide ((↑(List.map blcC (u.m.getD m default).l).length : Int) > 8) = true by (simp at *; omega)) <| .n)
theorem few31_oa (u : Bun) (m : Nat) (hl : u.m.length ≤ 4) (hm : m < u.m.length) (hf : 8 < (u.m.getD m default).l.length) (h : ∀ k, k < m → mdlS (u.m.getD k default) = true) : VT Try.prog (fnC Try.f26 [1, 1, 0, 1, 0]) (few31_oa_I u m 0) (.ret) (few31_oa_Z u m) :=
  VT.loop (fun k => few31_oa_I u m k) (m) (fun k hk => few31_oa_s u m hl hm hf h k hk) (few31_oa_e u m hl hm hf h) (by intro h; cases h)

noncomputable def few31_ob_I (u : Bun) (m j : Nat) (k : Nat) : VS := stt 60 [(1, .ptr 1 0 0), (3, i64 k)] [(1, .var (bunC u))]
noncomputable def few31_ob_Z (u : Bun) (m j : Nat) : VS := stt 60 [(2, bv false)] []
set_option maxRecDepth 100000 in
set_option maxHeartbeats 2000000 in
theorem few31_ob_s (u : Bun) (m j : Nat) (hl : u.m.length ≤ 4) (hm : m < u.m.length) (hs : (u.m.getD m default).l.length ≤ 8) (hj : j < (u.m.getD m default).l.length) (hf : blcS ((u.m.getD m default).l.getD j default) = false) (hb : ∀ k, k < j → blcS ((u.m.getD m default).l.getD k default) = true) (h : ∀ k, k < m → mdlS (u.m.getD k default) = true) (k : Nat) (hk : k < m) : VT Try.prog (fnC Try.f26 [1, 1, 0, 1, 0, 0]) (few31_ob_I u m j k) .normal (few31_ob_I u m j (k + 1)) := by
  have q := mdlS_iff.1 (h k hk)
  obtain ⟨q1, q2⟩ := q
  have oz2 := (map_at (mdlC) (default) (l := u.m) (i := k) (by omega))
  have oz5 := @few31_iy (u) ((↑k : Int)) ((u.m.getD k default).l) q1 q2
  exact VT.run (W := [.r [] [], .br true, .r [] [.row (sO oz2)], .r [] [], .br false, .r [] [], .code [.any (rg [(10, 5), (17, 9)]), .weak 5 (i64 (↑0 : Int)), .sort] (Exit.exit 2) (zO oz5), .r [] [.n ((↑k : Int) + 1)]]) (G := [.any [4, 5, 15, 16], .weak 3 (i64 (↑(k + 1) : Int)), .sort]) (by kernel_rfl) (.c (show decide ((↑k : Int) < (↑(List.map mdlC u.m).length : Int)) = true by (simp; omega)) <| .c (show 0 ≤ (↑k : Int) by omega) <| .c oz2 <| .c (show decide ((↑(List.map blcC (u.m.getD k default).l).length : Int) > 8) = false by (simp at *; omega)) <| .c (Weak.int (k := .i64) (show ((0) : Int) = ((↑0 : Int)) from (by omega))) <| .c oz5 <| .c (IntWalk.i64_in ((↑k : Int) + 1) (by omega)) <| .c (Weak.int (k := .i64) (show (((↑k : Int) + 1) : Int) = ((↑(k + 1) : Int)) from (by omega))) <| .n)
set_option maxRecDepth 100000 in
set_option maxHeartbeats 2000000 in
theorem few31_ob_e (u : Bun) (m j : Nat) (hl : u.m.length ≤ 4) (hm : m < u.m.length) (hs : (u.m.getD m default).l.length ≤ 8) (hj : j < (u.m.getD m default).l.length) (hf : blcS ((u.m.getD m default).l.getD j default) = false) (hb : ∀ k, k < j → blcS ((u.m.getD m default).l.getD k default) = true) (h : ∀ k, k < m → mdlS (u.m.getD k default) = true) : VT Try.prog (fnC Try.f26 [1, 1, 0, 1, 0, 0]) (few31_ob_I u m j (m)) (.ret) (few31_ob_Z u m j) := by
  have oz2 := (map_at (mdlC) (default) (l := u.m) (i := m) hm)
  have oz5 := @few31_in (u) ((↑m : Int)) ((u.m.getD m default).l) (j) hs hj hf hb
  exact VT.run (W := [.r [] [], .br true, .r [] [.row (sO oz2)], .r [] [], .br false, .r [] [], .code [.any (rg [(10, 5), (17, 9)]), .weak 5 (i64 (↑0 : Int)), .sort] (Exit.ret) (zO oz5)]) (G := [.sort]) (by kernel_rfl) (.c (show decide ((↑m : Int) < (↑(List.map mdlC u.m).length : Int)) = true by (simp; omega)) <| .c (show 0 ≤ (↑m : Int) by omega) <| .c oz2 <| .c (show decide ((↑(List.map blcC (u.m.getD m default).l).length : Int) > 8) = false by (simp at *; omega)) <| .c (Weak.int (k := .i64) (show ((0) : Int) = ((↑0 : Int)) from (by omega))) <| .c oz5 <| .n)
theorem few31_ob (u : Bun) (m j : Nat) (hl : u.m.length ≤ 4) (hm : m < u.m.length) (hs : (u.m.getD m default).l.length ≤ 8) (hj : j < (u.m.getD m default).l.length) (hf : blcS ((u.m.getD m default).l.getD j default) = false) (hb : ∀ k, k < j → blcS ((u.m.getD m default).l.getD k default) = true) (h : ∀ k, k < m → mdlS (u.m.getD k default) = true) : VT Try.prog (fnC Try.f26 [1, 1, 0, 1, 0]) (few31_ob_I u m j 0) (.ret) (few31_ob_Z u m j) :=
  VT.loop (fun k => few31_ob_I u m j k) (m) (fun k hk => few31_ob_s u m j hl hm hs hj hf hb h k hk) (few31_ob_e u m j hl hm hs hj hf hb h) (by intro h; cases h)

set_option maxRecDepth 100000 in
set_option maxHeartbeats 2000000 in
theorem few31_a (u : Bun) (h : 4 < u.m.length) : VC Try.prog 26 ([bun u]) (bv false) := by
  exact VC.run (fn := Try.f26) (W := [.r [] [], .r [] [], .br true, .r [] []]) Try.func26 (by kernel_rfl) (.c (show decide ((↑(List.map mdlC u.m).length : Int) > 4) = true by (simp; omega)) <| .n)

set_option maxRecDepth 100000 in
set_option maxHeartbeats 2000000 in
theorem few31_y (u : Bun) (hl : u.m.length ≤ 4) (h : ∀ k, k < u.m.length → mdlS (u.m.getD k default) = true) : VC Try.prog 26 ([bun u]) (bv true) := by
  have oz2 := @few31_oy (u) hl h
  exact VC.run (fn := Try.f26) (W := [.r [] [], .r [] [], .br false, .r [] [], .code [.any [0, 2, 6, 7, 8, 9], .weak 3 (i64 (↑0 : Int)), .sort] (Exit.exit 0) (zO oz2), .r [] []]) Try.func26 (by kernel_rfl) (.c (show decide ((↑(List.map mdlC u.m).length : Int) > 4) = false by (simp; omega)) <| .c (Weak.int (k := .i64) (show ((0) : Int) = ((↑0 : Int)) from (by omega))) <| .c oz2 <| .n)

set_option maxRecDepth 100000 in
set_option maxHeartbeats 2000000 in
theorem few31_na (u : Bun) (m : Nat) (hl : u.m.length ≤ 4) (hm : m < u.m.length) (hf : 8 < (u.m.getD m default).l.length) (h : ∀ k, k < m → mdlS (u.m.getD k default) = true) : VC Try.prog 26 ([bun u]) (bv false) := by
  have oz2 := @few31_oa (u) (m) hl hm hf h
  exact VC.run (fn := Try.f26) (W := [.r [] [], .r [] [], .br false, .r [] [], .code [.any [0, 2, 6, 7, 8, 9], .weak 3 (i64 (↑0 : Int)), .sort] (Exit.ret) (zO oz2)]) Try.func26 (by kernel_rfl) (.c (show decide ((↑(List.map mdlC u.m).length : Int) > 4) = false by (simp; omega)) <| .c (Weak.int (k := .i64) (show ((0) : Int) = ((↑0 : Int)) from (by omega))) <| .c oz2 <| .n)

set_option maxRecDepth 100000 in
set_option maxHeartbeats 2000000 in
theorem few31_nb (u : Bun) (m j : Nat) (hl : u.m.length ≤ 4) (hm : m < u.m.length) (hs : (u.m.getD m default).l.length ≤ 8) (hj : j < (u.m.getD m default).l.length) (hf : blcS ((u.m.getD m default).l.getD j default) = false) (hb : ∀ k, k < j → blcS ((u.m.getD m default).l.getD k default) = true) (h : ∀ k, k < m → mdlS (u.m.getD k default) = true) : VC Try.prog 26 ([bun u]) (bv false) := by
  have oz2 := @few31_ob (u) (m) (j) hl hm hs hj hf hb h
  exact VC.run (fn := Try.f26) (W := [.r [] [], .r [] [], .br false, .r [] [], .code [.any [0, 2, 6, 7, 8, 9], .weak 3 (i64 (↑0 : Int)), .sort] (Exit.ret) (zO oz2)]) Try.func26 (by kernel_rfl) (.c (show decide ((↑(List.map mdlC u.m).length : Int) > 4) = false by (simp; omega)) <| .c (Weak.int (k := .i64) (show ((0) : Int) = ((↑0 : Int)) from (by omega))) <| .c oz2 <| .n)
theorem few31_v (u : Bun) : VC Try.prog 26 [bun u] (bv (bunS u)) := by
  unfold bunS
  by_cases h1 : u.m.length ≤ 4
  · rw [decide_eq_true h1, Bool.true_and]
    rcases all_or (fun k => mdlS (u.m.getD k default)) u.m.length with h | ⟨m, g1, g2, g3⟩
    · rw [all_getD.2 h]; exact few31_y u h1 h
    · have : u.m.all mdlS = false := by
        cases e : u.m.all mdlS with
        | false => rfl
        | true => have := all_getD.1 e m g1; exact absurd (this.symm.trans g2) (by simp)
      rw [this]
      by_cases h2 : 8 < (u.m.getD m default).l.length
      · exact few31_na u m h1 g1 h2 g3
      · rcases all_or (fun k => blcS ((u.m.getD m default).l.getD k default)) (u.m.getD m default).l.length with h | ⟨j, j1, j2, j3⟩
        · exfalso
          have : mdlS (u.m.getD m default) = true := mdlS_iff.2 ⟨by omega, h⟩
          exact absurd (this.symm.trans g2) (by simp)
        · exact few31_nb u m j h1 g1 (by omega) j1 j2 j3 g3
  · rw [decide_eq_false h1, Bool.false_and]; exact few31_a u (by omega)
theorem few31_1 (x : Blc) : VC Try.prog 26 [.agg [i64 0, i64 0, i64 0, i64 0, .sl 1 [[.sl 5 [blcC x]]]]] (bv (blcS x)) :=
  VC.to (few31_v ⟨0, 0, 0, 0, [⟨[x]⟩]⟩) (by simp [bunS, mdlS])
theorem blc_facts {x : Blc} (h : blcS x = true) : x.n.length ≤ 12 ∧ (∀ n ∈ x.n, n.w.length ≤ 1000 ∧ n.b.length ≤ 100) ∧ (∀ n ∈ x.n, n.w.length ≤ 100000 ∧ n.b.length ≤ 100000) ∧ x.w.length ≤ 4000 ∧ x.b.length ≤ 100 := by
  have h := blcS_iff.1 h
  exact ⟨(few_facts h.1).1, (few_facts h.1).2.2, few_wide h.1, h.2.1, h.2.2⟩
end Go.Proofs.Ytdmomnaoegkpiaa

