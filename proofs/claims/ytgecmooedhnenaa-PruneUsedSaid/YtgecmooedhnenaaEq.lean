/- Slices alike. No condition. -/
import Derived.Test.YtgecmooedhnenaaKnA
namespace Go.Proofs.Ytgecmooedhnenaa
open Go.RowKit
set_option linter.unusedSimpArgs false
set_option linter.unusedVariables false
set_option linter.unnecessarySimpa false

theorem getD_ext {l m : List Int} (hl : l.length = m.length) (h : ∀ k, k < l.length → (l.getD k 0 == m.getD k 0) = true) : l = m := by
  apply List.ext_getElem hl
  intro i h1 h2
  have := h i h1
  rw [beq_iff_eq, List.getD_eq_getElem?_getD, List.getD_eq_getElem?_getD, List.getElem?_eq_getElem h1, List.getElem?_eq_getElem h2] at this
  simpa using this
theorem list_cases (l m : List Int) : l.length ≠ m.length ∨ l = m ∨ (l.length = m.length ∧ ∃ k, k < l.length ∧ l.getD k 0 ≠ m.getD k 0 ∧ ∀ j, j < k → l.getD j 0 = m.getD j 0) := by
  by_cases hl : l.length = m.length
  · rcases all_or (fun k => l.getD k 0 == m.getD k 0) l.length with h | ⟨k, h1, h2, h3⟩
    · exact .inr (.inl (getD_ext hl h))
    · exact .inr (.inr ⟨hl, k, h1, by simpa using h2, fun j hj => by simpa using h3 j hj⟩)
  · exact .inl hl
theorem VC.alike {P : Program} {f : Nat} {k : IntKind} {l m : List Int} (h1 : l.length ≠ m.length → VC P f [ints k l, ints k m] (bv false)) (h2 : VC P f [ints k l, ints k l] (bv true)) (h3 : ∀ i, l.length = m.length → i < l.length → l.getD i 0 ≠ m.getD i 0 → (∀ j, j < i → l.getD j 0 = m.getD j 0) → VC P f [ints k l, ints k m] (bv false)) : VC P f [ints k l, ints k m] (bv (decide (l = m))) := by
  rcases list_cases l m with h | rfl | ⟨h, i, a, b, c⟩
  · rw [decide_eq_false (fun e => h (by rw [e]))]; exact h1 h
  · rw [decide_eq_true rfl]; exact h2
  · rw [decide_eq_false (fun e => b (by rw [e]))]; exact h3 i h a b c
noncomputable def eq8_ly_I (l : List Int) (k : Nat) : VS := stt 26 [(0, ints .i8 l), (1, ints .i8 l), (12, i64 l.length), (13, i64 k)] []
noncomputable def eq8_ly_Z (l : List Int) : VS := eq8_ly_I l (l.length)
set_option maxRecDepth 100000 in
set_option maxHeartbeats 2000000 in
theorem eq8_ly_s (l : List Int) (hl : l.length ≤ 1000000) (k : Nat) (hk : k < l.length) : VT Try.prog (fnC Try.f207 [1, 1, 0, 1, 0, 0]) (eq8_ly_I l k) .normal (eq8_ly_I l (k + 1)) := by
  have oz1 := (show 0 ≤ (↑k : Int) by omega)
  have oz2 := (map_at (row1 IntKind.i8) (0) (l := l) (i := k) hk)
  exact VT.run (W := [.r [] [], .br true, .r [] [], .r [] [.row (sO oz2), .row (sO oz2)], .br false, .r [] [.n ((↑k : Int) + 1)]]) (G := [.any (rg [(5, 1), (14, 12)]), .weak 13 (i64 (↑(k + 1) : Int)), .sort]) (by kernel_rfl) (.c (decide_eq_true (p := ((↑k : Int) < (↑l.length : Int))) (by omega)) <| .c oz1 <| .c oz2 <| .c oz1 <| .c oz2 <| .c (show (l.getD k 0 != l.getD k 0) = false by (simp; done)) <| .c (IntWalk.i64_in ((↑k : Int) + 1) (by omega)) <| .c (Weak.int (k := .i64) (show (((↑k : Int) + 1) : Int) = ((↑(k + 1) : Int)) from (by omega))) <| .n)
set_option maxRecDepth 100000 in
set_option maxHeartbeats 2000000 in
theorem eq8_ly_e (l : List Int) (hl : l.length ≤ 1000000) : VT Try.prog (fnC Try.f207 [1, 1, 0, 1, 0, 0]) (eq8_ly_I l (l.length)) (.exit 0) (eq8_ly_Z l) := by
  exact VT.run (W := [.r [] [], .br false]) (G := [.any [14], .sort]) (by kernel_rfl) (.c (decide_eq_false (p := ((↑l.length : Int) < (↑l.length : Int))) (by omega)) <| .n)
theorem eq8_ly (l : List Int) (hl : l.length ≤ 1000000) : VT Try.prog (fnC Try.f207 [1, 1, 0, 1, 0]) (eq8_ly_I l 0) (.exit 0) (eq8_ly_Z l) :=
  VT.loop (fun k => eq8_ly_I l k) (l.length) (fun k hk => eq8_ly_s l hl k hk) (eq8_ly_e l hl) (by intro h; cases h)

noncomputable def eq8_ln_I (l m : List Int) (i : Nat) (k : Nat) : VS := stt 26 [(0, ints .i8 l), (1, ints .i8 m), (12, i64 l.length), (13, i64 k)] []
noncomputable def eq8_ln_Z (l m : List Int) (i : Nat) : VS := stt 26 [(4, bv false)] []
set_option maxRecDepth 100000 in
set_option maxHeartbeats 2000000 in
theorem eq8_ln_s (l m : List Int) (i : Nat) (hl : l.length ≤ 1000000) (hm : l.length = m.length) (hi : i < l.length) (hne : l.getD i 0 ≠ m.getD i 0) (h : ∀ j, j < i → l.getD j 0 = m.getD j 0) (k : Nat) (hk : k < i) : VT Try.prog (fnC Try.f207 [1, 1, 0, 1, 0, 0]) (eq8_ln_I l m i k) .normal (eq8_ln_I l m i (k + 1)) := by
  have q := h k hk
  have oz1 := (show 0 ≤ (↑k : Int) by omega)
  exact VT.run (W := [.r [] [], .br true, .r [] [], .r [] [.row [i8 (l.getD k 0)], .row [i8 (m.getD k 0)]], .br false, .r [] [.n ((↑k : Int) + 1)]]) (G := [.any (rg [(5, 1), (14, 12)]), .weak 13 (i64 (↑(k + 1) : Int)), .sort]) (by kernel_rfl) (.c (decide_eq_true (p := ((↑k : Int) < (↑l.length : Int))) (by omega)) <| .c oz1 <| .c (map_at (row1 IntKind.i8) (0) (l := l) (i := k) (by omega)) <| .c oz1 <| .c (map_at (row1 IntKind.i8) (0) (l := m) (i := k) (by omega)) <| .c (show (l.getD k 0 != m.getD k 0) = false by (simp at *; omega)) <| .c (IntWalk.i64_in ((↑k : Int) + 1) (by omega)) <| .c (Weak.int (k := .i64) (show (((↑k : Int) + 1) : Int) = ((↑(k + 1) : Int)) from (by omega))) <| .n)
set_option maxRecDepth 100000 in
set_option maxHeartbeats 2000000 in
theorem eq8_ln_e (l m : List Int) (i : Nat) (hl : l.length ≤ 1000000) (hm : l.length = m.length) (hi : i < l.length) (hne : l.getD i 0 ≠ m.getD i 0) (h : ∀ j, j < i → l.getD j 0 = m.getD j 0) : VT Try.prog (fnC Try.f207 [1, 1, 0, 1, 0, 0]) (eq8_ln_I l m i (i)) (.ret) (eq8_ln_Z l m i) := by
  have oz1 := (show 0 ≤ (↑i : Int) by omega)
  exact VT.run (W := [.r [] [], .br true, .r [] [], .r [] [.row [i8 (l.getD i 0)], .row [i8 (m.getD i 0)]], .br true, .r [] []]) (G := [.any (rg [(0, 2), (5, 1), (12, 13)]), .sort]) (by kernel_rfl) (.c (decide_eq_true (p := ((↑i : Int) < (↑l.length : Int))) (by omega)) <| .c oz1 <| .c (map_at (row1 IntKind.i8) (0) (l := l) (i := i) hi) <| .c oz1 <| .c (map_at (row1 IntKind.i8) (0) (l := m) (i := i) (by omega)) <| .c (show (l.getD i 0 != m.getD i 0) = true by (simp at *; omega)) <| .n)
theorem eq8_ln (l m : List Int) (i : Nat) (hl : l.length ≤ 1000000) (hm : l.length = m.length) (hi : i < l.length) (hne : l.getD i 0 ≠ m.getD i 0) (h : ∀ j, j < i → l.getD j 0 = m.getD j 0) : VT Try.prog (fnC Try.f207 [1, 1, 0, 1, 0]) (eq8_ln_I l m i 0) (.ret) (eq8_ln_Z l m i) :=
  VT.loop (fun k => eq8_ln_I l m i k) (i) (fun k hk => eq8_ln_s l m i hl hm hi hne h k hk) (eq8_ln_e l m i hl hm hi hne h) (by intro h; cases h)

set_option maxRecDepth 100000 in
set_option maxHeartbeats 2000000 in
theorem eq8_d (l m : List Int) (hl : l.length ≤ 1000000) (hm : l.length ≠ m.length) : VC Try.prog 207 ([ints .i8 l, ints .i8 m]) (bv false) := by
  exact VC.run (fn := Try.f207) (W := [.r [] [], .r [] [], .br true, .r [] []]) Try.func207 (by kernel_rfl) (.c (show ((↑(List.map (row1 IntKind.i8) l).length : Int) != (↑(List.map (row1 IntKind.i8) m).length : Int)) = true by (simp; omega)) <| .n)

set_option maxRecDepth 100000 in
set_option maxHeartbeats 2000000 in
theorem eq8_y (l : List Int) (hl : l.length ≤ 1000000) : VC Try.prog 207 ([ints .i8 l, ints .i8 l]) (bv true) := by
  have oz1 := (Weak.int (k := .i64) (show (((↑(List.map (row1 IntKind.i8) l).length : Int)) : Int) = ((↑l.length : Int)) from (by (simp; done))))
  have oz3 := @eq8_ly (l) hl
  exact VC.run (fn := Try.f207) (W := [.r [] [], .r [] [], .br false, .r [] [], .code [.any (rg [(4, 1), (6, 6)]), .weak 12 (wO oz1), .weak 13 (i64 (↑0 : Int)), .sort] (Exit.exit 0) (zO oz3), .r [] []]) Try.func207 (by kernel_rfl) (.c (show ((↑(List.map (row1 IntKind.i8) l).length : Int) != (↑(List.map (row1 IntKind.i8) l).length : Int)) = false by (simp; done)) <| .c oz1 <| .c (Weak.int (k := .i64) (show ((0) : Int) = ((↑0 : Int)) from (by omega))) <| .c oz3 <| .n)

set_option maxRecDepth 100000 in
set_option maxHeartbeats 2000000 in
theorem eq8_n (l m : List Int) (i : Nat) (hl : l.length ≤ 1000000) (hm : l.length = m.length) (hi : i < l.length) (hne : l.getD i 0 ≠ m.getD i 0) (h : ∀ j, j < i → l.getD j 0 = m.getD j 0) : VC Try.prog 207 ([ints .i8 l, ints .i8 m]) (bv false) := by
  have oz1 := (Weak.int (k := .i64) (show (((↑(List.map (row1 IntKind.i8) l).length : Int)) : Int) = ((↑l.length : Int)) from (by (simp; done))))
  have oz3 := @eq8_ln (l) (m) (i) hl hm hi hne h
  exact VC.run (fn := Try.f207) (W := [.r [] [], .r [] [], .br false, .r [] [], .code [.any (rg [(4, 1), (6, 6)]), .weak 12 (wO oz1), .weak 13 (i64 (↑0 : Int)), .sort] (Exit.ret) (zO oz3)]) Try.func207 (by kernel_rfl) (.c (show ((↑(List.map (row1 IntKind.i8) l).length : Int) != (↑(List.map (row1 IntKind.i8) m).length : Int)) = false by (simp; omega)) <| .c oz1 <| .c (Weak.int (k := .i64) (show ((0) : Int) = ((↑0 : Int)) from (by omega))) <| .c oz3 <| .n)
theorem eq8_v (l m : List Int) (hl : l.length ≤ 1000000) : VC Try.prog 207 [ints .i8 l, ints .i8 m] (bv (decide (l = m))) :=
  VC.alike (eq8_d l m hl) (eq8_y l hl) fun i h a b c => eq8_n l m i hl h a b c
noncomputable def eq32_ly_I (l : List Int) (k : Nat) : VS := stt 26 [(0, ints .i32 l), (1, ints .i32 l), (12, i64 l.length), (13, i64 k)] []
noncomputable def eq32_ly_Z (l : List Int) : VS := eq32_ly_I l (l.length)
set_option maxRecDepth 100000 in
set_option maxHeartbeats 2000000 in
theorem eq32_ly_s (l : List Int) (hl : l.length ≤ 1000000) (k : Nat) (hk : k < l.length) : VT Try.prog (fnC Try.f208 [1, 1, 0, 1, 0, 0]) (eq32_ly_I l k) .normal (eq32_ly_I l (k + 1)) := by
  have oz1 := (show 0 ≤ (↑k : Int) by omega)
  have oz2 := (map_at (row1 IntKind.i32) (0) (l := l) (i := k) hk)
  exact VT.run (W := [.r [] [], .br true, .r [] [], .r [] [.row (sO oz2), .row (sO oz2)], .br false, .r [] [.n ((↑k : Int) + 1)]]) (G := [.any (rg [(5, 1), (14, 12)]), .weak 13 (i64 (↑(k + 1) : Int)), .sort]) (by kernel_rfl) (.c (decide_eq_true (p := ((↑k : Int) < (↑l.length : Int))) (by omega)) <| .c oz1 <| .c oz2 <| .c oz1 <| .c oz2 <| .c (show (l.getD k 0 != l.getD k 0) = false by (simp; done)) <| .c (IntWalk.i64_in ((↑k : Int) + 1) (by omega)) <| .c (Weak.int (k := .i64) (show (((↑k : Int) + 1) : Int) = ((↑(k + 1) : Int)) from (by omega))) <| .n)
set_option maxRecDepth 100000 in
set_option maxHeartbeats 2000000 in
theorem eq32_ly_e (l : List Int) (hl : l.length ≤ 1000000) : VT Try.prog (fnC Try.f208 [1, 1, 0, 1, 0, 0]) (eq32_ly_I l (l.length)) (.exit 0) (eq32_ly_Z l) := by
  exact VT.run (W := [.r [] [], .br false]) (G := [.any [14], .sort]) (by kernel_rfl) (.c (decide_eq_false (p := ((↑l.length : Int) < (↑l.length : Int))) (by omega)) <| .n)
theorem eq32_ly (l : List Int) (hl : l.length ≤ 1000000) : VT Try.prog (fnC Try.f208 [1, 1, 0, 1, 0]) (eq32_ly_I l 0) (.exit 0) (eq32_ly_Z l) :=
  VT.loop (fun k => eq32_ly_I l k) (l.length) (fun k hk => eq32_ly_s l hl k hk) (eq32_ly_e l hl) (by intro h; cases h)

noncomputable def eq32_ln_I (l m : List Int) (i : Nat) (k : Nat) : VS := stt 26 [(0, ints .i32 l), (1, ints .i32 m), (12, i64 l.length), (13, i64 k)] []
noncomputable def eq32_ln_Z (l m : List Int) (i : Nat) : VS := stt 26 [(4, bv false)] []
set_option maxRecDepth 100000 in
set_option maxHeartbeats 2000000 in
theorem eq32_ln_s (l m : List Int) (i : Nat) (hl : l.length ≤ 1000000) (hm : l.length = m.length) (hi : i < l.length) (hne : l.getD i 0 ≠ m.getD i 0) (h : ∀ j, j < i → l.getD j 0 = m.getD j 0) (k : Nat) (hk : k < i) : VT Try.prog (fnC Try.f208 [1, 1, 0, 1, 0, 0]) (eq32_ln_I l m i k) .normal (eq32_ln_I l m i (k + 1)) := by
  have q := h k hk
  have oz1 := (show 0 ≤ (↑k : Int) by omega)
  exact VT.run (W := [.r [] [], .br true, .r [] [], .r [] [.row [i32 (l.getD k 0)], .row [i32 (m.getD k 0)]], .br false, .r [] [.n ((↑k : Int) + 1)]]) (G := [.any (rg [(5, 1), (14, 12)]), .weak 13 (i64 (↑(k + 1) : Int)), .sort]) (by kernel_rfl) (.c (decide_eq_true (p := ((↑k : Int) < (↑l.length : Int))) (by omega)) <| .c oz1 <| .c (map_at (row1 IntKind.i32) (0) (l := l) (i := k) (by omega)) <| .c oz1 <| .c (map_at (row1 IntKind.i32) (0) (l := m) (i := k) (by omega)) <| .c (show (l.getD k 0 != m.getD k 0) = false by (simp at *; omega)) <| .c (IntWalk.i64_in ((↑k : Int) + 1) (by omega)) <| .c (Weak.int (k := .i64) (show (((↑k : Int) + 1) : Int) = ((↑(k + 1) : Int)) from (by omega))) <| .n)
set_option maxRecDepth 100000 in
set_option maxHeartbeats 2000000 in
theorem eq32_ln_e (l m : List Int) (i : Nat) (hl : l.length ≤ 1000000) (hm : l.length = m.length) (hi : i < l.length) (hne : l.getD i 0 ≠ m.getD i 0) (h : ∀ j, j < i → l.getD j 0 = m.getD j 0) : VT Try.prog (fnC Try.f208 [1, 1, 0, 1, 0, 0]) (eq32_ln_I l m i (i)) (.ret) (eq32_ln_Z l m i) := by
  have oz1 := (show 0 ≤ (↑i : Int) by omega)
  exact VT.run (W := [.r [] [], .br true, .r [] [], .r [] [.row [i32 (l.getD i 0)], .row [i32 (m.getD i 0)]], .br true, .r [] []]) (G := [.any (rg [(0, 2), (5, 1), (12, 13)]), .sort]) (by kernel_rfl) (.c (decide_eq_true (p := ((↑i : Int) < (↑l.length : Int))) (by omega)) <| .c oz1 <| .c (map_at (row1 IntKind.i32) (0) (l := l) (i := i) hi) <| .c oz1 <| .c (map_at (row1 IntKind.i32) (0) (l := m) (i := i) (by omega)) <| .c (show (l.getD i 0 != m.getD i 0) = true by (simp at *; omega)) <| .n)
theorem eq32_ln (l m : List Int) (i : Nat) (hl : l.length ≤ 1000000) (hm : l.length = m.length) (hi : i < l.length) (hne : l.getD i 0 ≠ m.getD i 0) (h : ∀ j, j < i → l.getD j 0 = m.getD j 0) : VT Try.prog (fnC Try.f208 [1, 1, 0, 1, 0]) (eq32_ln_I l m i 0) (.ret) (eq32_ln_Z l m i) :=
  VT.loop (fun k => eq32_ln_I l m i k) (i) (fun k hk => eq32_ln_s l m i hl hm hi hne h k hk) (eq32_ln_e l m i hl hm hi hne h) (by intro h; cases h)

set_option maxRecDepth 100000 in
set_option maxHeartbeats 2000000 in
theorem eq32_d (l m : List Int) (hl : l.length ≤ 1000000) (hm : l.length ≠ m.length) : VC Try.prog 208 ([ints .i32 l, ints .i32 m]) (bv false) := by
  exact VC.run (fn := Try.f208) (W := [.r [] [], .r [] [], .br true, .r [] []]) Try.func208 (by kernel_rfl) (.c (show ((↑(List.map (row1 IntKind.i32) l).length : Int) != (↑(List.map (row1 IntKind.i32) m).length : Int)) = true by (simp; omega)) <| .n)

set_option maxRecDepth 100000 in
set_option maxHeartbeats 2000000 in
theorem eq32_y (l : List Int) (hl : l.length ≤ 1000000) : VC Try.prog 208 ([ints .i32 l, ints .i32 l]) (bv true) := by
  have oz1 := (Weak.int (k := .i64) (show (((↑(List.map (row1 IntKind.i32) l).length : Int)) : Int) = ((↑l.length : Int)) from (by (simp; done))))
  have oz3 := @eq32_ly (l) hl
  exact VC.run (fn := Try.f208) (W := [.r [] [], .r [] [], .br false, .r [] [], .code [.any (rg [(4, 1), (6, 6)]), .weak 12 (wO oz1), .weak 13 (i64 (↑0 : Int)), .sort] (Exit.exit 0) (zO oz3), .r [] []]) Try.func208 (by kernel_rfl) (.c (show ((↑(List.map (row1 IntKind.i32) l).length : Int) != (↑(List.map (row1 IntKind.i32) l).length : Int)) = false by (simp; done)) <| .c oz1 <| .c (Weak.int (k := .i64) (show ((0) : Int) = ((↑0 : Int)) from (by omega))) <| .c oz3 <| .n)

set_option maxRecDepth 100000 in
set_option maxHeartbeats 2000000 in
theorem eq32_n (l m : List Int) (i : Nat) (hl : l.length ≤ 1000000) (hm : l.length = m.length) (hi : i < l.length) (hne : l.getD i 0 ≠ m.getD i 0) (h : ∀ j, j < i → l.getD j 0 = m.getD j 0) : VC Try.prog 208 ([ints .i32 l, ints .i32 m]) (bv false) := by
  have oz1 := (Weak.int (k := .i64) (show (((↑(List.map (row1 IntKind.i32) l).length : Int)) : Int) = ((↑l.length : Int)) from (by (simp; done))))
  have oz3 := @eq32_ln (l) (m) (i) hl hm hi hne h
  exact VC.run (fn := Try.f208) (W := [.r [] [], .r [] [], .br false, .r [] [], .code [.any (rg [(4, 1), (6, 6)]), .weak 12 (wO oz1), .weak 13 (i64 (↑0 : Int)), .sort] (Exit.ret) (zO oz3)]) Try.func208 (by kernel_rfl) (.c (show ((↑(List.map (row1 IntKind.i32) l).length : Int) != (↑(List.map (row1 IntKind.i32) m).length : Int)) = false by (simp; omega)) <| .c oz1 <| .c (Weak.int (k := .i64) (show ((0) : Int) = ((↑0 : Int)) from (by omega))) <| .c oz3 <| .n)
theorem eq32_v (l m : List Int) (hl : l.length ≤ 1000000) : VC Try.prog 208 [ints .i32 l, ints .i32 m] (bv (decide (l = m))) :=
  VC.alike (eq32_d l m hl) (eq32_y l hl) fun i h a b c => eq32_n l m i hl h a b c
noncomputable def rsame8_ly_I (l : List Int) (k : Nat) : VS := stt 26 [(0, ints .i8 l), (1, ints .i8 l), (5, i64 k)] []
noncomputable def rsame8_ly_Z (l : List Int) : VS := rsame8_ly_I l (l.length)
set_option maxRecDepth 100000 in
set_option maxHeartbeats 2000000 in
theorem rsame8_ly_s (l : List Int) (hl : l.length ≤ 1000000) (k : Nat) (hk : k < l.length) : VT Try.prog (fnC Try.f87 [1, 1, 0, 1, 0, 0]) (rsame8_ly_I l k) .normal (rsame8_ly_I l (k + 1)) := by
  have oz1 := (show 0 ≤ (↑k : Int) by omega)
  have oz2 := (map_at (row1 IntKind.i8) (0) (l := l) (i := k) hk)
  exact VT.run (W := [.r [] [], .br true, .r [] [.row (sO oz2), .row (sO oz2)], .br false, .r [] [.n ((↑k : Int) + 1)]]) (G := [.any (rg [(11, 15)]), .weak 5 (i64 (↑(k + 1) : Int)), .sort]) (by kernel_rfl) (.c (show decide ((↑k : Int) < (↑(List.map (row1 IntKind.i8) l).length : Int)) = true by (simp; omega)) <| .c oz1 <| .c oz2 <| .c oz1 <| .c oz2 <| .c (show (l.getD k 0 != l.getD k 0) = false by (simp; done)) <| .c (IntWalk.i64_in ((↑k : Int) + 1) (by omega)) <| .c (Weak.int (k := .i64) (show (((↑k : Int) + 1) : Int) = ((↑(k + 1) : Int)) from (by omega))) <| .n)
set_option maxRecDepth 100000 in
set_option maxHeartbeats 2000000 in
theorem rsame8_ly_e (l : List Int) (hl : l.length ≤ 1000000) : VT Try.prog (fnC Try.f87 [1, 1, 0, 1, 0, 0]) (rsame8_ly_I l (l.length)) (.exit 0) (rsame8_ly_Z l) := by
  exact VT.run (W := [.r [] [], .br false]) (G := [.any (rg [(11, 4)]), .sort]) (by kernel_rfl) (.c (show decide ((↑l.length : Int) < (↑(List.map (row1 IntKind.i8) l).length : Int)) = false by (simp; done)) <| .n)
theorem rsame8_ly (l : List Int) (hl : l.length ≤ 1000000) : VT Try.prog (fnC Try.f87 [1, 1, 0, 1, 0]) (rsame8_ly_I l 0) (.exit 0) (rsame8_ly_Z l) :=
  VT.loop (fun k => rsame8_ly_I l k) (l.length) (fun k hk => rsame8_ly_s l hl k hk) (rsame8_ly_e l hl) (by intro h; cases h)

noncomputable def rsame8_ln_I (l m : List Int) (i : Nat) (k : Nat) : VS := stt 26 [(0, ints .i8 l), (1, ints .i8 m), (5, i64 k)] []
noncomputable def rsame8_ln_Z (l m : List Int) (i : Nat) : VS := stt 26 [(4, bv false)] []
set_option maxRecDepth 100000 in
set_option maxHeartbeats 2000000 in
theorem rsame8_ln_s (l m : List Int) (i : Nat) (hl : l.length ≤ 1000000) (hm : l.length = m.length) (hi : i < l.length) (hne : l.getD i 0 ≠ m.getD i 0) (h : ∀ j, j < i → l.getD j 0 = m.getD j 0) (k : Nat) (hk : k < i) : VT Try.prog (fnC Try.f87 [1, 1, 0, 1, 0, 0]) (rsame8_ln_I l m i k) .normal (rsame8_ln_I l m i (k + 1)) := by
  have q := h k hk
  have oz1 := (show 0 ≤ (↑k : Int) by omega)
  exact VT.run (W := [.r [] [], .br true, .r [] [.row [i8 (l.getD k 0)], .row [i8 (m.getD k 0)]], .br false, .r [] [.n ((↑k : Int) + 1)]]) (G := [.any (rg [(11, 15)]), .weak 5 (i64 (↑(k + 1) : Int)), .sort]) (by kernel_rfl) (.c (show decide ((↑k : Int) < (↑(List.map (row1 IntKind.i8) l).length : Int)) = true by (simp; omega)) <| .c oz1 <| .c (map_at (row1 IntKind.i8) (0) (l := l) (i := k) (by omega)) <| .c oz1 <| .c (map_at (row1 IntKind.i8) (0) (l := m) (i := k) (by omega)) <| .c (show (l.getD k 0 != m.getD k 0) = false by (simp at *; omega)) <| .c (IntWalk.i64_in ((↑k : Int) + 1) (by omega)) <| .c (Weak.int (k := .i64) (show (((↑k : Int) + 1) : Int) = ((↑(k + 1) : Int)) from (by omega))) <| .n)
set_option maxRecDepth 100000 in
set_option maxHeartbeats 2000000 in
theorem rsame8_ln_e (l m : List Int) (i : Nat) (hl : l.length ≤ 1000000) (hm : l.length = m.length) (hi : i < l.length) (hne : l.getD i 0 ≠ m.getD i 0) (h : ∀ j, j < i → l.getD j 0 = m.getD j 0) : VT Try.prog (fnC Try.f87 [1, 1, 0, 1, 0, 0]) (rsame8_ln_I l m i (i)) (.ret) (rsame8_ln_Z l m i) := by
  have oz1 := (show 0 ≤ (↑i : Int) by omega)
  exact VT.run (W := [.r [] [], .br true, .r [] [.row [i8 (l.getD i 0)], .row [i8 (m.getD i 0)]], .br true, .r [] []]) (G := [.any (rg [(0, 2), (5, 1), (11, 4), (17, 9)]), .sort]) (by kernel_rfl) (.c (show decide ((↑i : Int) < (↑(List.map (row1 IntKind.i8) l).length : Int)) = true by (simp; omega)) <| .c oz1 <| .c (map_at (row1 IntKind.i8) (0) (l := l) (i := i) hi) <| .c oz1 <| .c (map_at (row1 IntKind.i8) (0) (l := m) (i := i) (by omega)) <| .c (show (l.getD i 0 != m.getD i 0) = true by (simp at *; omega)) <| .n)
theorem rsame8_ln (l m : List Int) (i : Nat) (hl : l.length ≤ 1000000) (hm : l.length = m.length) (hi : i < l.length) (hne : l.getD i 0 ≠ m.getD i 0) (h : ∀ j, j < i → l.getD j 0 = m.getD j 0) : VT Try.prog (fnC Try.f87 [1, 1, 0, 1, 0]) (rsame8_ln_I l m i 0) (.ret) (rsame8_ln_Z l m i) :=
  VT.loop (fun k => rsame8_ln_I l m i k) (i) (fun k hk => rsame8_ln_s l m i hl hm hi hne h k hk) (rsame8_ln_e l m i hl hm hi hne h) (by intro h; cases h)

set_option maxRecDepth 100000 in
set_option maxHeartbeats 2000000 in
theorem rsame8_d (l m : List Int) (hl : l.length ≤ 1000000) (hm : l.length ≠ m.length) : VC Try.prog 87 ([ints .i8 l, ints .i8 m]) (bv false) := by
  exact VC.run (fn := Try.f87) (W := [.r [] [], .r [] [], .br true, .r [] []]) Try.func87 (by kernel_rfl) (.c (show ((↑(List.map (row1 IntKind.i8) l).length : Int) != (↑(List.map (row1 IntKind.i8) m).length : Int)) = true by (simp; omega)) <| .n)

set_option maxRecDepth 100000 in
set_option maxHeartbeats 2000000 in
theorem rsame8_y (l : List Int) (hl : l.length ≤ 1000000) : VC Try.prog 87 ([ints .i8 l, ints .i8 l]) (bv true) := by
  have oz2 := @rsame8_ly (l) hl
  exact VC.run (fn := Try.f87) (W := [.r [] [], .r [] [], .br false, .r [] [], .code [.any [4, 6, 7, 8, 9, 10], .weak 5 (i64 (↑0 : Int)), .sort] (Exit.exit 0) (zO oz2), .r [] []]) Try.func87 (by kernel_rfl) (.c (show ((↑(List.map (row1 IntKind.i8) l).length : Int) != (↑(List.map (row1 IntKind.i8) l).length : Int)) = false by (simp; done)) <| .c (Weak.int (k := .i64) (show ((0) : Int) = ((↑0 : Int)) from (by omega))) <| .c oz2 <| .n)

set_option maxRecDepth 100000 in
set_option maxHeartbeats 2000000 in
theorem rsame8_n (l m : List Int) (i : Nat) (hl : l.length ≤ 1000000) (hm : l.length = m.length) (hi : i < l.length) (hne : l.getD i 0 ≠ m.getD i 0) (h : ∀ j, j < i → l.getD j 0 = m.getD j 0) : VC Try.prog 87 ([ints .i8 l, ints .i8 m]) (bv false) := by
  have oz2 := @rsame8_ln (l) (m) (i) hl hm hi hne h
  exact VC.run (fn := Try.f87) (W := [.r [] [], .r [] [], .br false, .r [] [], .code [.any [4, 6, 7, 8, 9, 10], .weak 5 (i64 (↑0 : Int)), .sort] (Exit.ret) (zO oz2)]) Try.func87 (by kernel_rfl) (.c (show ((↑(List.map (row1 IntKind.i8) l).length : Int) != (↑(List.map (row1 IntKind.i8) m).length : Int)) = false by (simp; omega)) <| .c (Weak.int (k := .i64) (show ((0) : Int) = ((↑0 : Int)) from (by omega))) <| .c oz2 <| .n)
theorem rsame8_v (l m : List Int) (hl : l.length ≤ 1000000) : VC Try.prog 87 [ints .i8 l, ints .i8 m] (bv (decide (l = m))) :=
  VC.alike (rsame8_d l m hl) (rsame8_y l hl) fun i h a b c => rsame8_n l m i hl h a b c
noncomputable def rsame32_ly_I (l : List Int) (k : Nat) : VS := stt 26 [(0, ints .i32 l), (1, ints .i32 l), (5, i64 k)] []
noncomputable def rsame32_ly_Z (l : List Int) : VS := rsame32_ly_I l (l.length)
set_option maxRecDepth 100000 in
set_option maxHeartbeats 2000000 in
theorem rsame32_ly_s (l : List Int) (hl : l.length ≤ 1000000) (k : Nat) (hk : k < l.length) : VT Try.prog (fnC Try.f88 [1, 1, 0, 1, 0, 0]) (rsame32_ly_I l k) .normal (rsame32_ly_I l (k + 1)) := by
  have oz1 := (show 0 ≤ (↑k : Int) by omega)
  have oz2 := (map_at (row1 IntKind.i32) (0) (l := l) (i := k) hk)
  exact VT.run (W := [.r [] [], .br true, .r [] [.row (sO oz2), .row (sO oz2)], .br false, .r [] [.n ((↑k : Int) + 1)]]) (G := [.any (rg [(11, 15)]), .weak 5 (i64 (↑(k + 1) : Int)), .sort]) (by kernel_rfl) (.c (show decide ((↑k : Int) < (↑(List.map (row1 IntKind.i32) l).length : Int)) = true by (simp; omega)) <| .c oz1 <| .c oz2 <| .c oz1 <| .c oz2 <| .c (show (l.getD k 0 != l.getD k 0) = false by (simp; done)) <| .c (IntWalk.i64_in ((↑k : Int) + 1) (by omega)) <| .c (Weak.int (k := .i64) (show (((↑k : Int) + 1) : Int) = ((↑(k + 1) : Int)) from (by omega))) <| .n)
set_option maxRecDepth 100000 in
set_option maxHeartbeats 2000000 in
theorem rsame32_ly_e (l : List Int) (hl : l.length ≤ 1000000) : VT Try.prog (fnC Try.f88 [1, 1, 0, 1, 0, 0]) (rsame32_ly_I l (l.length)) (.exit 0) (rsame32_ly_Z l) := by
  exact VT.run (W := [.r [] [], .br false]) (G := [.any (rg [(11, 4)]), .sort]) (by kernel_rfl) (.c (show decide ((↑l.length : Int) < (↑(List.map (row1 IntKind.i32) l).length : Int)) = false by (simp; done)) <| .n)
theorem rsame32_ly (l : List Int) (hl : l.length ≤ 1000000) : VT Try.prog (fnC Try.f88 [1, 1, 0, 1, 0]) (rsame32_ly_I l 0) (.exit 0) (rsame32_ly_Z l) :=
  VT.loop (fun k => rsame32_ly_I l k) (l.length) (fun k hk => rsame32_ly_s l hl k hk) (rsame32_ly_e l hl) (by intro h; cases h)

noncomputable def rsame32_ln_I (l m : List Int) (i : Nat) (k : Nat) : VS := stt 26 [(0, ints .i32 l), (1, ints .i32 m), (5, i64 k)] []
noncomputable def rsame32_ln_Z (l m : List Int) (i : Nat) : VS := stt 26 [(4, bv false)] []
set_option maxRecDepth 100000 in
set_option maxHeartbeats 2000000 in
theorem rsame32_ln_s (l m : List Int) (i : Nat) (hl : l.length ≤ 1000000) (hm : l.length = m.length) (hi : i < l.length) (hne : l.getD i 0 ≠ m.getD i 0) (h : ∀ j, j < i → l.getD j 0 = m.getD j 0) (k : Nat) (hk : k < i) : VT Try.prog (fnC Try.f88 [1, 1, 0, 1, 0, 0]) (rsame32_ln_I l m i k) .normal (rsame32_ln_I l m i (k + 1)) := by
  have q := h k hk
  have oz1 := (show 0 ≤ (↑k : Int) by omega)
  exact VT.run (W := [.r [] [], .br true, .r [] [.row [i32 (l.getD k 0)], .row [i32 (m.getD k 0)]], .br false, .r [] [.n ((↑k : Int) + 1)]]) (G := [.any (rg [(11, 15)]), .weak 5 (i64 (↑(k + 1) : Int)), .sort]) (by kernel_rfl) (.c (show decide ((↑k : Int) < (↑(List.map (row1 IntKind.i32) l).length : Int)) = true by (simp; omega)) <| .c oz1 <| .c (map_at (row1 IntKind.i32) (0) (l := l) (i := k) (by omega)) <| .c oz1 <| .c (map_at (row1 IntKind.i32) (0) (l := m) (i := k) (by omega)) <| .c (show (l.getD k 0 != m.getD k 0) = false by (simp at *; omega)) <| .c (IntWalk.i64_in ((↑k : Int) + 1) (by omega)) <| .c (Weak.int (k := .i64) (show (((↑k : Int) + 1) : Int) = ((↑(k + 1) : Int)) from (by omega))) <| .n)
set_option maxRecDepth 100000 in
set_option maxHeartbeats 2000000 in
theorem rsame32_ln_e (l m : List Int) (i : Nat) (hl : l.length ≤ 1000000) (hm : l.length = m.length) (hi : i < l.length) (hne : l.getD i 0 ≠ m.getD i 0) (h : ∀ j, j < i → l.getD j 0 = m.getD j 0) : VT Try.prog (fnC Try.f88 [1, 1, 0, 1, 0, 0]) (rsame32_ln_I l m i (i)) (.ret) (rsame32_ln_Z l m i) := by
  have oz1 := (show 0 ≤ (↑i : Int) by omega)
  exact VT.run (W := [.r [] [], .br true, .r [] [.row [i32 (l.getD i 0)], .row [i32 (m.getD i 0)]], .br true, .r [] []]) (G := [.any (rg [(0, 2), (5, 1), (11, 4), (17, 9)]), .sort]) (by kernel_rfl) (.c (show decide ((↑i : Int) < (↑(List.map (row1 IntKind.i32) l).length : Int)) = true by (simp; omega)) <| .c oz1 <| .c (map_at (row1 IntKind.i32) (0) (l := l) (i := i) hi) <| .c oz1 <| .c (map_at (row1 IntKind.i32) (0) (l := m) (i := i) (by omega)) <| .c (show (l.getD i 0 != m.getD i 0) = true by (simp at *; omega)) <| .n)
theorem rsame32_ln (l m : List Int) (i : Nat) (hl : l.length ≤ 1000000) (hm : l.length = m.length) (hi : i < l.length) (hne : l.getD i 0 ≠ m.getD i 0) (h : ∀ j, j < i → l.getD j 0 = m.getD j 0) : VT Try.prog (fnC Try.f88 [1, 1, 0, 1, 0]) (rsame32_ln_I l m i 0) (.ret) (rsame32_ln_Z l m i) :=
  VT.loop (fun k => rsame32_ln_I l m i k) (i) (fun k hk => rsame32_ln_s l m i hl hm hi hne h k hk) (rsame32_ln_e l m i hl hm hi hne h) (by intro h; cases h)

set_option maxRecDepth 100000 in
set_option maxHeartbeats 2000000 in
theorem rsame32_d (l m : List Int) (hl : l.length ≤ 1000000) (hm : l.length ≠ m.length) : VC Try.prog 88 ([ints .i32 l, ints .i32 m]) (bv false) := by
  exact VC.run (fn := Try.f88) (W := [.r [] [], .r [] [], .br true, .r [] []]) Try.func88 (by kernel_rfl) (.c (show ((↑(List.map (row1 IntKind.i32) l).length : Int) != (↑(List.map (row1 IntKind.i32) m).length : Int)) = true by (simp; omega)) <| .n)

set_option maxRecDepth 100000 in
set_option maxHeartbeats 2000000 in
theorem rsame32_y (l : List Int) (hl : l.length ≤ 1000000) : VC Try.prog 88 ([ints .i32 l, ints .i32 l]) (bv true) := by
  have oz2 := @rsame32_ly (l) hl
  exact VC.run (fn := Try.f88) (W := [.r [] [], .r [] [], .br false, .r [] [], .code [.any [4, 6, 7, 8, 9, 10], .weak 5 (i64 (↑0 : Int)), .sort] (Exit.exit 0) (zO oz2), .r [] []]) Try.func88 (by kernel_rfl) (.c (show ((↑(List.map (row1 IntKind.i32) l).length : Int) != (↑(List.map (row1 IntKind.i32) l).length : Int)) = false by (simp; done)) <| .c (Weak.int (k := .i64) (show ((0) : Int) = ((↑0 : Int)) from (by omega))) <| .c oz2 <| .n)

set_option maxRecDepth 100000 in
set_option maxHeartbeats 2000000 in
theorem rsame32_n (l m : List Int) (i : Nat) (hl : l.length ≤ 1000000) (hm : l.length = m.length) (hi : i < l.length) (hne : l.getD i 0 ≠ m.getD i 0) (h : ∀ j, j < i → l.getD j 0 = m.getD j 0) : VC Try.prog 88 ([ints .i32 l, ints .i32 m]) (bv false) := by
  have oz2 := @rsame32_ln (l) (m) (i) hl hm hi hne h
  exact VC.run (fn := Try.f88) (W := [.r [] [], .r [] [], .br false, .r [] [], .code [.any [4, 6, 7, 8, 9, 10], .weak 5 (i64 (↑0 : Int)), .sort] (Exit.ret) (zO oz2)]) Try.func88 (by kernel_rfl) (.c (show ((↑(List.map (row1 IntKind.i32) l).length : Int) != (↑(List.map (row1 IntKind.i32) m).length : Int)) = false by (simp; omega)) <| .c (Weak.int (k := .i64) (show ((0) : Int) = ((↑0 : Int)) from (by omega))) <| .c oz2 <| .n)
theorem rsame32_v (l m : List Int) (hl : l.length ≤ 1000000) : VC Try.prog 88 [ints .i32 l, ints .i32 m] (bv (decide (l = m))) :=
  VC.alike (rsame32_d l m hl) (rsame32_y l hl) fun i h a b c => rsame32_n l m i hl h a b c
end Go.Proofs.Ytgecmooedhnenaa

