/- The shapes of all values of a block, by the program and by the document. No condition. -/
import Derived.Test.YtdmomnaoegkpiaaGs
namespace Go.Proofs.Ytdmomnaoegkpiaa
open Go.RowKit
set_option linter.unusedSimpArgs false
set_option linter.unusedVariables false
set_option linter.unnecessarySimpa false

def Shp.Rt (s : Shp) : Prop := 0 < elems s.h s.x s.c
abbrev zsh : Shp := ⟨0, 0, 0⟩
theorem zsh_ok : zsh.Ok := by constructor <;> exact ⟨by decide, by decide⟩
theorem Shp.Rt.ok {s : Shp} (h : s.Rt) : s.Ok := by
  have := elems_ok h
  exact ⟨⟨by omega, by omega⟩, ⟨by omega, by omega⟩, ⟨by omega, by omega⟩⟩
/-- Either all is right, or nothing is there. -/
def Told (r : Shp × Int) : Prop := (r.2 = 0 ∧ r.1.Rt) ∨ (r.2 ≠ 0 ∧ r.1 = zsh)
theorem slideE_told (t : Shp) (k s p o : Int) : Told (slideE t k s p o) := by
  unfold slideE
  split
  · exact .inr ⟨by dsimp only; decide, rfl⟩
  · split
    · exact .inr ⟨by assumption, rfl⟩
    · split
      · exact .inr ⟨by assumption, rfl⟩
      · split
        · exact .inr ⟨by dsimp only; decide, rfl⟩
        · rename_i h; exact .inl ⟨rfl, Classical.not_not.1 h⟩
theorem convE_told (t : Shp) (n : Nod) : Told (convE t n) := by
  have q := slideE_told t n.nk n.ns n.np n.no
  unfold convE
  split
  · exact .inr ⟨by assumption, rfl⟩
  · split
    · exact .inr ⟨by dsimp only; decide, rfl⟩
    · rcases q with q | q
      · exact .inl ⟨rfl, q.2⟩
      · exact absurd q.1 (by assumption)
theorem depthE_told (t : Shp) (n : Nod) : Told (depthE t n) := by
  have q := slideE_told t n.nk n.ns n.np t.c
  unfold depthE
  split
  · exact .inr ⟨by assumption, rfl⟩
  · split
    · exact .inr ⟨by dsimp only; decide, rfl⟩
    · rcases q with q | q
      · exact .inl ⟨rfl, q.2⟩
      · exact absurd q.1 (by assumption)
theorem denseE_told (t : Shp) (n : Nod) : Told (denseE t n) := by
  unfold denseE
  split
  · exact .inr ⟨by dsimp only; decide, rfl⟩
  · split
    · exact .inr ⟨by dsimp only; decide, rfl⟩
    · rename_i h _
      have := elems_in 1 1 n.no
      exact .inl ⟨rfl, by unfold Shp.Rt; dsimp only; omega⟩
theorem aroundE_told (a : Shp) (p : Int) : Told (aroundE a p) := by
  unfold aroundE
  split
  · exact .inr ⟨by dsimp only; decide, rfl⟩
  · split
    · exact .inr ⟨by dsimp only; decide, rfl⟩
    · have := elems_in (a.h + 2 * p) (a.x + 2 * p) a.c
      exact .inl ⟨rfl, by unfold Shp.Rt; dsimp only; omega⟩
theorem flat_rt {n : Int} (h0 : 0 < n) (h : n ≤ 1024) : 0 < elems 1 1 n := by
  unfold elems; rw [if_pos (by omega)]; omega
theorem shapeE_told (n : Nod) (a b : Shp) : Told (shapeE n a b) := by
  unfold shapeE
  split
  · exact convE_told a n
  · split
    · exact depthE_told a n
    · split
      · exact denseE_told a n
      · split
        · exact slideE_told a n.nk n.ns n.np a.c
        · split
          · exact .inr ⟨by dsimp only; decide, rfl⟩
          · split
            · exact .inr ⟨by dsimp only; decide, rfl⟩
            · rename_i h
              have q := elems_in a.h a.x a.c
              split
              · exact (.inl ⟨rfl, show 0 < elems 1 1 (elems a.h a.x a.c) from flat_rt (by omega) q.2⟩)
              · split
                · exact aroundE_told a n.np
                · exact .inl ⟨rfl, by unfold Shp.Rt; dsimp only; omega⟩
theorem nextE_told (n : Nod) (L : List Shp) : Told (nextE n L) := by
  unfold nextE
  split
  · exact .inr ⟨by assumption, rfl⟩
  · split
    · exact shapeE_told _ _ _
    · exact .inr ⟨by dsimp only; decide, rfl⟩
theorem Told.ok {r : Shp × Int} (h : Told r) : r.1.Ok := by
  rcases h with h | h
  · exact h.2.ok
  · rw [h.2]; exact zsh_ok
/-- All values of a block have shapes. -/
structure SOK (l : List Nod) (a : Shp) : Prop where
  i : a.Rt
  e : 0 < l.length
  f : l.length ≤ 8
  k : ∀ k, k < l.length → errL nextE l a k = 0
def shapesB (l : List Nod) (a : Shp) : Nat → Bool := fun k => errL nextE l a k == 0
/-- Where all ends, and what is wrong there. -/
def shapesE (l : List Nod) (a : Shp) : Int × Int :=
  if ¬ 0 < elems a.h a.x a.c then (-1, 5) else if l.length = 0 then (-1, 12) else if 8 < l.length then (-1, 4)
  else if firstBad (shapesB l a) l.length < l.length then (firstBad (shapesB l a) l.length, errL nextE l a (firstBad (shapesB l a) l.length)) else (l.length, 0)
theorem shapesE_y {l : List Nod} {a : Shp} (h : SOK l a) : shapesE l a = ((l.length : Int), 0) := by
  have h0 := h.i
  unfold Shp.Rt at h0
  have h1 := h.e
  have h2 := h.f
  unfold shapesE
  rw [if_neg (by omega), if_neg (by omega), if_neg (by omega), firstBad_all fun k hk => by simpa [shapesB] using h.k k hk, if_neg (by omega)]
theorem shapesE_at {l : List Nod} {a : Shp} {m : Nat} (i : a.Rt) (e : 0 < l.length) (f : l.length ≤ 8) (hm : m < l.length) (hf : errL nextE l a m ≠ 0) (h : ∀ k, k < m → errL nextE l a k = 0) : shapesE l a = ((m : Int), errL nextE l a m) := by
  unfold Shp.Rt at i
  have := firstBad_at (p := shapesB l a) (m := m) (by simpa [shapesB] using hf) (fun k hk => by simpa [shapesB] using h k hk) hm
  unfold shapesE
  rw [if_neg (by omega), if_neg (by omega), if_neg (by omega), this, if_pos hm]
theorem SOK.cases (l : List Nod) (a : Shp) : SOK l a ∨ ¬ a.Rt ∨ l.length = 0 ∨ 8 < l.length ∨ (a.Rt ∧ 0 < l.length ∧ l.length ≤ 8 ∧ ∃ m, m < l.length ∧ errL nextE l a m ≠ 0 ∧ ∀ k, k < m → errL nextE l a k = 0) := by
  by_cases i : a.Rt
  · by_cases e : 0 < l.length
    · by_cases f : l.length ≤ 8
      · rcases all_or (shapesB l a) l.length with h | ⟨m, h1, h2, h3⟩
        · exact .inl ⟨i, e, f, fun k hk => by simpa [shapesB] using h k hk⟩
        · exact .inr (.inr (.inr (.inr ⟨i, e, f, m, h1, by simpa [shapesB] using h2, fun k hk => by simpa [shapesB] using h3 k hk⟩)))
      · exact .inr (.inr (.inr (.inl (by omega))))
    · exact .inr (.inr (.inl (by omega)))
  · exact .inr (.inl i)
theorem shapesE_n {l : List Nod} {a : Shp} (h : ¬ SOK l a) : (shapesE l a).2 ≠ 0 := by
  rcases SOK.cases l a with q | q | q | q | ⟨i, e, f, m, h1, h2, h3⟩
  · exact absurd q h
  · have e : shapesE l a = (-1, 5) := by unfold shapesE; exact if_pos q
    rw [e]; decide
  · unfold shapesE
    by_cases c1 : ¬ 0 < elems a.h a.x a.c
    · rw [if_pos c1]; dsimp only; decide
    · rw [if_neg c1, if_pos q]; dsimp only; decide
  · unfold shapesE
    by_cases c1 : ¬ 0 < elems a.h a.x a.c
    · rw [if_pos c1]; dsimp only; decide
    · rw [if_neg c1, if_neg (by omega), if_pos q]; dsimp only; decide
  · rw [shapesE_at i e f h1 h2 h3]; exact h2
theorem grow_ok {l : List Nod} {a : Shp} (i : a.Ok) (k : Nat) : ∀ s ∈ growL nextE l a k, s.Ok :=
  growL_all (n := k) i (fun j _ _ => (nextE_told _ _).ok) k (Nat.le_refl _)
noncomputable def shapes_ly_I (l : List Nod) (a : Shp) (k : Nat) : VS := stt 51 [(0, .sl 19 (l.map nodC)), (7, .own 900), (26, .sl 19 (l.map nodC)), (27, i64 l.length), (28, i64 k)] [(900, .slc 32 3 ((growL nextE l a k).map shpC))]
noncomputable def shapes_ly_Z (l : List Nod) (a : Shp) : VS := shapes_ly_I l a (l.length)
set_option maxRecDepth 100000 in
set_option maxHeartbeats 2000000 in
theorem shapes_ly_s (l : List Nod) (a : Shp) (okl : ∀ n ∈ l, n.Ok) (wl : ∀ n ∈ l, n.w.length ≤ 100000 ∧ n.b.length ≤ 100000) (i : a.Ok) (f8 : l.length ≤ 8) (h : ∀ k, k < l.length → errL nextE l a k = 0) (k : Nat) (hk : k < l.length) : VT Try.prog (fnC Try.f82 [1, 1, 1, 0, 1, 0, 0]) (shapes_ly_I l a k) .normal (shapes_ly_I l a (k + 1)) := by
  have q := h k hk
  have q1 := growL_len nextE l a k
  have q2 := grow_ok (l := l) i k
  have q3 := getD_in okl hk
  have q4 := getD_in wl hk
  obtain ⟨q5, q6⟩ := q4
  unfold errL at q
  have oz2 := (map_at (nodC) (default) (l := l) (i := k) hk)
  have oz3 := @next_v (l.getD k default) (growL nextE l a k) q3 q2 (by omega) q5 q6
  exact VT.run (W := [.r [] [], .br true, .r [] [.row (sO oz2)], .r [] [.callr (rO oz3)], .r [] [], .br false, .r [] [], .r [] [.n ((↑k : Int) + 1)]]) (G := [.any (rg [(8, 4), (29, 12), (43, 5)]), .drop [9, 10, 45], .ren 46 900, .weak 28 (i64 (↑(k + 1) : Int)), .blk 900 (Blk.slc 32 3 (List.map shpC (growL nextE l a (k + 1)))), .sort]) (by kernel_rfl) (.c (decide_eq_true (p := ((↑k : Int) < (↑l.length : Int))) (by omega)) <| .c (show 0 ≤ (↑k : Int) by omega) <| .c oz2 <| .c oz3 <| .c (show ((nextE (l.getD k default) (growL nextE l a k)).snd != 0) = false by (simp at *; omega)) <| .c (show ((List.map shpC (growL nextE l a k)).length + 1) * 24 ≤ 140737488355328 by (simp; omega)) <| .c (show (List.map shpC (growL nextE l a k)).length + 1 ≤ 9223372036854775807 by (simp; omega)) <| .c (IntWalk.i64_in ((↑k : Int) + 1) (by omega)) <| .c (Weak.int (k := .i64) (show (((↑k : Int) + 1) : Int) = ((↑(k + 1) : Int)) from (by omega))) <| .c (show BlkW (Blk.slc 32 3 (List.map shpC (growL nextE l a k) ++ [[i64 (nextE (l.getD k default) (growL nextE l a k)).fst.h, i64 (nextE (l.getD k default) (growL nextE l a k)).fst.x, i64 (nextE (l.getD k default) (growL nextE l a k)).fst.c]])) (Blk.slc 32 3 (List.map shpC (growL nextE l a (k + 1)))) from (BlkW.rows (rows_to (shpC) (l := growL nextE l a k ++ [Shp.mk (nextE (l.getD k default) (growL nextE l a k)).1.h (nextE (l.getD k default) (growL nextE l a k)).1.x (nextE (l.getD k default) (growL nextE l a k)).1.c]) (m := growL nextE l a (k + 1)) (by first | (simp only [List.map_append, List.map_cons, List.map_nil, List.map_set, List.map_replicate, List.map_take, List.map_drop]; done) | rfl | (simp only [List.map_append, List.map_cons, List.map_nil, List.map_set, List.map_replicate, List.map_take, List.map_drop]; rfl)) (show (growL nextE l a k ++ [Shp.mk (nextE (l.getD k default) (growL nextE l a k)).1.h (nextE (l.getD k default) (growL nextE l a k)).1.x (nextE (l.getD k default) (growL nextE l a k)).1.c]) = (growL nextE l a (k + 1)) from (by rfl))))) <| .n)
set_option maxRecDepth 100000 in
set_option maxHeartbeats 2000000 in
theorem shapes_ly_e (l : List Nod) (a : Shp) (okl : ∀ n ∈ l, n.Ok) (wl : ∀ n ∈ l, n.w.length ≤ 100000 ∧ n.b.length ≤ 100000) (i : a.Ok) (f8 : l.length ≤ 8) (h : ∀ k, k < l.length → errL nextE l a k = 0) : VT Try.prog (fnC Try.f82 [1, 1, 1, 0, 1, 0, 0]) (shapes_ly_I l a (l.length)) (.exit 1) (shapes_ly_Z l a) := by
  exact VT.run (W := [.r [] [], .br false]) (G := [.any [29], .sort]) (by kernel_rfl) (.c (decide_eq_false (p := ((↑l.length : Int) < (↑l.length : Int))) (by omega)) <| .n)
theorem shapes_ly (l : List Nod) (a : Shp) (okl : ∀ n ∈ l, n.Ok) (wl : ∀ n ∈ l, n.w.length ≤ 100000 ∧ n.b.length ≤ 100000) (i : a.Ok) (f8 : l.length ≤ 8) (h : ∀ k, k < l.length → errL nextE l a k = 0) : VT Try.prog (fnC Try.f82 [1, 1, 1, 0, 1, 0]) (shapes_ly_I l a 0) (.exit 1) (shapes_ly_Z l a) :=
  VT.loop (fun k => shapes_ly_I l a k) (l.length) (fun k hk => shapes_ly_s l a okl wl i f8 h k hk) (shapes_ly_e l a okl wl i f8 h) (by intro h; cases h)

noncomputable def shapes_ln_I (l : List Nod) (a : Shp) (m : Nat) (k : Nat) : VS := stt 51 [(0, .sl 19 (l.map nodC)), (7, .own 900), (26, .sl 19 (l.map nodC)), (27, i64 l.length), (28, i64 k)] [(900, .slc 32 3 ((growL nextE l a k).map shpC))]
noncomputable def shapes_ln_Z (l : List Nod) (a : Shp) (m : Nat) : VS := stt 51 [(4, nilv), (5, i64 m), (6, i64 (errL nextE l a m))] []
set_option maxRecDepth 100000 in
set_option maxHeartbeats 2000000 in
theorem shapes_ln_s (l : List Nod) (a : Shp) (m : Nat) (okl : ∀ n ∈ l, n.Ok) (wl : ∀ n ∈ l, n.w.length ≤ 100000 ∧ n.b.length ≤ 100000) (i : a.Ok) (f8 : l.length ≤ 8) (hm : m < l.length) (hf : errL nextE l a m ≠ 0) (h : ∀ k, k < m → errL nextE l a k = 0) (k : Nat) (hk : k < m) : VT Try.prog (fnC Try.f82 [1, 1, 1, 0, 1, 0, 0]) (shapes_ln_I l a m k) .normal (shapes_ln_I l a m (k + 1)) := by
  have q := h k hk
  have q1 := growL_len nextE l a k
  have q2 := grow_ok (l := l) i k
  have q3 := getD_in okl (show k < l.length by omega)
  have q4 := getD_in wl (show k < l.length by omega)
  obtain ⟨q5, q6⟩ := q4
  unfold errL at q
  have oz2 := (map_at (nodC) (default) (l := l) (i := k) (by omega))
  have oz3 := @next_v (l.getD k default) (growL nextE l a k) q3 q2 (by omega) q5 q6
  exact VT.run (W := [.r [] [], .br true, .r [] [.row (sO oz2)], .r [] [.callr (rO oz3)], .r [] [], .br false, .r [] [], .r [] [.n ((↑k : Int) + 1)]]) (G := [.any (rg [(8, 4), (29, 12), (43, 5)]), .drop [9, 10, 45], .ren 46 900, .weak 28 (i64 (↑(k + 1) : Int)), .blk 900 (Blk.slc 32 3 (List.map shpC (growL nextE l a (k + 1)))), .sort]) (by kernel_rfl) (.c (decide_eq_true (p := ((↑k : Int) < (↑l.length : Int))) (by omega)) <| .c (show 0 ≤ (↑k : Int) by omega) <| .c oz2 <| .c oz3 <| .c (show ((nextE (l.getD k default) (growL nextE l a k)).snd != 0) = false by (simp at *; omega)) <| .c (show ((List.map shpC (growL nextE l a k)).length + 1) * 24 ≤ 140737488355328 by (simp; omega)) <| .c (show (List.map shpC (growL nextE l a k)).length + 1 ≤ 9223372036854775807 by (simp; omega)) <| .c (IntWalk.i64_in ((↑k : Int) + 1) (by omega)) <| .c (Weak.int (k := .i64) (show (((↑k : Int) + 1) : Int) = ((↑(k + 1) : Int)) from (by omega))) <| .c (show BlkW (Blk.slc 32 3 (List.map shpC (growL nextE l a k) ++ [[i64 (nextE (l.getD k default) (growL nextE l a k)).fst.h, i64 (nextE (l.getD k default) (growL nextE l a k)).fst.x, i64 (nextE (l.getD k default) (growL nextE l a k)).fst.c]])) (Blk.slc 32 3 (List.map shpC (growL nextE l a (k + 1)))) from (BlkW.rows (rows_to (shpC) (l := growL nextE l a k ++ [Shp.mk (nextE (l.getD k default) (growL nextE l a k)).1.h (nextE (l.getD k default) (growL nextE l a k)).1.x (nextE (l.getD k default) (growL nextE l a k)).1.c]) (m := growL nextE l a (k + 1)) (by first | (simp only [List.map_append, List.map_cons, List.map_nil, List.map_set, List.map_replicate, List.map_take, List.map_drop]; done) | rfl | (simp only [List.map_append, List.map_cons, List.map_nil, List.map_set, List.map_replicate, List.map_take, List.map_drop]; rfl)) (show (growL nextE l a k ++ [Shp.mk (nextE (l.getD k default) (growL nextE l a k)).1.h (nextE (l.getD k default) (growL nextE l a k)).1.x (nextE (l.getD k default) (growL nextE l a k)).1.c]) = (growL nextE l a (k + 1)) from (by rfl))))) <| .n)
set_option maxRecDepth 100000 in
set_option maxHeartbeats 2000000 in
theorem shapes_ln_e (l : List Nod) (a : Shp) (m : Nat) (okl : ∀ n ∈ l, n.Ok) (wl : ∀ n ∈ l, n.w.length ≤ 100000 ∧ n.b.length ≤ 100000) (i : a.Ok) (f8 : l.length ≤ 8) (hm : m < l.length) (hf : errL nextE l a m ≠ 0) (h : ∀ k, k < m → errL nextE l a k = 0) : VT Try.prog (fnC Try.f82 [1, 1, 1, 0, 1, 0, 0]) (shapes_ln_I l a m (m)) (.ret) (shapes_ln_Z l a m) := by
  have q1 := growL_len nextE l a m
  have q2 := grow_ok (l := l) i m
  have q3 := getD_in okl hm
  have q4 := getD_in wl hm
  obtain ⟨q5, q6⟩ := q4
  unfold errL at hf
  have oz2 := (map_at (nodC) (default) (l := l) (i := m) hm)
  have oz3 := @next_v (l.getD m default) (growL nextE l a m) q3 q2 (by omega) q5 q6
  have oz5 := (Weak.int (k := .i64) (show (((nextE (l.getD m default) (growL nextE l a m)).snd) : Int) = (errL nextE l a m) from (by rfl)))
  exact VT.run (W := [.r [] [], .br true, .r [] [.row (sO oz2)], .r [] [.callr (rO oz3)], .r [] [], .br true, .r [] []]) (G := [.any (rg [(0, 1), (7, 5), (26, 17)]), .drop [900, 9, 10], .weak 6 (wO oz5), .sort]) (by kernel_rfl) (.c (decide_eq_true (p := ((↑m : Int) < (↑l.length : Int))) (by omega)) <| .c (show 0 ≤ (↑m : Int) by omega) <| .c oz2 <| .c oz3 <| .c (show ((nextE (l.getD m default) (growL nextE l a m)).snd != 0) = true by (simp at *; omega)) <| .c oz5 <| .n)
theorem shapes_ln (l : List Nod) (a : Shp) (m : Nat) (okl : ∀ n ∈ l, n.Ok) (wl : ∀ n ∈ l, n.w.length ≤ 100000 ∧ n.b.length ≤ 100000) (i : a.Ok) (f8 : l.length ≤ 8) (hm : m < l.length) (hf : errL nextE l a m ≠ 0) (h : ∀ k, k < m → errL nextE l a k = 0) : VT Try.prog (fnC Try.f82 [1, 1, 1, 0, 1, 0]) (shapes_ln_I l a m 0) (.ret) (shapes_ln_Z l a m) :=
  VT.loop (fun k => shapes_ln_I l a m k) (m) (fun k hk => shapes_ln_s l a m okl wl i f8 hm hf h k hk) (shapes_ln_e l a m okl wl i f8 hm hf h) (by intro h; cases h)

set_option maxRecDepth 100000 in
set_option maxHeartbeats 2000000 in
theorem shapes_y (l : List Nod) (a : Shp) (okl : ∀ n ∈ l, n.Ok) (wl : ∀ n ∈ l, n.w.length ≤ 100000 ∧ n.b.length ≤ 100000) (h : SOK l a) : VC Try.prog 82 ([.sl 19 (l.map nodC), shp a]) (.tup [.sl 3 ((growL nextE l a l.length).map shpC), i64 l.length, i64 0]) := by
  have q1 := h.i
  have q2 := h.e
  have q3 := h.f
  have q4 := h.k
  have q5 := q1.ok
  unfold Shp.Rt at q1
  have oz0 := @sRight_v (a) q5
  have oz6 := @shapes_ly (l) (a) okl wl q5 q3 q4
  exact (VC.run (fn := Try.f82) (W := [.r [] [], .r [] [.callr (rO oz0)], .br false, .r [] [], .br false, .r [] [], .br false, .r [] [], .r [] [], .code [.any (rg [(1, 1), (3, 4), (12, 14)]), .drop [3], .ren 25 900, .weak 27 (i64 (↑l.length : Int)), .weak 28 (i64 (↑0 : Int)), .sort] (Exit.exit 1) (zO oz6), .r [] []]) (r := AV.tup [AV.sl 3 (List.map shpC (growL nextE l a l.length)), i64 (↑(List.map nodC l).length : Int), i64 0]) Try.func82 (by kernel_rfl) (.c oz0 <| .c (show (!decide (0 < elems a.h a.x a.c)) = false by (simp; omega)) <| .c (show ((↑(List.map nodC l).length : Int) == 0) = false by (simp only [decide_eq_true_eq, decide_eq_false_iff_not, beq_iff_eq, bne_iff_ne, ne_eq, beq_eq_false_iff_ne, bne_eq_false_iff_eq, Bool.not_eq_true', Bool.not_eq_false', Bool.not_eq_eq_eq_not, Bool.not_true, Bool.not_false, Classical.not_not, Int.not_lt, Int.not_le, Bool.and_eq_true, Bool.and_eq_false_iff, Bool.or_eq_true, Bool.or_eq_false_iff, Bool.and_true, Bool.true_and, Bool.and_false, Bool.false_and, Bool.or_false, Bool.false_or, eqNums, List.length_map, List.length_append, List.length_cons, List.length_nil, List.length_set, List.length_replicate, List.length_take, List.length_drop, List.length_range, Int.toNat_natCast, Nat.zero_add, List.map_eq_nil_iff]; (first | done | with_reducible assumption | omega | contradiction))) <| .c (show decide ((↑(List.map nodC l).length : Int) > 8) = false by (simp; omega)) <| .c (Weak.int (k := .i64) (show (((↑(List.map nodC l).length : Int)) : Int) = ((↑l.length : Int)) from (by (simp; done)))) <| .c (Weak.int (k := .i64) (show ((0) : Int) = ((↑0 : Int)) from (by omega))) <| .c oz6 <| .n)).weak (WeakL.refl _) (Weak.tup (.cons (.refl _) (.cons (Weak.int (show (((↑(List.map nodC l).length : Int)) : Int) = ((↑l.length : Int)) from (by (simp; done)))) (.cons (.refl _) .nil))))

set_option maxRecDepth 100000 in
set_option maxHeartbeats 2000000 in
theorem shapes_a (l : List Nod) (a : Shp) (i : a.Ok) (hl : l.length ≤ 1000) (h : ¬ 0 < elems a.h a.x a.c ∨ l.length = 0 ∨ 8 < l.length) : VC Try.prog 82 ([.sl 19 (l.map nodC), shp a]) (.tup [nilv, i64 (shapesE l a).1, i64 (shapesE l a).2]) := by
  have q := elems_in a.h a.x a.c
  have oz0 := @sRight_v (a) i
  rcases Bool.eq_false_or_eq_true (!decide (0 < elems a.h a.x a.c)) with hc0 | hc0
  · have gc0 := bnt hc0
    exact (VC.run (fn := Try.f82) (W := [.r [] [], .r [] [.callr (rO oz0)], .br true, .r [] []]) (r := AV.tup [AV.lit (Value.slice none 0 0), i64 (-1), i64 5]) Try.func82 (by kernel_rfl) (.c oz0 <| .c hc0 <| .n)).weak (WeakL.refl _) (Weak.tup (.cons (.refl _) (.cons (Weak.int (show ((-1) : Int) = ((shapesE l a).fst) from (by (unfold shapesE; (try simp only [List.length_map] at *); (repeat first | rw [if_pos (by omega)] | rw [if_neg (by omega)]))))) (.cons (Weak.int (show ((5) : Int) = ((shapesE l a).snd) from (by (unfold shapesE; (try simp only [List.length_map] at *); (repeat first | rw [if_pos (by omega)] | rw [if_neg (by omega)]))))) .nil))))
  · have gc0 := bnf hc0
    rcases Bool.eq_false_or_eq_true ((↑(List.map nodC l).length : Int) == 0) with hc1 | hc1
    · have gc1 : (↑(List.map nodC l).length : Int) = 0 := bet hc1
      exact (VC.run (fn := Try.f82) (W := [.r [] [], .r [] [.callr (rO oz0)], .br false, .r [] [], .br true, .r [] []]) (r := AV.tup [AV.lit (Value.slice none 0 0), i64 (-1), i64 12]) Try.func82 (by kernel_rfl) (.c oz0 <| .c hc0 <| .c hc1 <| .n)).weak (WeakL.refl _) (Weak.tup (.cons (.refl _) (.cons (Weak.int (show ((-1) : Int) = ((shapesE l a).fst) from (by (unfold shapesE; (try simp only [List.length_map] at *); (repeat first | rw [if_pos (by omega)] | rw [if_neg (by omega)]))))) (.cons (Weak.int (show ((12) : Int) = ((shapesE l a).snd) from (by (unfold shapesE; (try simp only [List.length_map] at *); (repeat first | rw [if_pos (by omega)] | rw [if_neg (by omega)]))))) .nil))))
    · have gc1 : ¬(↑(List.map nodC l).length : Int) = 0 := bef hc1
      exact (VC.run (fn := Try.f82) (W := [.r [] [], .r [] [.callr (rO oz0)], .br false, .r [] [], .br false, .r [] [], .br true, .r [] []]) (r := AV.tup [AV.lit (Value.slice none 0 0), i64 (-1), i64 4]) Try.func82 (by kernel_rfl) (.c oz0 <| .c hc0 <| .c hc1 <| .c (show decide ((↑(List.map nodC l).length : Int) > 8) = true by (simp only [decide_eq_true_eq, decide_eq_false_iff_not, beq_iff_eq, bne_iff_ne, ne_eq, beq_eq_false_iff_ne, bne_eq_false_iff_eq, Bool.not_eq_true', Bool.not_eq_false', Bool.not_eq_eq_eq_not, Bool.not_true, Bool.not_false, Classical.not_not, Int.not_lt, Int.not_le, Bool.and_eq_true, Bool.and_eq_false_iff, Bool.or_eq_true, Bool.or_eq_false_iff, Bool.and_true, Bool.true_and, Bool.and_false, Bool.false_and, Bool.or_false, Bool.false_or, eqNums, List.length_map, List.length_append, List.length_cons, List.length_nil, List.length_set, List.length_replicate, List.length_take, List.length_drop, List.length_range, Int.toNat_natCast, Nat.zero_add, List.map_eq_nil_iff] at *; (first | done | with_reducible assumption | omega | contradiction))) <| .n)).weak (WeakL.refl _) (Weak.tup (.cons (.refl _) (.cons (Weak.int (show ((-1) : Int) = ((shapesE l a).fst) from (by (unfold shapesE; (try simp only [List.length_map] at *); (repeat first | rw [if_pos (by omega)] | rw [if_neg (by omega)]))))) (.cons (Weak.int (show ((4) : Int) = ((shapesE l a).snd) from (by (unfold shapesE; (try simp only [List.length_map] at *); (repeat first | rw [if_pos (by omega)] | rw [if_neg (by omega)]))))) .nil))))

set_option maxRecDepth 100000 in
set_option maxHeartbeats 2000000 in
theorem shapes_m (l : List Nod) (a : Shp) (m : Nat) (okl : ∀ n ∈ l, n.Ok) (wl : ∀ n ∈ l, n.w.length ≤ 100000 ∧ n.b.length ≤ 100000) (i : 0 < elems a.h a.x a.c) (f8 : l.length ≤ 8) (hm : m < l.length) (hf : errL nextE l a m ≠ 0) (h : ∀ k, k < m → errL nextE l a k = 0) : VC Try.prog 82 ([.sl 19 (l.map nodC), shp a]) (.tup [nilv, i64 m, i64 (errL nextE l a m)]) := by
  have q := Shp.Rt.ok i
  have oz0 := @sRight_v (a) q
  have oz6 := @shapes_ln (l) (a) (m) okl wl q f8 hm hf h
  exact VC.run (fn := Try.f82) (W := [.r [] [], .r [] [.callr (rO oz0)], .br false, .r [] [], .br false, .r [] [], .br false, .r [] [], .r [] [], .code [.any (rg [(1, 1), (3, 4), (12, 14)]), .drop [3], .ren 25 900, .weak 27 (i64 (↑l.length : Int)), .weak 28 (i64 (↑0 : Int)), .sort] (Exit.ret) (zO oz6)]) Try.func82 (by kernel_rfl) (.c oz0 <| .c (show (!decide (0 < elems a.h a.x a.c)) = false by (simp; omega)) <| .c (show ((↑(List.map nodC l).length : Int) == 0) = false by (simp only [decide_eq_true_eq, decide_eq_false_iff_not, beq_iff_eq, bne_iff_ne, ne_eq, beq_eq_false_iff_ne, bne_eq_false_iff_eq, Bool.not_eq_true', Bool.not_eq_false', Bool.not_eq_eq_eq_not, Bool.not_true, Bool.not_false, Classical.not_not, Int.not_lt, Int.not_le, Bool.and_eq_true, Bool.and_eq_false_iff, Bool.or_eq_true, Bool.or_eq_false_iff, Bool.and_true, Bool.true_and, Bool.and_false, Bool.false_and, Bool.or_false, Bool.false_or, eqNums, List.length_map, List.length_append, List.length_cons, List.length_nil, List.length_set, List.length_replicate, List.length_take, List.length_drop, List.length_range, Int.toNat_natCast, Nat.zero_add, List.map_eq_nil_iff]; (first | done | with_reducible assumption | omega | contradiction))) <| .c (show decide ((↑(List.map nodC l).length : Int) > 8) = false by (simp; omega)) <| .c (Weak.int (k := .i64) (show (((↑(List.map nodC l).length : Int)) : Int) = ((↑l.length : Int)) from (by (simp; done)))) <| .c (Weak.int (k := .i64) (show ((0) : Int) = ((↑0 : Int)) from (by omega))) <| .c oz6 <| .n)
theorem shapes_n (l : List Nod) (a : Shp) (okl : ∀ n ∈ l, n.Ok) (wl : ∀ n ∈ l, n.w.length ≤ 100000 ∧ n.b.length ≤ 100000) (i : a.Ok) (hl : l.length ≤ 1000) (h : ¬ SOK l a) : VC Try.prog 82 [.sl 19 (l.map nodC), shp a] (.tup [nilv, i64 (shapesE l a).1, i64 (shapesE l a).2]) := by
  rcases SOK.cases l a with q | q | q | q | ⟨i', e, f, m, h1, h2, h3⟩
  · exact absurd q h
  · exact shapes_a l a i hl (.inl q)
  · exact shapes_a l a i hl (.inr (.inl q))
  · exact shapes_a l a i hl (.inr (.inr q))
  · rw [shapesE_at i' e f h1 h2 h3]; exact shapes_m l a m okl wl i' f h1 h2 h3
end Go.Proofs.Ytdmomnaoegkpiaa

