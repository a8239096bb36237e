/- Which nodes are gone through. No condition. -/
import Derived.Test.YtgecmooedhnenaaGs
namespace Go.Proofs.Ytgecmooedhnenaa
open Go.RowKit
set_option linter.unusedSimpArgs false
set_option linter.unusedVariables false
set_option linter.unnecessarySimpa false

def smallB (n : Nod) : Bool := decide (n.w.length ≤ 1000) && decide (n.b.length ≤ 100)
def fewB (l : List Nod) (d : Nat) : Bool := decide (l.length ≤ 12) && decide (d ≤ 300) && l.all smallB
noncomputable def few_ly_I (l : List Nod) (k : Nat) : VS := stt 37 [(0, .sl 19 (l.map nodC)), (5, i64 k)] []
noncomputable def few_ly_Z (l : List Nod) : VS := few_ly_I l (l.length)
set_option maxRecDepth 100000 in
set_option maxHeartbeats 2000000 in
theorem few_ly_s (l : List Nod) (hl : l.length ≤ 12) (h : ∀ k, k < l.length → smallB (l.getD k default) = true) (k : Nat) (hk : k < l.length) : VT Try.prog (fnC Try.f13 [1, 1, 0, 1, 0, 0]) (few_ly_I l k) .normal (few_ly_I l (k + 1)) := by
  have q := h k hk
  simp only [smallB, Bool.and_eq_true, decide_eq_true_eq] at q
  obtain ⟨q1, q2⟩ := q
  have oz1 := (show 0 ≤ (↑k : Int) by omega)
  have oz2 := (map_at (nodC) (default) (l := l) (i := k) hk)
  exact VT.run (W := [.r [] [], .br true, .r [] [.row (sO oz2), .op false, .op false, .op false, .row (sO oz2), .op false, .op false, .op false, .op false, .sel 1], .br false, .r [] [.n ((↑k : Int) + 1)]]) (G := [.any (rg [(15, 14), (36, 1)]), .weak 5 (i64 (↑(k + 1) : Int)), .sort]) (by kernel_rfl) (.c (show decide ((↑k : Int) < (↑(List.map nodC l).length : Int)) = true by (simp; omega)) <| .c oz1 <| .c oz2 <| .c oz1 <| .c oz2 <| .c (show (decide ((↑(List.map (row1 IntKind.i8) (l.getD k default).w).length : Int) > 1000) || decide ((↑(List.map (row1 IntKind.i32) (l.getD k default).b).length : Int) > 100)) = false by (simp at *; omega)) <| .c (IntWalk.i64_in ((↑k : Int) + 1) (by omega)) <| .c (Weak.int (k := .i64) (show (((↑k : Int) + 1) : Int) = ((↑(k + 1) : Int)) from (by omega))) <| .n)
set_option maxRecDepth 100000 in
set_option maxHeartbeats 2000000 in
theorem few_ly_e (l : List Nod) (hl : l.length ≤ 12) (h : ∀ k, k < l.length → smallB (l.getD k default) = true) : VT Try.prog (fnC Try.f13 [1, 1, 0, 1, 0, 0]) (few_ly_I l (l.length)) (.exit 0) (few_ly_Z l) := by
  exact VT.run (W := [.r [] [], .br false]) (G := [.any (rg [(15, 4)]), .sort]) (by kernel_rfl) (.c (show decide ((↑l.length : Int) < (↑(List.map nodC l).length : Int)) = false by (simp; done)) <| .n)
theorem few_ly (l : List Nod) (hl : l.length ≤ 12) (h : ∀ k, k < l.length → smallB (l.getD k default) = true) : VT Try.prog (fnC Try.f13 [1, 1, 0, 1, 0]) (few_ly_I l 0) (.exit 0) (few_ly_Z l) :=
  VT.loop (fun k => few_ly_I l k) (l.length) (fun k hk => few_ly_s l hl h k hk) (few_ly_e l hl h) (by intro h; cases h)

noncomputable def few_ln_I (l : List Nod) (m : Nat) (k : Nat) : VS := stt 37 [(0, .sl 19 (l.map nodC)), (5, i64 k)] []
noncomputable def few_ln_Z (l : List Nod) (m : Nat) : VS := stt 37 [(4, bv false)] []
set_option maxRecDepth 100000 in
set_option maxHeartbeats 2000000 in
theorem few_ln_s (l : List Nod) (m : Nat) (hl : l.length ≤ 12) (hm : m < l.length) (hf : smallB (l.getD m default) = false) (h : ∀ k, k < m → smallB (l.getD k default) = true) (k : Nat) (hk : k < m) : VT Try.prog (fnC Try.f13 [1, 1, 0, 1, 0, 0]) (few_ln_I l m k) .normal (few_ln_I l m (k + 1)) := by
  have q := h k hk
  simp only [smallB, Bool.and_eq_true, decide_eq_true_eq] at q
  obtain ⟨q1, q2⟩ := q
  have oz1 := (show 0 ≤ (↑k : Int) by omega)
  have oz2 := (map_at (nodC) (default) (l := l) (i := k) (by omega))
  exact VT.run (W := [.r [] [], .br true, .r [] [.row (sO oz2), .op false, .op false, .op false, .row (sO oz2), .op false, .op false, .op false, .op false, .sel 1], .br false, .r [] [.n ((↑k : Int) + 1)]]) (G := [.any (rg [(15, 14), (36, 1)]), .weak 5 (i64 (↑(k + 1) : Int)), .sort]) (by kernel_rfl) (.c (show decide ((↑k : Int) < (↑(List.map nodC l).length : Int)) = true by (simp; omega)) <| .c oz1 <| .c oz2 <| .c oz1 <| .c oz2 <| .c (show (decide ((↑(List.map (row1 IntKind.i8) (l.getD k default).w).length : Int) > 1000) || decide ((↑(List.map (row1 IntKind.i32) (l.getD k default).b).length : Int) > 100)) = false by (simp at *; omega)) <| .c (IntWalk.i64_in ((↑k : Int) + 1) (by omega)) <| .c (Weak.int (k := .i64) (show (((↑k : Int) + 1) : Int) = ((↑(k + 1) : Int)) from (by omega))) <| .n)
set_option maxRecDepth 100000 in
set_option maxHeartbeats 2000000 in
theorem few_ln_e (l : List Nod) (m : Nat) (hl : l.length ≤ 12) (hm : m < l.length) (hf : smallB (l.getD m default) = false) (h : ∀ k, k < m → smallB (l.getD k default) = true) : VT Try.prog (fnC Try.f13 [1, 1, 0, 1, 0, 0]) (few_ln_I l m (m)) (.ret) (few_ln_Z l m) := by
  simp only [smallB, Bool.and_eq_false_iff, decide_eq_false_iff_not] at hf
  have oz1 := (show 0 ≤ (↑m : Int) by omega)
  have oz2 := (map_at (nodC) (default) (l := l) (i := m) hm)
  exact VT.run (W := [.r [] [], .br true, .r [] [.row (sO oz2), .op false, .op false, .op false, .row (sO oz2), .op false, .op false, .op false, .op false, .sel 1], .br true, .r [] []]) (G := [.any (rg [(0, 1), (5, 1), (15, 4), (21, 8), (36, 1)]), .sort]) (by kernel_rfl) (.c (show decide ((↑m : Int) < (↑(List.map nodC l).length : Int)) = true by (simp; omega)) <| .c oz1 <| .c oz2 <| .c oz1 <| .c oz2 <| .c (show (decide ((↑(List.map (row1 IntKind.i8) (l.getD m default).w).length : Int) > 1000) || decide ((↑(List.map (row1 IntKind.i32) (l.getD m default).b).length : Int) > 100)) = true by (simp at *; omega)) <| .n)
theorem few_ln (l : List Nod) (m : Nat) (hl : l.length ≤ 12) (hm : m < l.length) (hf : smallB (l.getD m default) = false) (h : ∀ k, k < m → smallB (l.getD k default) = true) : VT Try.prog (fnC Try.f13 [1, 1, 0, 1, 0]) (few_ln_I l m 0) (.ret) (few_ln_Z l m) :=
  VT.loop (fun k => few_ln_I l m k) (m) (fun k hk => few_ln_s l m hl hm hf h k hk) (few_ln_e l m hl hm hf h) (by intro h; cases h)

set_option maxRecDepth 100000 in
set_option maxHeartbeats 2000000 in
theorem few_a (l : List Nod) (T : Ten) (h : 12 < l.length ∨ 300 < T.d.length) : VC Try.prog 13 ([.sl 19 (l.map nodC), ten .i8 T]) (bv false) := by
  exact VC.run (fn := Try.f13) (W := [.r [] [], .r [] [.op false, .op false, .op false, .op false, .sel 1], .br true, .r [] []]) Try.func13 (by kernel_rfl) (.c (show (decide ((↑(List.map nodC l).length : Int) > 12) || decide ((↑(List.map (row1 IntKind.i8) T.d).length : Int) > 300)) = true by (simp; omega)) <| .n)

set_option maxRecDepth 100000 in
set_option maxHeartbeats 2000000 in
theorem few_y (l : List Nod) (T : Ten) (hl : l.length ≤ 12) (hd : T.d.length ≤ 300) (h : ∀ k, k < l.length → smallB (l.getD k default) = true) : VC Try.prog 13 ([.sl 19 (l.map nodC), ten .i8 T]) (bv true) := by
  have oz2 := @few_ly (l) hl h
  exact VC.run (fn := Try.f13) (W := [.r [] [], .r [] [.op false, .op false, .op false, .op false, .sel 1], .br false, .r [] [], .code [.any [1, 3, 4, 6, 7, 8, 9, 14], .drop [3], .weak 5 (i64 (↑0 : Int)), .sort] (Exit.exit 0) (zO oz2), .r [] []]) Try.func13 (by kernel_rfl) (.c (show (decide ((↑(List.map nodC l).length : Int) > 12) || decide ((↑(List.map (row1 IntKind.i8) T.d).length : Int) > 300)) = false by (simp; omega)) <| .c (Weak.int (k := .i64) (show ((0) : Int) = ((↑0 : Int)) from (by omega))) <| .c oz2 <| .n)

set_option maxRecDepth 100000 in
set_option maxHeartbeats 2000000 in
theorem few_n (l : List Nod) (T : Ten) (m : Nat) (hl : l.length ≤ 12) (hd : T.d.length ≤ 300) (hm : m < l.length) (hf : smallB (l.getD m default) = false) (h : ∀ k, k < m → smallB (l.getD k default) = true) : VC Try.prog 13 ([.sl 19 (l.map nodC), ten .i8 T]) (bv false) := by
  have oz2 := @few_ln (l) (m) hl hm hf h
  exact VC.run (fn := Try.f13) (W := [.r [] [], .r [] [.op false, .op false, .op false, .op false, .sel 1], .br false, .r [] [], .code [.any [1, 3, 4, 6, 7, 8, 9, 14], .drop [3], .weak 5 (i64 (↑0 : Int)), .sort] (Exit.ret) (zO oz2)]) Try.func13 (by kernel_rfl) (.c (show (decide ((↑(List.map nodC l).length : Int) > 12) || decide ((↑(List.map (row1 IntKind.i8) T.d).length : Int) > 300)) = false by (simp; omega)) <| .c (Weak.int (k := .i64) (show ((0) : Int) = ((↑0 : Int)) from (by omega))) <| .c oz2 <| .n)
theorem few_v (l : List Nod) (T : Ten) : VC Try.prog 13 [.sl 19 (l.map nodC), ten .i8 T] (bv (fewB l T.d.length)) := by
  unfold fewB
  by_cases h1 : l.length ≤ 12
  · by_cases h2 : T.d.length ≤ 300
    · rw [decide_eq_true h1, decide_eq_true h2]
      rcases all_or (fun k => smallB (l.getD k default)) l.length with h | ⟨m, g1, g2, g3⟩
      · rw [all_getD.2 h]; exact few_y l T h1 h2 h
      · have : l.all smallB = false := by
          cases e : l.all smallB with
          | false => rfl
          | true => have := all_getD.1 e m g1; exact absurd (this.symm.trans g2) (by simp)
        rw [this]; exact few_n l T m h1 h2 g1 g2 g3
    · rw [decide_eq_false h2, Bool.and_false, Bool.false_and]; exact few_a l T (.inr (by omega))
  · rw [decide_eq_false h1, Bool.false_and, Bool.false_and]; exact few_a l T (.inl (by omega))
theorem few_0 (l : List Nod) : VC Try.prog 13 [.sl 19 (l.map nodC), .agg [i64 0, i64 0, i64 0, .sl 1 []]] (bv (fewB l 0)) := few_v l ⟨0, 0, 0, []⟩
theorem few_facts {l : List Nod} {d : Nat} (h : fewB l d = true) : l.length ≤ 12 ∧ d ≤ 300 ∧ ∀ n ∈ l, n.w.length ≤ 1000 ∧ n.b.length ≤ 100 := by
  simp only [fewB, Bool.and_eq_true, decide_eq_true_eq, List.all_eq_true, smallB] at h
  exact ⟨h.1.1, h.1.2, fun n hn => h.2 n hn⟩
theorem few_wide {l : List Nod} {d : Nat} (h : fewB l d = true) : ∀ n ∈ l, n.w.length ≤ 100000 ∧ n.b.length ≤ 100000 := fun n hn => by
  have := (few_facts h).2.2 n hn; omega
end Go.Proofs.Ytgecmooedhnenaa

