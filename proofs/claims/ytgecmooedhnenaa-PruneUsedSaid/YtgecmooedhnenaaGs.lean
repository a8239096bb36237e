/- The shapes of a block's values, by the program and by the document. No condition. -/
import Derived.Test.YtgecmooedhnenaaKnL
namespace Go.Proofs.Ytgecmooedhnenaa
open Go.RowKit
set_option linter.unusedSimpArgs false
set_option linter.unusedVariables false
set_option linter.unnecessarySimpa false

instance : Inhabited Nod := ⟨⟨0, 0, 0, 0, 0, 0, 0, 0, 0, [], [], 0, 0, 0, 0, 0, 0, 0, 0⟩⟩
instance : Inhabited Shp := ⟨⟨0, 0, 0⟩⟩
abbrev shpC (s : Shp) : List AV := [i64 s.h, i64 s.x, i64 s.c]
/-- The first place below n where p fails; n, if there is none. -/
def firstBad (p : Nat → Bool) : Nat → Nat
  | 0 => 0
  | n + 1 => if firstBad p n < n then firstBad p n else if p n = true then n + 1 else n
theorem firstBad_all {p : Nat → Bool} : ∀ {n}, (∀ k, k < n → p k = true) → firstBad p n = n
  | 0, _ => rfl
  | n + 1, h => by rw [firstBad, firstBad_all fun k hk => h k (by omega), if_neg (by omega), if_pos (h n (by omega))]
theorem firstBad_at {p : Nat → Bool} {m : Nat} (hp : p m = false) (h : ∀ k, k < m → p k = true) : ∀ {n}, m < n → firstBad p n = m
  | n + 1, hm => by
    by_cases e : m = n
    · subst e; rw [firstBad, firstBad_all h, if_neg (by omega), if_neg (by simp [hp])]
    · rw [firstBad, firstBad_at hp h (show m < n by omega), if_pos (by omega)]
theorem firstBad_le {p : Nat → Bool} : ∀ n, firstBad p n ≤ n
  | 0 => Nat.le_refl _
  | n + 1 => by have := firstBad_le (p := p) n; rw [firstBad]; split <;> (try split) <;> omega
/-- Values, one behind the other, each made of a node and of those ahead. -/
def growL {α : Type} (f : Nod → List α → α × Int) (l : List Nod) (x : α) : Nat → List α
  | 0 => [x]
  | k + 1 => growL f l x k ++ [(f (l.getD k default) (growL f l x k)).1]
/-- What is wrong with the value k. -/
def errL {α : Type} (f : Nod → List α → α × Int) (l : List Nod) (x : α) (k : Nat) : Int := (f (l.getD k default) (growL f l x k)).2
theorem growL_len {α : Type} (f : Nod → List α → α × Int) (l : List Nod) (x : α) : ∀ k, (growL f l x k).length = k + 1
  | 0 => rfl
  | k + 1 => by rw [growL, List.length_append, growL_len f l x k]; rfl
theorem growL_all {α : Type} {f : Nod → List α → α × Int} {l : List Nod} {x : α} {p : α → Prop} (h0 : p x) {n : Nat} (h : ∀ k, k < n → (∀ y ∈ growL f l x k, p y) → p (f (l.getD k default) (growL f l x k)).1) : ∀ k, k ≤ n → ∀ y ∈ growL f l x k, p y
  | 0, _ => by intro y hy; simp only [growL, List.mem_singleton] at hy; subst hy; exact h0
  | k + 1, hk => by
    have ih := growL_all h0 h k (by omega)
    intro y hy
    rw [growL, List.mem_append, List.mem_singleton] at hy
    rcases hy with hy | rfl
    · exact ih y hy
    · exact h k (by omega) ih
theorem getD_in {α : Type} [Inhabited α] {l : List α} {p : α → Prop} (h : ∀ y ∈ l, p y) {i : Nat} (hi : i < l.length) : p (l.getD i default) := by
  rw [List.getD_eq_getElem?_getD, List.getElem?_eq_getElem hi]; exact h _ (List.getElem_mem hi)
def takesL (n : Nod) : List Int := if n.kd = 6 then [n.na, n.nb] else [n.na]
def secN (n : Nod) : Int := if n.kd = 6 then n.nb else n.na
def thereB (n : Nod) (m : Int) : Bool := decide (0 ≤ n.na) && decide (n.na < m) && decide (0 ≤ secN n) && decide (secN n < m)
set_option maxRecDepth 100000 in
set_option maxHeartbeats 2000000 in
theorem takes_v (n : Nod)  : VC Try.prog 223 ([nod n]) (ints .i64 (takesL n)) := by
  rcases Bool.eq_false_or_eq_true (n.kd == 6) with hc0 | hc0
  · have gc0 : n.kd = 6 := bet hc0
    exact (VC.run (fn := Try.f223) (W := [.r [] [], .r [] [], .br true, .r [] []]) (r := AV.sl 1 [[i64 n.na], [i64 n.nb]]) Try.func223 (by kernel_rfl) (.c hc0 <| .n)).weak (WeakL.refl _) (Weak.rows (rows_to (row1 IntKind.i64) (r := [[i64 n.na], [i64 n.nb]]) (l := [n.na, n.nb]) (m := takesL n) (by first | (simp only [List.map_append, List.map_cons, List.map_nil, List.map_set, List.map_replicate, List.map_take, List.map_drop]; done) | rfl | (simp only [List.map_append, List.map_cons, List.map_nil, List.map_set, List.map_replicate, List.map_take, List.map_drop]; rfl)) (show ([n.na, n.nb]) = (takesL n) from (by (unfold takesL; rw [if_pos (by simp_all)])))))
  · have gc0 : ¬n.kd = 6 := bef hc0
    exact (VC.run (fn := Try.f223) (W := [.r [] [], .r [] [], .br false, .r [] []]) (r := AV.sl 1 [[i64 n.na]]) Try.func223 (by kernel_rfl) (.c hc0 <| .n)).weak (WeakL.refl _) (Weak.rows (rows_to (row1 IntKind.i64) (r := [[i64 n.na]]) (l := [n.na]) (m := takesL n) (by first | (simp only [List.map_append, List.map_cons, List.map_nil, List.map_set, List.map_replicate, List.map_take, List.map_drop]; done) | rfl | (simp only [List.map_append, List.map_cons, List.map_nil, List.map_set, List.map_replicate, List.map_take, List.map_drop]; rfl)) (show ([n.na]) = (takesL n) from (by (unfold takesL; rw [if_neg (by simp_all)])))))
theorem takes_len (n : Nod) : 1 ≤ (takesL n).length ∧ (takesL n).length ≤ 2 := by unfold takesL; split <;> simp
theorem takes_last (n : Nod) {i : Nat} (hi : i = (takesL n).length - 1) : (takesL n).getD i 0 = secN n := by subst hi; unfold takesL secN; split <;> rfl
theorem takes_there (n : Nod) (m : Int) : (∀ k, k < (takesL n).length → decide (0 ≤ (takesL n).getD k 0 ∧ (takesL n).getD k 0 < m) = true) ↔ thereB n m = true := by
  unfold takesL thereB secN
  split
  · simp only [List.length_cons, List.length_nil, Bool.and_eq_true, decide_eq_true_eq]
    constructor
    · intro h
      have h0 := h 0 (by omega); have h1 := h 1 (by omega)
      simp only [List.getD_cons_zero, List.getD_cons_succ] at h0 h1
      omega
    · intro h k hk
      match k, hk with
      | 0, _ => simp only [List.getD_cons_zero]; omega
      | 1, _ => simp only [List.getD_cons_zero, List.getD_cons_succ]; omega
      | k + 2, hk => omega
  · simp only [List.length_cons, List.length_nil, Bool.and_eq_true, decide_eq_true_eq]
    constructor
    · intro h
      have h0 := h 0 (by omega)
      simp only [List.getD_cons_zero] at h0
      omega
    · intro h k hk
      have : k = 0 := by omega
      subst this
      simp only [List.getD_cons_zero]; omega
noncomputable def there_ly_I (l : List Int) (m : Int) (k : Nat) : VS := stt 22 [(1, i64 m), (8, ints .i64 l), (9, i64 l.length), (10, i64 k)] []
noncomputable def there_ly_Z (l : List Int) (m : Int) : VS := there_ly_I l m (l.length)
set_option maxRecDepth 100000 in
set_option maxHeartbeats 2000000 in
theorem there_ly_s (l : List Int) (m : Int) (hl : l.length ≤ 1000) (h : ∀ k, k < l.length → 0 ≤ l.getD k 0 ∧ l.getD k 0 < m) (k : Nat) (hk : k < l.length) : VT Try.prog (fnC Try.f202 [1, 0, 1, 0, 0]) (there_ly_I l m k) .normal (there_ly_I l m (k + 1)) := by
  have q := h k hk
  have oz3 := (decide_eq_false (p := (l.getD k 0 < 0)) (by omega))
  exact VT.run (W := [.r [] [], .br true, .r [] [.row [i64 (l.getD k 0)]], .r [] [.br true, .br true, .br true, .br false], .br false, .r [] [.n ((↑k : Int) + 1)]]) (G := [.any (rg [(6, 1), (11, 11)]), .weak 10 (i64 (↑(k + 1) : Int)), .sort]) (by kernel_rfl) (.c (decide_eq_true (p := ((↑k : Int) < (↑l.length : Int))) (by omega)) <| .c (show 0 ≤ (↑k : Int) by omega) <| .c (map_at (row1 IntKind.i64) (0) (l := l) (i := k) hk) <| .c oz3 <| .c oz3 <| .c oz3 <| .c oz3 <| .c (decide_eq_false (p := (l.getD k 0 ≥ m)) (by omega)) <| .c (IntWalk.i64_in ((↑k : Int) + 1) (by omega)) <| .c (Weak.int (k := .i64) (show (((↑k : Int) + 1) : Int) = ((↑(k + 1) : Int)) from (by omega))) <| .n)
set_option maxRecDepth 100000 in
set_option maxHeartbeats 2000000 in
theorem there_ly_e (l : List Int) (m : Int) (hl : l.length ≤ 1000) (h : ∀ k, k < l.length → 0 ≤ l.getD k 0 ∧ l.getD k 0 < m) : VT Try.prog (fnC Try.f202 [1, 0, 1, 0, 0]) (there_ly_I l m (l.length)) (.exit 0) (there_ly_Z l m) := by
  exact VT.run (W := [.r [] [], .br false]) (G := [.any [11], .sort]) (by kernel_rfl) (.c (decide_eq_false (p := ((↑l.length : Int) < (↑l.length : Int))) (by omega)) <| .n)
theorem there_ly (l : List Int) (m : Int) (hl : l.length ≤ 1000) (h : ∀ k, k < l.length → 0 ≤ l.getD k 0 ∧ l.getD k 0 < m) : VT Try.prog (fnC Try.f202 [1, 0, 1, 0]) (there_ly_I l m 0) (.exit 0) (there_ly_Z l m) :=
  VT.loop (fun k => there_ly_I l m k) (l.length) (fun k hk => there_ly_s l m hl h k hk) (there_ly_e l m hl h) (by intro h; cases h)

noncomputable def there_ln_I (l : List Int) (m : Int) (j : Nat) (k : Nat) : VS := stt 22 [(1, i64 m), (8, ints .i64 l), (9, i64 l.length), (10, i64 k)] []
noncomputable def there_ln_Z (l : List Int) (m : Int) (j : Nat) : VS := stt 22 [(4, bv false)] []
set_option maxRecDepth 100000 in
set_option maxHeartbeats 2000000 in
theorem there_ln_s (l : List Int) (m : Int) (j : Nat) (hl : l.length ≤ 1000) (hj : j < l.length) (hf : ¬ (0 ≤ l.getD j 0 ∧ l.getD j 0 < m)) (h : ∀ k, k < j → 0 ≤ l.getD k 0 ∧ l.getD k 0 < m) (k : Nat) (hk : k < j) : VT Try.prog (fnC Try.f202 [1, 0, 1, 0, 0]) (there_ln_I l m j k) .normal (there_ln_I l m j (k + 1)) := by
  have q := h k hk
  have oz3 := (decide_eq_false (p := (l.getD k 0 < 0)) (by omega))
  exact VT.run (W := [.r [] [], .br true, .r [] [.row [i64 (l.getD k 0)]], .r [] [.br true, .br true, .br true, .br false], .br false, .r [] [.n ((↑k : Int) + 1)]]) (G := [.any (rg [(6, 1), (11, 11)]), .weak 10 (i64 (↑(k + 1) : Int)), .sort]) (by kernel_rfl) (.c (decide_eq_true (p := ((↑k : Int) < (↑l.length : Int))) (by omega)) <| .c (show 0 ≤ (↑k : Int) by omega) <| .c (map_at (row1 IntKind.i64) (0) (l := l) (i := k) (by omega)) <| .c oz3 <| .c oz3 <| .c oz3 <| .c oz3 <| .c (decide_eq_false (p := (l.getD k 0 ≥ m)) (by omega)) <| .c (IntWalk.i64_in ((↑k : Int) + 1) (by omega)) <| .c (Weak.int (k := .i64) (show (((↑k : Int) + 1) : Int) = ((↑(k + 1) : Int)) from (by omega))) <| .n)
set_option maxRecDepth 100000 in
set_option maxHeartbeats 2000000 in
theorem there_ln_e (l : List Int) (m : Int) (j : Nat) (hl : l.length ≤ 1000) (hj : j < l.length) (hf : ¬ (0 ≤ l.getD j 0 ∧ l.getD j 0 < m)) (h : ∀ k, k < j → 0 ≤ l.getD k 0 ∧ l.getD k 0 < m) : VT Try.prog (fnC Try.f202 [1, 0, 1, 0, 0]) (there_ln_I l m j (j)) (.ret) (there_ln_Z l m j) := by
  exact VT.run (W := [.r [] [], .br true, .r [] [.row [i64 (l.getD j 0)]], .r [] [.op false, .op false, .op false, .sel 1], .br true, .r [] []]) (G := [.any (rg [(1, 1), (6, 1), (8, 9), (20, 1)]), .sort]) (by kernel_rfl) (.c (decide_eq_true (p := ((↑j : Int) < (↑l.length : Int))) (by omega)) <| .c (show 0 ≤ (↑j : Int) by omega) <| .c (map_at (row1 IntKind.i64) (0) (l := l) (i := j) hj) <| .c (show (decide (l.getD j 0 < 0) || decide (l.getD j 0 ≥ m)) = true by (simp at *; omega)) <| .n)
theorem there_ln (l : List Int) (m : Int) (j : Nat) (hl : l.length ≤ 1000) (hj : j < l.length) (hf : ¬ (0 ≤ l.getD j 0 ∧ l.getD j 0 < m)) (h : ∀ k, k < j → 0 ≤ l.getD k 0 ∧ l.getD k 0 < m) : VT Try.prog (fnC Try.f202 [1, 0, 1, 0]) (there_ln_I l m j 0) (.ret) (there_ln_Z l m j) :=
  VT.loop (fun k => there_ln_I l m j k) (j) (fun k hk => there_ln_s l m j hl hj hf h k hk) (there_ln_e l m j hl hj hf h) (by intro h; cases h)

set_option maxRecDepth 100000 in
set_option maxHeartbeats 2000000 in
theorem there_y (n : Nod) (m : Int) (h : ∀ k, k < (takesL n).length → 0 ≤ (takesL n).getD k 0 ∧ (takesL n).getD k 0 < m) : VC Try.prog 202 ([nod n, i64 m]) (bv true) := by
  have q := takes_len n
  have oz0 := @takes_v (n)
  have oz1 := (Weak.int (k := .i64) (show (((↑(List.map (row1 IntKind.i64) (takesL n)).length : Int)) : Int) = ((↑(takesL n).length : Int)) from (by (simp; done))))
  have oz3 := @there_ly (takesL n) (m) (by omega) h
  exact VC.run (fn := Try.f202) (W := [.r [] [], .r [] [.callr (rO oz0)], .code [.any [0, 2, 4, 7], .drop [2], .weak 9 (wO oz1), .weak 10 (i64 (↑0 : Int)), .sort] (Exit.exit 0) (zO oz3), .r [] []]) Try.func202 (by kernel_rfl) (.c oz0 <| .c oz1 <| .c (Weak.int (k := .i64) (show ((0) : Int) = ((↑0 : Int)) from (by omega))) <| .c oz3 <| .n)

set_option maxRecDepth 100000 in
set_option maxHeartbeats 2000000 in
theorem there_n (n : Nod) (m : Int) (j : Nat) (hj : j < (takesL n).length) (hf : ¬ (0 ≤ (takesL n).getD j 0 ∧ (takesL n).getD j 0 < m)) (h : ∀ k, k < j → 0 ≤ (takesL n).getD k 0 ∧ (takesL n).getD k 0 < m) : VC Try.prog 202 ([nod n, i64 m]) (bv false) := by
  have q := takes_len n
  have oz0 := @takes_v (n)
  have oz1 := (Weak.int (k := .i64) (show (((↑(List.map (row1 IntKind.i64) (takesL n)).length : Int)) : Int) = ((↑(takesL n).length : Int)) from (by (simp; done))))
  have oz3 := @there_ln (takesL n) (m) (j) (by omega) hj hf h
  exact VC.run (fn := Try.f202) (W := [.r [] [], .r [] [.callr (rO oz0)], .code [.any [0, 2, 4, 7], .drop [2], .weak 9 (wO oz1), .weak 10 (i64 (↑0 : Int)), .sort] (Exit.ret) (zO oz3)]) Try.func202 (by kernel_rfl) (.c oz0 <| .c oz1 <| .c (Weak.int (k := .i64) (show ((0) : Int) = ((↑0 : Int)) from (by omega))) <| .c oz3 <| .n)
theorem there_v (n : Nod) (m : Int) : VC Try.prog 202 [nod n, i64 m] (bv (thereB n m)) := by
  rcases all_or (fun k => decide (0 ≤ (takesL n).getD k 0 ∧ (takesL n).getD k 0 < m)) (takesL n).length with h | ⟨j, h1, h2, h3⟩
  · rw [(takes_there n m).1 h]; exact there_y n m fun k hk => of_decide_eq_true (h k hk)
  · have : thereB n m = false := by
      cases e : thereB n m with
      | false => rfl
      | true => have := (takes_there n m).2 e j h1; rw [h2] at this; cases this
    rw [this]; exact there_n n m j h1 (of_decide_eq_false h2) fun k hk => of_decide_eq_true (h3 k hk)
set_option maxRecDepth 100000 in
set_option maxHeartbeats 2000000 in
theorem gof_v (n : Nod)  : VC Try.prog 204 ([nod n]) (i64 (secN n)) := by
  have q := takes_len n
  have q2 : (List.map (row1 .i64) (takesL n)).length = (takesL n).length := List.length_map _
  have oz0 := @takes_v (n)
  have oz1 := (IntWalk.i64_in ((↑(List.map (row1 IntKind.i64) (takesL n)).length : Int) - 1) (by omega))
  have oz3 := (map_at (row1 IntKind.i64) (0) (l := takesL n) (i := ((↑(List.map (row1 IntKind.i64) (takesL n)).length : Int) - 1).toNat) (by omega))
  exact (VC.run (fn := Try.f204) (W := [.r [] [], .r [] [.callr (rO oz0)], .r [] [.n (nO oz1), .row (sO oz3)]]) (r := i64 ((takesL n).getD ((↑(List.map (row1 IntKind.i64) (takesL n)).length : Int) - 1).toNat 0)) Try.func204 (by kernel_rfl) (.c oz0 <| .c oz1 <| .c (show 0 ≤ (↑(List.map (row1 IntKind.i64) (takesL n)).length : Int) - 1 by omega) <| .c oz3 <| .n)).weak (WeakL.refl _) (Weak.int (show (((takesL n).getD ((↑(List.map (row1 IntKind.i64) (takesL n)).length : Int) - 1).toNat 0) : Int) = (secN n) from (by (exact takes_last n (by omega)))))

set_option maxRecDepth 100000 in
set_option maxHeartbeats 2000000 in
theorem refThere_v (n : Nod) (m : Int)  : VC Try.prog 131 ([nod n, i64 m]) (bv (thereB n m)) := by
  exact (VC.run (fn := Try.f131) (W := [.r [] [], .r [] [.op false, .op false, .op false, .op false, .sel 2, .op false, .op false, .op false, .op false, .op false, .op false, .op false, .op false, .op false, .op false, .op false, .op false, .op false, .sel 2, .op false, .sel 1, .sel 2]]) (r := bv (decide (n.na ≥ 0) && decide (n.na < m) && (n.kd != 6 || decide (n.nb ≥ 0) && decide (n.nb < m)))) Try.func131 (by kernel_rfl) (.n)).weak (WeakL.refl _) (Weak.bool (show ((decide (n.na ≥ 0) && decide (n.na < m) && (n.kd != 6 || decide (n.nb ≥ 0) && decide (n.nb < m))) : Bool) = (thereB n m) from (by (unfold thereB secN; rw [Bool.eq_iff_iff]; by_cases e6 : n.kd = 6 <;> simp [e6] <;> omega))))

set_option maxRecDepth 100000 in
set_option maxHeartbeats 2000000 in
theorem refSecond_v (n : Nod)  : VC Try.prog 73 ([nod n]) (i64 (secN n)) := by
  rcases Bool.eq_false_or_eq_true (n.kd == 6) with hc0 | hc0
  · have gc0 : n.kd = 6 := bet hc0
    exact (VC.run (fn := Try.f73) (W := [.r [] [], .r [] [], .br true, .r [] []]) (r := i64 n.nb) Try.func73 (by kernel_rfl) (.c hc0 <| .n)).weak (WeakL.refl _) (Weak.int (show ((n.nb) : Int) = (secN n) from (by (unfold secN; rw [if_pos (by simp_all)]))))
  · have gc0 : ¬n.kd = 6 := bef hc0
    exact (VC.run (fn := Try.f73) (W := [.r [] [], .r [] [], .br false, .r [] []]) (r := i64 n.na) Try.func73 (by kernel_rfl) (.c hc0 <| .n)).weak (WeakL.refl _) (Weak.int (show ((n.na) : Int) = (secN n) from (by (unfold secN; rw [if_neg (by simp_all)]))))
/-- The shape of the next value, or what is wrong with it. -/
def nextE (n : Nod) (L : List Shp) : Shp × Int := if checkE n ≠ 0 then (⟨0, 0, 0⟩, checkE n) else if thereB n L.length = true then shapeE n (L.getD n.na.toNat default) (L.getD (secN n).toNat default) else (⟨0, 0, 0⟩, 8)
theorem there_iff {n : Nod} {m : Int} : thereB n m = true ↔ 0 ≤ n.na ∧ n.na < m ∧ 0 ≤ secN n ∧ secN n < m := by
  unfold thereB; simp only [Bool.and_eq_true, decide_eq_true_eq]; omega
set_option maxRecDepth 100000 in
set_option maxHeartbeats 2000000 in
theorem next_v (n : Nod) (L : List Shp) (ok : n.Ok) (okL : ∀ s ∈ L, s.Ok) (hL : L.length ≤ 100) (wl : n.w.length ≤ 100000) (bl : n.b.length ≤ 100000) : VC Try.prog 150 ([nod n, .sl 3 (L.map shpC)]) (.tup [shp (nextE n L).1, i64 (nextE n L).2]) := by
  have q1 := @there_iff n L.length
  have q2 := ok.kd
  have q3 := fun (h : n.na.toNat < L.length) => getD_in okL h
  have q4 := fun (h : (secN n).toNat < L.length) => getD_in okL h
  have oz0 := @check_v (n) wl bl q2
  rcases Bool.eq_false_or_eq_true (checkE n != 0) with hc0 | hc0
  · have gc0 : ¬checkE n = 0 := bdt hc0
    exact (VC.run (fn := Try.f150) (W := [.r [] [], .r [] [.callr (rO oz0)], .r [] [], .br true, .r [] []]) (r := AV.tup [AV.agg [i64 0, i64 0, i64 0], i64 (checkE n)]) Try.func150 (by kernel_rfl) (.c oz0 <| .c hc0 <| .n)).weak (WeakL.refl _) (Weak.tup (.cons (Weak.agg (.cons (Weak.int (show ((0) : Int) = ((nextE n L).fst.h) from (by (unfold nextE; rw [if_pos (by simp_all)])))) (.cons (Weak.int (show ((0) : Int) = ((nextE n L).fst.x) from (by (unfold nextE; rw [if_pos (by simp_all)])))) (.cons (Weak.int (show ((0) : Int) = ((nextE n L).fst.c) from (by (unfold nextE; rw [if_pos (by simp_all)])))) .nil)))) (.cons (Weak.int (show ((checkE n) : Int) = ((nextE n L).snd) from (by (unfold nextE; rw [if_pos (by simp_all)])))) .nil)))
  · have gc0 : checkE n = 0 := bdf hc0
    have oz2 := @there_v (n) ((↑(List.map shpC L).length : Int))
    rcases Bool.eq_false_or_eq_true (!thereB n (↑(List.map shpC L).length : Int)) with hc1 | hc1
    · have gc1 : thereB n (↑(List.map shpC L).length : Int) = false := by first | exact hc1 | exact of_decide_eq_true hc1 | exact of_decide_eq_false hc1 | simpa [eqNums] using hc1 | (simp [eqNums] at hc1 ⊢; first | done | assumption | omega)
      exact (VC.run (fn := Try.f150) (W := [.r [] [], .r [] [.callr (rO oz0)], .r [] [], .br false, .r [] [.callr (rO oz2)], .br true, .r [] []]) (r := AV.tup [AV.agg [i64 0, i64 0, i64 0], i64 8]) Try.func150 (by kernel_rfl) (.c oz0 <| .c hc0 <| .c oz2 <| .c hc1 <| .n)).weak (WeakL.refl _) (Weak.tup (.cons (Weak.agg (.cons (Weak.int (show ((0) : Int) = ((nextE n L).fst.h) from (by (unfold nextE; rw [if_neg (by simp_all), if_neg (by simp_all)])))) (.cons (Weak.int (show ((0) : Int) = ((nextE n L).fst.x) from (by (unfold nextE; rw [if_neg (by simp_all), if_neg (by simp_all)])))) (.cons (Weak.int (show ((0) : Int) = ((nextE n L).fst.c) from (by (unfold nextE; rw [if_neg (by simp_all), if_neg (by simp_all)])))) .nil)))) (.cons (Weak.int (show ((8) : Int) = ((nextE n L).snd) from (by (unfold nextE; rw [if_neg (by simp_all), if_neg (by simp_all)])))) .nil)))
    · have gc1 : thereB n (↑(List.map shpC L).length : Int) = true := by first | exact hc1 | exact of_decide_eq_true hc1 | exact of_decide_eq_false hc1 | simpa [eqNums] using hc1 | (simp [eqNums] at hc1 ⊢; first | done | assumption | omega)
      have oz5 := (map_at (shpC) (default) (l := L) (i := n.na.toNat) (by (have := q1.1 (by simp_all); omega)))
      have oz6 := @gof_v (n)
      have oz8 := (map_at (shpC) (default) (l := L) (i := (secN n).toNat) (by (have := q1.1 (by simp_all); omega)))
      have oz9 := @kshape_v (n) (L.getD n.na.toNat default) (L.getD (secN n).toNat default) (by (exact q3 (by have := q1.1 (by simp_all); omega))) (by (exact q4 (by have := q1.1 (by simp_all); omega))) ok
      exact (VC.run (fn := Try.f150) (W := [.r [] [], .r [] [.callr (rO oz0)], .r [] [], .br false, .r [] [.callr (rO oz2)], .br false, .r [] [.row (sO oz5), .callr (rO oz6), .row (sO oz8), .callr (rO oz9)]]) (r := AV.tup [AV.agg [i64 (shapeE n (L.getD n.na.toNat default) (L.getD (secN n).toNat default)).fst.h, i64 (shapeE n (L.getD n.na.toNat default) (L.getD (secN n).toNat default)).fst.x, i64 (shapeE n (L.getD n.na.toNat default) (L.getD (secN n).toNat default)).fst.c], i64 (shapeE n (L.getD n.na.toNat default) (L.getD (secN n).toNat default)).snd]) Try.func150 (by kernel_rfl) (.c oz0 <| .c hc0 <| .c oz2 <| .c hc1 <| .c (show 0 ≤ n.na by (have := q1.1 (by simp_all); omega)) <| .c oz5 <| .c oz6 <| .c (show 0 ≤ secN n by (have := q1.1 (by simp_all); omega)) <| .c oz8 <| .c oz9 <| .n)).weak (WeakL.refl _) (Weak.tup (.cons (Weak.agg (.cons (Weak.int (show (((shapeE n (L.getD n.na.toNat default) (L.getD (secN n).toNat default)).fst.h) : Int) = ((nextE n L).fst.h) from (by (unfold nextE; rw [if_neg (by simp_all), if_pos (by simp_all)])))) (.cons (Weak.int (show (((shapeE n (L.getD n.na.toNat default) (L.getD (secN n).toNat default)).fst.x) : Int) = ((nextE n L).fst.x) from (by (unfold nextE; rw [if_neg (by simp_all), if_pos (by simp_all)])))) (.cons (Weak.int (show (((shapeE n (L.getD n.na.toNat default) (L.getD (secN n).toNat default)).fst.c) : Int) = ((nextE n L).fst.c) from (by (unfold nextE; rw [if_neg (by simp_all), if_pos (by simp_all)])))) .nil)))) (.cons (Weak.int (show (((shapeE n (L.getD n.na.toNat default) (L.getD (secN n).toNat default)).snd) : Int) = ((nextE n L).snd) from (by (unfold nextE; rw [if_neg (by simp_all), if_pos (by simp_all)])))) .nil)))
end Go.Proofs.Ytgecmooedhnenaa

