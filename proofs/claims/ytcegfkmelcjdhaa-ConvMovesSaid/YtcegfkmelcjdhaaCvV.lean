/- A tensor without its first rows makes the same sums, one row farther on: the law. No condition. -/
import Derived.Test.YtcegfkmelcjdhaaCvU
namespace Go.Proofs.Ytcegfkmelcjdhaa
open Go.RowKit
set_option linter.unusedSimpArgs false
set_option linter.unusedVariables false
set_option linter.unnecessarySimpa false

noncomputable def mv_i_I (n : Nod) (A B : Ten) (h : Nat) (k : Nat) : VS := stt 159 [(3, .ptr 3 0 0), (5, .ptr 5 0 0), (11, .ptr 11 0 0), (13, i64 (A.x * A.c)), (14, i64 h), (15, i64 k)] [(3, .var (nodC n)), (5, .var [i64 A.h, i64 A.x, i64 A.c, ints .i32 A.d]), (11, .var [i64 B.h, i64 B.x, i64 B.c, ints .i32 B.d])]
noncomputable def mv_i_Z (n : Nod) (A B : Ten) (h : Nat) : VS := mv_i_I n A B h (if n.np ≤ (h : Int) * n.ns then (A.x * A.c).toNat else 0)
set_option maxRecDepth 100000 in
set_option maxHeartbeats 2000000 in
theorem mv_i_s (n : Nod) (A B : Ten) (h : Nat) (h1 : h ≤ 16) (s1 : 1 ≤ n.ns) (s4 : n.ns ≤ 4) (L0 : 0 ≤ A.x * A.c) (L1 : A.x * A.c ≤ 1024) (q0 : 0 ≤ (h : Int) * (A.x * A.c)) (lb : ((h : Int) + 1) * (A.x * A.c) ≤ B.d.length) (la : ((h : Int) + 2) * (A.x * A.c) ≤ A.d.length) (la2 : A.d.length ≤ 1024) (lb2 : B.d.length ≤ 1024) (hb : ∀ i : Nat, (i : Int) < A.x * A.c → n.np ≤ (h : Int) * n.ns → B.d.getD ((h : Int) * (A.x * A.c) + (i : Int)).toNat 0 = A.d.getD (((h : Int) + 1) * (A.x * A.c) + (i : Int)).toNat 0) (k : Nat) (hk : k < if n.np ≤ (h : Int) * n.ns then (A.x * A.c).toNat else 0) : VT Try.prog (fnC Try.f6 [1, 1, 1, 1, 1, 1, 1, 1, 1, 0, 1, 0, 0, 1, 0, 0, 1, 0, 0]) (mv_i_I n A B h k) .normal (mv_i_I n A B h (k + 1)) := by
  obtain ⟨hk1, hk2⟩ := ifn_lt hk
  have g1 := hb k (by omega) hk1
  have g2 := mul_bd (a := (h : Int)) (A := 16) (b := n.ns) (B := 4) (by omega) (by omega) (by omega) (by omega)
  have e1 := Int.add_mul (h : Int) 1 (A.x * A.c)
  have e2 := Int.add_mul (h : Int) 2 (A.x * A.c)
  have oz0 := (decide_eq_true (p := ((↑k : Int) < A.x * A.c)) (by omega))
  have oz10 := (IntWalk.i64_in ((↑h : Int) + 1) (by omega))
  have oz11 := (IntWalk.i64_in (((↑h : Int) + 1) * (A.x * A.c)) (by omega))
  have oz12 := (show decide ((↑(List.map (row1 IntKind.i32) B.d).length : Int) < ((↑h : Int) + 1) * (A.x * A.c)) = false by (simp; omega))
  have oz23 := (show decide ((↑(List.map (row1 IntKind.i32) A.d).length : Int) < ((↑h : Int) + 2) * (A.x * A.c)) = false by (simp; omega))
  have oz31 := (IntWalk.i64_in ((↑h : Int) * (A.x * A.c) + (↑k : Int)) (by omega))
  have oz34 := (map_at (row1 IntKind.i32) (0) (l := B.d) (i := ((↑h : Int) * (A.x * A.c) + (↑k : Int)).toNat) (by omega))
  have oz46 := (IntWalk.i64_in (((↑h : Int) + 1) * (A.x * A.c) + (↑k : Int)) (by omega))
  have oz49 := (map_at (row1 IntKind.i32) (0) (l := A.d) (i := (((↑h : Int) + 1) * (A.x * A.c) + (↑k : Int)).toNat) (by omega))
  exact VT.run (W := [.r [] [.br true, .br true, .br true, .br true, .n ((↑h : Int) * n.ns), .br true, .br true, .br true, .br true], .br true, .r [] [.n (nO oz10), .n (nO oz11), .br true, .br true, .br true, .br true, .br true, .n ((↑h : Int) + 2), .br true, .br true, .n (((↑h : Int) + 2) * (A.x * A.c)), .br true, .br false, .br true, .br true, .br true, .br true, .br true, .n ((↑h : Int) * (A.x * A.c)), .br true, .br true, .n (nO oz31), .br true, .row (sO oz34), .br true, .br true, .br true, .br true, .br true, .n (nO oz10), .br true, .br true, .n (nO oz11), .br true, .br true, .n (nO oz46), .br true, .row (sO oz49), .br true, .br true, .br false], .br false, .r [] [.n ((↑k : Int) + 1)]]) (G := [.any (rg [(104, 54)]), .weak 15 (i64 (↑(k + 1) : Int)), .sort]) (by kernel_rfl) (.c oz0 <| .c oz0 <| .c oz0 <| .c oz0 <| .c (IntWalk.i64_in ((↑h : Int) * n.ns) (by omega)) <| .c oz0 <| .c oz0 <| .c oz0 <| .c oz0 <| .c (decide_eq_true (p := ((↑h : Int) * n.ns ≥ n.np)) (by omega)) <| .c oz10 <| .c oz11 <| .c oz12 <| .c oz12 <| .c oz12 <| .c oz12 <| .c oz12 <| .c (IntWalk.i64_in ((↑h : Int) + 2) (by omega)) <| .c oz12 <| .c oz12 <| .c (IntWalk.i64_in (((↑h : Int) + 2) * (A.x * A.c)) (by omega)) <| .c oz12 <| .c oz12 <| .c oz23 <| .c oz23 <| .c oz23 <| .c oz23 <| .c oz23 <| .c (IntWalk.i64_in ((↑h : Int) * (A.x * A.c)) (by omega)) <| .c oz23 <| .c oz23 <| .c oz31 <| .c oz23 <| .c (show 0 ≤ (↑h : Int) * (A.x * A.c) + (↑k : Int) by omega) <| .c oz34 <| .c oz23 <| .c oz23 <| .c oz23 <| .c oz23 <| .c oz23 <| .c oz10 <| .c oz23 <| .c oz23 <| .c oz11 <| .c oz23 <| .c oz23 <| .c oz46 <| .c oz23 <| .c (show 0 ≤ ((↑h : Int) + 1) * (A.x * A.c) + (↑k : Int) by omega) <| .c oz49 <| .c oz23 <| .c oz23 <| .c oz23 <| .c (show (B.d.getD ((↑h : Int) * (A.x * A.c) + (↑k : Int)).toNat 0 != A.d.getD (((↑h : Int) + 1) * (A.x * A.c) + (↑k : Int)).toNat 0) = false by (simp at *; omega)) <| .c (IntWalk.i64_in ((↑k : Int) + 1) (by omega)) <| .c (Weak.int (k := .i64) (show (((↑k : Int) + 1) : Int) = ((↑(k + 1) : Int)) from (by omega))) <| .n)
set_option maxRecDepth 100000 in
set_option maxHeartbeats 2000000 in
theorem mv_i_e (n : Nod) (A B : Ten) (h : Nat) (h1 : h ≤ 16) (s1 : 1 ≤ n.ns) (s4 : n.ns ≤ 4) (L0 : 0 ≤ A.x * A.c) (L1 : A.x * A.c ≤ 1024) (q0 : 0 ≤ (h : Int) * (A.x * A.c)) (lb : ((h : Int) + 1) * (A.x * A.c) ≤ B.d.length) (la : ((h : Int) + 2) * (A.x * A.c) ≤ A.d.length) (la2 : A.d.length ≤ 1024) (lb2 : B.d.length ≤ 1024) (hb : ∀ i : Nat, (i : Int) < A.x * A.c → n.np ≤ (h : Int) * n.ns → B.d.getD ((h : Int) * (A.x * A.c) + (i : Int)).toNat 0 = A.d.getD (((h : Int) + 1) * (A.x * A.c) + (i : Int)).toNat 0) : VT Try.prog (fnC Try.f6 [1, 1, 1, 1, 1, 1, 1, 1, 1, 0, 1, 0, 0, 1, 0, 0, 1, 0, 0]) (mv_i_I n A B h (if n.np ≤ (h : Int) * n.ns then (A.x * A.c).toNat else 0)) (.exit 2) (mv_i_Z n A B h) := by
  have hin : n.np ≤ (h : Int) * n.ns → (if n.np ≤ (h : Int) * n.ns then (A.x * A.c).toNat else 0) = (A.x * A.c).toNat := fun h => if_pos h
  have g2 := mul_bd (a := (h : Int)) (A := 16) (b := n.ns) (B := 4) (by omega) (by omega) (by omega) (by omega)
  rcases Bool.eq_false_or_eq_true (decide ((↑(if n.np ≤ (↑h : Int) * n.ns then (A.x * A.c).toNat else 0) : Int) < A.x * A.c)) with hc0 | hc0
  · have gc0 := of_decide_eq_true hc0
    exact VT.run (W := [.r [] [.br true, .br true, .br true, .br true, .n ((↑h : Int) * n.ns), .br true, .br true, .br true, .br true], .br false]) (G := [.any (rg [(104, 12)]), .sort]) (by kernel_rfl) (.c hc0 <| .c hc0 <| .c hc0 <| .c hc0 <| .c (IntWalk.i64_in ((↑h : Int) * n.ns) (by omega)) <| .c hc0 <| .c hc0 <| .c hc0 <| .c hc0 <| .c (decide_eq_false (p := ((↑h : Int) * n.ns ≥ n.np)) (by omega)) <| .n)
  · have gc0 := of_decide_eq_false hc0
    have oz0 := (show decide ((↑(if n.np ≤ (↑h : Int) * n.ns then (A.x * A.c).toNat else 0) : Int) < A.x * A.c) = !true by (refine decide_eq_false ?_; omega))
    exact VT.run (W := [.r [] [.br false, .br false, .br false, .br false, .br false, .br false, .br false, .br false], .br false]) (G := [.any (rg [(104, 12)]), .sort]) (by kernel_rfl) (.c oz0 <| .c oz0 <| .c oz0 <| .c oz0 <| .c oz0 <| .c oz0 <| .c oz0 <| .c hc0 <| .c (show false = false by with_reducible rfl) <| .n)
theorem mv_i (n : Nod) (A B : Ten) (h : Nat) (h1 : h ≤ 16) (s1 : 1 ≤ n.ns) (s4 : n.ns ≤ 4) (L0 : 0 ≤ A.x * A.c) (L1 : A.x * A.c ≤ 1024) (q0 : 0 ≤ (h : Int) * (A.x * A.c)) (lb : ((h : Int) + 1) * (A.x * A.c) ≤ B.d.length) (la : ((h : Int) + 2) * (A.x * A.c) ≤ A.d.length) (la2 : A.d.length ≤ 1024) (lb2 : B.d.length ≤ 1024) (hb : ∀ i : Nat, (i : Int) < A.x * A.c → n.np ≤ (h : Int) * n.ns → B.d.getD ((h : Int) * (A.x * A.c) + (i : Int)).toNat 0 = A.d.getD (((h : Int) + 1) * (A.x * A.c) + (i : Int)).toNat 0) : VT Try.prog (fnC Try.f6 [1, 1, 1, 1, 1, 1, 1, 1, 1, 0, 1, 0, 0, 1, 0, 0, 1, 0]) (mv_i_I n A B h 0) (.exit 2) (mv_i_Z n A B h) :=
  VT.loop (fun k => mv_i_I n A B h k) (if n.np ≤ (h : Int) * n.ns then (A.x * A.c).toNat else 0) (fun k hk => mv_i_s n A B h h1 s1 s4 L0 L1 q0 lb la la2 lb2 hb k hk) (mv_i_e n A B h h1 s1 s4 L0 L1 q0 lb la la2 lb2 hb) (by intro h; cases h)

noncomputable def mv_h_I (n : Nod) (A B : Ten) (k : Nat) : VS := stt 159 [(3, .ptr 3 0 0), (5, .ptr 5 0 0), (11, .ptr 11 0 0), (13, i64 (A.x * A.c)), (14, i64 k)] [(3, .var (nodC n)), (5, .var [i64 A.h, i64 A.x, i64 A.c, ints .i32 A.d]), (11, .var [i64 B.h, i64 B.x, i64 B.c, ints .i32 B.d])]
noncomputable def mv_h_Z (n : Nod) (A B : Ten) : VS := mv_h_I n A B (B.h.toNat)
set_option maxRecDepth 100000 in
set_option maxHeartbeats 2000000 in
theorem mv_h_s (n : Nod) (A B : Ten) (h1 : B.h ≤ 16) (s1 : 1 ≤ n.ns) (s4 : n.ns ≤ 4) (L0 : 0 ≤ A.x * A.c) (L1 : A.x * A.c ≤ 1024) (lb : (B.d.length : Int) = B.h * (A.x * A.c)) (la : (A.d.length : Int) = (B.h + 1) * (A.x * A.c)) (la2 : A.d.length ≤ 1024) (lb2 : B.d.length ≤ 1024) (hb : ∀ h i : Nat, (h : Int) < B.h → (i : Int) < A.x * A.c → n.np ≤ (h : Int) * n.ns → B.d.getD ((h : Int) * (A.x * A.c) + (i : Int)).toNat 0 = A.d.getD (((h : Int) + 1) * (A.x * A.c) + (i : Int)).toNat 0) (k : Nat) (hk : k < B.h.toNat) : VT Try.prog (fnC Try.f6 [1, 1, 1, 1, 1, 1, 1, 1, 1, 0, 1, 0, 0]) (mv_h_I n A B k) .normal (mv_h_I n A B (k + 1)) := by
  have g1 : 0 ≤ (k : Int) * (A.x * A.c) := Int.mul_nonneg (by omega) L0
  have g2 : ((k : Int) + 1) * (A.x * A.c) ≤ B.d.length := by rw [lb]; exact Int.mul_le_mul_of_nonneg_right (by omega) L0
  have g3 : ((k : Int) + 2) * (A.x * A.c) ≤ A.d.length := by rw [la]; exact Int.mul_le_mul_of_nonneg_right (by omega) L0
  have g4 := fun i : Nat => hb k i (by omega)
  have oz2 := @mv_i (n) (A) (B) (k) (by omega) s1 s4 L0 L1 g1 g2 g3 la2 lb2 g4
  exact VT.run (W := [.r [] [], .br true, .r [] [], .code [.any (rg [(97, 5)]), .weak 15 (i64 (↑0 : Int)), .sort] (Exit.exit 2) (zO oz2), .r [] [.n ((↑k : Int) + 1)]]) (G := [.any [15, 102, 103], .weak 14 (i64 (↑(k + 1) : Int)), .sort]) (by kernel_rfl) (.c (decide_eq_true (p := ((↑k : Int) < B.h)) (by omega)) <| .c (Weak.int (k := .i64) (show ((0) : Int) = ((↑0 : Int)) from (by omega))) <| .c oz2 <| .c (IntWalk.i64_in ((↑k : Int) + 1) (by omega)) <| .c (Weak.int (k := .i64) (show (((↑k : Int) + 1) : Int) = ((↑(k + 1) : Int)) from (by omega))) <| .n)
set_option maxRecDepth 100000 in
set_option maxHeartbeats 2000000 in
theorem mv_h_e (n : Nod) (A B : Ten) (h1 : B.h ≤ 16) (s1 : 1 ≤ n.ns) (s4 : n.ns ≤ 4) (L0 : 0 ≤ A.x * A.c) (L1 : A.x * A.c ≤ 1024) (lb : (B.d.length : Int) = B.h * (A.x * A.c)) (la : (A.d.length : Int) = (B.h + 1) * (A.x * A.c)) (la2 : A.d.length ≤ 1024) (lb2 : B.d.length ≤ 1024) (hb : ∀ h i : Nat, (h : Int) < B.h → (i : Int) < A.x * A.c → n.np ≤ (h : Int) * n.ns → B.d.getD ((h : Int) * (A.x * A.c) + (i : Int)).toNat 0 = A.d.getD (((h : Int) + 1) * (A.x * A.c) + (i : Int)).toNat 0) : VT Try.prog (fnC Try.f6 [1, 1, 1, 1, 1, 1, 1, 1, 1, 0, 1, 0, 0]) (mv_h_I n A B (B.h.toNat)) (.exit 0) (mv_h_Z n A B) := by
  exact VT.run (W := [.r [] [], .br false]) (G := [.any (rg [(97, 5)]), .sort]) (by kernel_rfl) (.c (decide_eq_false (p := ((↑B.h.toNat : Int) < B.h)) (by omega)) <| .n)
theorem mv_h (n : Nod) (A B : Ten) (h1 : B.h ≤ 16) (s1 : 1 ≤ n.ns) (s4 : n.ns ≤ 4) (L0 : 0 ≤ A.x * A.c) (L1 : A.x * A.c ≤ 1024) (lb : (B.d.length : Int) = B.h * (A.x * A.c)) (la : (A.d.length : Int) = (B.h + 1) * (A.x * A.c)) (la2 : A.d.length ≤ 1024) (lb2 : B.d.length ≤ 1024) (hb : ∀ h i : Nat, (h : Int) < B.h → (i : Int) < A.x * A.c → n.np ≤ (h : Int) * n.ns → B.d.getD ((h : Int) * (A.x * A.c) + (i : Int)).toNat 0 = A.d.getD (((h : Int) + 1) * (A.x * A.c) + (i : Int)).toNat 0) : VT Try.prog (fnC Try.f6 [1, 1, 1, 1, 1, 1, 1, 1, 1, 0, 1, 0]) (mv_h_I n A B 0) (.exit 0) (mv_h_Z n A B) :=
  VT.loop (fun k => mv_h_I n A B k) (B.h.toNat) (fun k hk => mv_h_s n A B h1 s1 s4 L0 L1 lb la la2 lb2 hb k hk) (mv_h_e n A B h1 s1 s4 L0 L1 lb la la2 lb2 hb) (by intro h; cases h)
theorem cvOf_u (T : Ten) (n : Nod) (ok : (dropT T n).Ok) (okn : n.Ok) : VC Try.prog 21 [.agg [i64 (T.h - n.ns), i64 T.x, i64 T.c, .sl 1 ([] ++ ((T.d.map (row1 .i8)).drop (n.ns * T.x * T.c).toNat).take ((T.d.map (row1 .i8)).length - (n.ns * T.x * T.c).toNat))], nod n] (.tup [ten .i32 (convOf (dropT T n) n).1, i64 (convOf (dropT T n) n).2]) := by
  have h := cvOf_v (dropT T n) n ok okn
  have e : (dropT T n).d.map (row1 .i8) = ([] ++ ((T.d.map (row1 .i8)).drop (n.ns * T.x * T.c).toNat).take ((T.d.map (row1 .i8)).length - (n.ns * T.x * T.c).toNat)) := by
    rw [List.nil_append, List.take_of_length_le (by rw [List.length_drop]; exact Nat.le_refl _), ← List.map_drop]; rfl
  rw [← e]; exact h
set_option maxRecDepth 100000 in
set_option maxHeartbeats 2000000 in
theorem moves_y (T : Ten) (n : Nod) (ok : CvOk T n) (e0 : (convOf T n).2 = 0) (hs : n.ns < T.h) (ok2 : CvOk (dropT T n) n) (e2 : (convOf (dropT T n) n).2 = 0) (wl : n.w.length ≤ 2000) (bl : n.b.length ≤ 200) (dl : T.d.length ≤ 1024) : VC Try.prog 6 ([ten .i8 T, nod n]) (bv true) := by
  have ok1 := ok.ok
  have okn := ok.okn
  have oku := ok2.ok
  have m := moves_h ok ok2
  have c1 := ok.n.c1
  have x1 := ok.n.x1
  have s1 := ok.n.s1
  have s4 := ok.n.s4
  have H := ok.n.h16
  have X := ok.n.x16
  have dd := ok.n.dl
  have p1 := mul_bd (a := n.ns) (A := 4) (b := T.x) (B := 16) (by omega) (by omega) (by omega) (by omega)
  have p2 : 0 ≤ n.ns * T.x * T.c := Int.mul_nonneg (by omega) (by omega)
  have p3 : n.ns * T.x * T.c ≤ T.d.length := by rw [dd]; exact Int.mul_le_mul_of_nonneg_right (Int.mul_le_mul_of_nonneg_right (by omega) (by omega)) (by omega)
  have la := convOf_long ok
  have lb := convOf_long ok2
  have la2 := convOf_len T n ok1 okn
  have lb2 := convOf_len (dropT T n) n oku okn
  have ec : (convOf T n).1.c = n.no := by rw [convOf_d ok]; exact ok.n.sc
  have ec2 : (convOf (dropT T n) n).1.c = n.no := by rw [convOf_d ok2]; exact ok2.n.sc
  have ex : (convOf T n).1.x = (convE ⟨T.h, T.x, T.c⟩ n).1.x := by rw [convOf_d ok]
  have ex2 : (convOf (dropT T n) n).1.x = (convOf T n).1.x := by rw [convOf_d ok2, ex, ← m.2]
  have eh : (convOf T n).1.h = (convE ⟨T.h, T.x, T.c⟩ n).1.h := by rw [convOf_d ok]
  have eh2 : (convOf (dropT T n) n).1.h = (convE ⟨(dropT T n).h, (dropT T n).x, (dropT T n).c⟩ n).1.h := by rw [convOf_d ok2]
  have o1 := ok.n.o1
  have o2 := ok.n.o2
  have xe := ok.n.xe
  have he := ok.n.he
  have he2 := ok2.n.he
  have L0 := mul_bd (a := (convOf T n).1.x) (A := 16) (b := (convOf T n).1.c) (B := 1024) (by omega) (by omega) (by omega) (by omega)
  have L1 : (convOf T n).1.x * (convOf T n).1.c ≤ 1024 := by
    have := Int.mul_le_mul_of_nonneg_right (show 1 ≤ (convOf T n).1.h by omega) L0.1
    omega
  have lb3 : ((convOf (dropT T n) n).1.d.length : Int) = (convOf (dropT T n) n).1.h * ((convOf T n).1.x * (convOf T n).1.c) := by rw [lb, ex2, ec2, ec]
  have la3 : ((convOf T n).1.d.length : Int) = ((convOf (dropT T n) n).1.h + 1) * ((convOf T n).1.x * (convOf T n).1.c) := by rw [la, eh, eh2, m.1]
  have hb := fun (h i : Nat) (h1 : (h : Int) < (convOf (dropT T n) n).1.h) h2 h3 => moves_get ok ok2 (h := h) (i := i) h1 h2 h3
  have oz0 := @few10_v (T) (n)
  have oz2 := @cvOf_v (T) (n) ok1 okn
  have oz3 := @rcOf_x (T) (n) ok
  have oz4 := (show false = false by with_reducible rfl)
  have oz21 := @cvOf_u (T) (n) oku okn
  have oz23 := (IntWalk.i64_in ((convOf T n).fst.x * (convOf T n).fst.c) (by omega))
  have oz25 := @mv_h (n) ((convOf T n).fst) ((convOf (dropT T n) n).fst) (by omega) s1 s4 (by omega) L1 lb3 la3 la2 lb2 hb
  have oz26 := @known10_v
  exact VC.run (fn := Try.f6) (W := [.r [] [], .r [] [.callr (rO oz0)], .br false, .r [] [.callr (rO oz2)], .r [] [.callr (rO oz3)], .r [] [.br true, .br true, .br true, .br true, .br true, .br true, .br false], .br false, .r [] [], .r [] [.n (T.h - n.ns), .n (n.ns * T.x), .n (n.ns * T.x * T.c), .nats (n.ns * T.x * T.c).toNat (List.map (row1 IntKind.i8) T.d).length], .r [.frz 73] [.callr (rO oz21)], .r [] [], .br false, .r [] [.n (nO oz23)], .r [] [], .code [.any (rg [(0, 3), (4, 1), (6, 5), (12, 1), (16, 4), (21, 22), (49, 34), (90, 7)]), .drop [2, 7, 9, 10], .weak 14 (i64 (↑0 : Int)), .sort] (Exit.exit 0) (zO oz25), .r [] [.callr (rO oz26)]]) Try.func6 (by kernel_rfl) (.c oz0 <| .c (show (!(decide (T.d.length ≤ 1024) && decide (n.w.length ≤ 2000) && decide (n.b.length ≤ 200))) = false by (simp; omega)) <| .c oz2 <| .c oz3 <| .c oz4 <| .c oz4 <| .c oz4 <| .c oz4 <| .c oz4 <| .c oz4 <| .c oz4 <| .c (decide_eq_false (p := (T.h ≤ n.ns)) (by omega)) <| .c (IntWalk.i64_in (T.h - n.ns) (by omega)) <| .c (IntWalk.i64_in (n.ns * T.x) (by omega)) <| .c (IntWalk.i64_in (n.ns * T.x * T.c) (by omega)) <| .c (show n.ns * T.x * T.c = (↑(n.ns * T.x * T.c).toNat : Int) by omega) <| .c (show (List.map (row1 IntKind.i8) T.d).length = (List.map (row1 IntKind.i8) T.d).length by with_reducible rfl) <| .c (show (n.ns * T.x * T.c).toNat ≤ (List.map (row1 IntKind.i8) T.d).length by (simp; omega)) <| .c (show (List.map (row1 IntKind.i8) T.d).length ≤ (List.map (row1 IntKind.i8) T.d).length by omega) <| .c (show (0 + (List.take ((List.map (row1 IntKind.i8) T.d).length - (n.ns * T.x * T.c).toNat) (List.drop (n.ns * T.x * T.c).toNat (List.map (row1 IntKind.i8) T.d))).length) * 1 ≤ 140737488355328 by (simp; omega)) <| .c (show 0 + (List.take ((List.map (row1 IntKind.i8) T.d).length - (n.ns * T.x * T.c).toNat) (List.drop (n.ns * T.x * T.c).toNat (List.map (row1 IntKind.i8) T.d))).length ≤ 9223372036854775807 by (simp; omega)) <| .c oz21 <| .c (show ((convOf (dropT T n) n).snd != 0) = false by (simp; omega)) <| .c oz23 <| .c (Weak.int (k := .i64) (show ((0) : Int) = ((↑0 : Int)) from (by omega))) <| .c oz25 <| .c oz26 <| .n)

set_option maxRecDepth 100000 in
set_option maxHeartbeats 2000000 in
theorem moves_f (T : Ten) (n : Nod) (ok : CvOk T n) (e0 : (convOf T n).2 = 0) (hs : n.ns < T.h) (oku : (dropT T n).Ok) (e2 : (convOf (dropT T n) n).2 ≠ 0) (hd : (convOf (dropT T n) n).1.d = []) : VC Try.prog 6 ([ten .i8 T, nod n]) (bv true) := by
  have ok1 := ok.ok
  have okn := ok.okn
  have c1 := ok.n.c1
  have x1 := ok.n.x1
  have s1 := ok.n.s1
  have s4 := ok.n.s4
  have H := ok.n.h16
  have X := ok.n.x16
  have dd := ok.n.dl
  have d2 := ok.n.d2
  have p1 := mul_bd (a := n.ns) (A := 4) (b := T.x) (B := 16) (by omega) (by omega) (by omega) (by omega)
  have p2 : 0 ≤ n.ns * T.x * T.c := Int.mul_nonneg (by omega) (by omega)
  have p3 : n.ns * T.x * T.c ≤ T.d.length := by rw [dd]; exact Int.mul_le_mul_of_nonneg_right (Int.mul_le_mul_of_nonneg_right (by omega) (by omega)) (by omega)
  have oz0 := @few10_v (T) (n)
  rcases Bool.eq_false_or_eq_true (!(decide (T.d.length ≤ 1024) && decide (n.w.length ≤ 2000) && decide (n.b.length ≤ 200))) with hc0 | hc0
  · have gc0 : (¬T.d.length ≤ 1024 ∨ ¬n.w.length ≤ 2000) ∨ ¬n.b.length ≤ 200 := by first | exact hc0 | exact of_decide_eq_true hc0 | exact of_decide_eq_false hc0 | simpa [eqNums] using hc0 | (simp [eqNums] at hc0 ⊢; first | done | assumption | omega)
    have oz2 := @known10_v
    exact VC.run (fn := Try.f6) (W := [.r [] [], .r [] [.callr (rO oz0)], .br true, .r [] [.callr (rO oz2)]]) Try.func6 (by kernel_rfl) (.c oz0 <| .c hc0 <| .c oz2 <| .n)
  · have gc0 : (T.d.length ≤ 1024 ∧ n.w.length ≤ 2000) ∧ n.b.length ≤ 200 := by first | exact hc0 | exact of_decide_eq_true hc0 | exact of_decide_eq_false hc0 | simpa [eqNums] using hc0 | (simp [eqNums] at hc0 ⊢; first | done | assumption | omega)
    have oz2 := @cvOf_v (T) (n) ok1 okn
    have oz3 := @rcOf_x (T) (n) ok
    have oz4 := (show false = false by with_reducible rfl)
    have oz21 := @cvOf_u (T) (n) oku okn
    have oz23 := (show ((↑(List.map (row1 IntKind.i32) (convOf (dropT T n) n).fst.d).length : Int) == 0) = true by (rw [hd]; rfl))
    have oz24 := @known10_v
    exact VC.run (fn := Try.f6) (W := [.r [] [], .r [] [.callr (rO oz0)], .br false, .r [] [.callr (rO oz2)], .r [] [.callr (rO oz3)], .r [] [.br true, .br true, .br true, .br true, .br true, .br true, .br false], .br false, .r [] [], .r [] [.n (T.h - n.ns), .n (n.ns * T.x), .n (n.ns * T.x * T.c), .nats (n.ns * T.x * T.c).toNat (List.map (row1 IntKind.i8) T.d).length], .r [.frz 73] [.callr (rO oz21)], .r [] [], .br true, .r [] [.br true, .callr (rO oz24), .br true]]) Try.func6 (by kernel_rfl) (.c oz0 <| .c hc0 <| .c oz2 <| .c oz3 <| .c oz4 <| .c oz4 <| .c oz4 <| .c oz4 <| .c oz4 <| .c oz4 <| .c oz4 <| .c (decide_eq_false (p := (T.h ≤ n.ns)) (by omega)) <| .c (IntWalk.i64_in (T.h - n.ns) (by omega)) <| .c (IntWalk.i64_in (n.ns * T.x) (by omega)) <| .c (IntWalk.i64_in (n.ns * T.x * T.c) (by omega)) <| .c (show n.ns * T.x * T.c = (↑(n.ns * T.x * T.c).toNat : Int) by omega) <| .c (show (List.map (row1 IntKind.i8) T.d).length = (List.map (row1 IntKind.i8) T.d).length by with_reducible rfl) <| .c (show (n.ns * T.x * T.c).toNat ≤ (List.map (row1 IntKind.i8) T.d).length by (simp; omega)) <| .c (show (List.map (row1 IntKind.i8) T.d).length ≤ (List.map (row1 IntKind.i8) T.d).length by omega) <| .c (show (0 + (List.take ((List.map (row1 IntKind.i8) T.d).length - (n.ns * T.x * T.c).toNat) (List.drop (n.ns * T.x * T.c).toNat (List.map (row1 IntKind.i8) T.d))).length) * 1 ≤ 140737488355328 by (simp; omega)) <| .c (show 0 + (List.take ((List.map (row1 IntKind.i8) T.d).length - (n.ns * T.x * T.c).toNat) (List.drop (n.ns * T.x * T.c).toNat (List.map (row1 IntKind.i8) T.d))).length ≤ 9223372036854775807 by (simp; omega)) <| .c oz21 <| .c (show ((convOf (dropT T n) n).snd != 0) = true by (simp; omega)) <| .c oz23 <| .c oz24 <| .c oz23 <| .n)

set_option maxRecDepth 100000 in
set_option maxHeartbeats 2000000 in
theorem moves_n (T : Ten) (n : Nod) (ok : T.Ok) (okn : n.Ok) (h : (convOf T n).2 ≠ 0 ∨ T.h ≤ n.ns) : VC Try.prog 6 ([ten .i8 T, nod n]) (bv true) := by
  have oz0 := @few10_v (T) (n)
  rcases Bool.eq_false_or_eq_true (!(decide (T.d.length ≤ 1024) && decide (n.w.length ≤ 2000) && decide (n.b.length ≤ 200))) with hc0 | hc0
  · have gc0 : (¬T.d.length ≤ 1024 ∨ ¬n.w.length ≤ 2000) ∨ ¬n.b.length ≤ 200 := by first | exact hc0 | exact of_decide_eq_true hc0 | exact of_decide_eq_false hc0 | simpa [eqNums] using hc0 | (simp [eqNums] at hc0 ⊢; first | done | assumption | omega)
    have oz2 := @known10_v
    exact VC.run (fn := Try.f6) (W := [.r [] [], .r [] [.callr (rO oz0)], .br true, .r [] [.callr (rO oz2)]]) Try.func6 (by kernel_rfl) (.c oz0 <| .c hc0 <| .c oz2 <| .n)
  · have gc0 : (T.d.length ≤ 1024 ∧ n.w.length ≤ 2000) ∧ n.b.length ≤ 200 := by first | exact hc0 | exact of_decide_eq_true hc0 | exact of_decide_eq_false hc0 | simpa [eqNums] using hc0 | (simp [eqNums] at hc0 ⊢; first | done | assumption | omega)
    have oz2 := @cvOf_v (T) (n) ok okn
    have oz3 := @rcOf_v (T) (n) ok okn
    rcases Bool.eq_false_or_eq_true ((convOf T n).snd != 0) with hc1 | hc1
    · have gc1 : ¬(convOf T n).snd = 0 := bdt hc1
      have oz4 := (show ((convOf T n).snd != 0) = !false by (simp; omega))
      have oz12 := (show ((convOf T n).snd == (convOf T n).snd) = true by (refine decide_eq_true ?_; omega))
      have oz13 := @known10_v
      exact VC.run (fn := Try.f6) (W := [.r [] [], .r [] [.callr (rO oz0)], .br false, .r [] [.callr (rO oz2)], .r [] [.callr (rO oz3)], .r [] [.br false, .br false, .br false, .br false, .br false, .br false, .br true], .br true, .r [] [.br true, .callr (rO oz13), .br true]]) Try.func6 (by kernel_rfl) (.c oz0 <| .c hc0 <| .c oz2 <| .c oz3 <| .c oz4 <| .c oz4 <| .c oz4 <| .c oz4 <| .c oz4 <| .c oz4 <| .c hc1 <| .c (show true = true by with_reducible rfl) <| .c oz12 <| .c oz13 <| .c oz12 <| .n)
    · have gc1 : (convOf T n).snd = 0 := bdf hc1
      have oz12 := (show ((convOf T n).snd == (convOf T n).snd) = true by (refine decide_eq_true ?_; omega))
      have oz13 := @known10_v
      exact VC.run (fn := Try.f6) (W := [.r [] [], .r [] [.callr (rO oz0)], .br false, .r [] [.callr (rO oz2)], .r [] [.callr (rO oz3)], .r [] [.br true, .br true, .br true, .br true, .br true, .br true, .br false], .br true, .r [] [.br true, .callr (rO oz13), .br true]]) Try.func6 (by kernel_rfl) (.c oz0 <| .c hc0 <| .c oz2 <| .c oz3 <| .c hc1 <| .c hc1 <| .c hc1 <| .c hc1 <| .c hc1 <| .c hc1 <| .c hc1 <| .c (decide_eq_true (p := (T.h ≤ n.ns)) (by omega)) <| .c oz12 <| .c oz13 <| .c oz12 <| .n)

set_option maxRecDepth 100000 in
set_option maxHeartbeats 2000000 in
theorem moves_s (T : Ten) (n : Nod) (hl : ¬ (T.d.length ≤ 1024 ∧ n.w.length ≤ 2000 ∧ n.b.length ≤ 200)) : VC Try.prog 6 ([ten .i8 T, nod n]) (bv true) := by
  have oz0 := @few10_v (T) (n)
  have oz2 := @known10_v
  exact VC.run (fn := Try.f6) (W := [.r [] [], .r [] [.callr (rO oz0)], .br true, .r [] [.callr (rO oz2)]]) Try.func6 (by kernel_rfl) (.c oz0 <| .c (show (!(decide (T.d.length ≤ 1024) && decide (n.w.length ≤ 2000) && decide (n.b.length ≤ 200))) = true by (simp only [Bool.not_eq_true', Bool.and_eq_false_iff, decide_eq_false_iff_not]; omega)) <| .c oz2 <| .n)
theorem dropT_ok {T : Ten} {n : Nod} (ok : CvOk T n) : (dropT T n).Ok :=
  ⟨⟨by have := ok.n.h1; have := ok.n.s4; show _ ≤ T.h - n.ns; omega, by have := ok.n.h16; have := ok.n.s1; show T.h - n.ns ≤ _; omega⟩, ok.ok.x, ok.ok.c, fun v hv => ok.ok.d v (List.mem_of_mem_drop hv)⟩
theorem convMoves_v (T : Ten) (n : Nod) (ok : T.Ok) (okn : n.Ok) : VC Try.prog 6 [ten .i8 T, nod n] (bv true) := by
  by_cases hl : T.d.length ≤ 1024 ∧ n.w.length ≤ 2000 ∧ n.b.length ≤ 200
  · by_cases h : (convOf T n).2 ≠ 0 ∨ T.h ≤ n.ns
    · exact moves_n T n ok okn h
    · have h1 : (convOf T n).2 = 0 := by omega
      have cv := convOf_e ok okn h1
      by_cases h2 : (convOf (dropT T n) n).2 = 0
      · exact moves_y T n cv h1 (by omega) (convOf_e (dropT_ok cv) okn h2) h2 hl.2.1 hl.2.2 hl.1
      · exact moves_f T n cv h1 (by omega) (dropT_ok cv) h2 (convOf_no h2)
  · exact moves_s T n hl
end Go.Proofs.Ytcegfkmelcjdhaa

