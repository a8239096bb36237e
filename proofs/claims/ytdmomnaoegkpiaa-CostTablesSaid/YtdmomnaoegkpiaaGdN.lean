/- Between which numbers what a node makes lies, by the program and by the document. No condition. -/
import Derived.Test.YtdmomnaoegkpiaaGd
namespace Go.Proofs.Ytdmomnaoegkpiaa
open Go.RowKit
set_option linter.unusedSimpArgs false
set_option linter.unusedVariables false
set_option linter.unnecessarySimpa false

abbrev rchC (r : Rng) : List AV := [i8 r.lo, i8 r.hi]
abbrev rch (r : Rng) : AV := .agg (rchC r)
/-- From where to where all of a list goes. -/
def bothR (l : List Rng) : Nat → Rng
  | 0 => l.getD 0 default
  | k + 1 => ⟨min (bothR l k).lo (l.getD k default).lo, max (bothR l k).hi (l.getD k default).hi⟩
noncomputable def both_l_I (l : List Rng) (k : Nat) : VS := stt 32 [(2, .ptr 2 0 0), (3, .ptr 3 0 0), (13, .sl 2 (l.map rngC)), (14, i64 l.length), (15, i64 k)] [(2, .var [i64 0, i64 0]), (3, .var (rngC (bothR l k)))]
noncomputable def both_l_Z (l : List Rng) : VS := both_l_I l (l.length)
set_option maxRecDepth 100000 in
set_option maxHeartbeats 2000000 in
theorem both_l_s (l : List Rng) (hl : l.length ≤ 1000000) (k : Nat) (hk : k < l.length) : VT Try.prog (fnC Try.f126 [1, 1, 1, 0, 1, 0, 0]) (both_l_I l k) .normal (both_l_I l (k + 1)) := by
  have oz2 := (map_at (rngC) (default) (l := l) (i := k) hk)
  exact VT.run (W := [.r [] [], .br true, .r [] [.row (sO oz2)], .r [] [], .r [] [.n ((↑k : Int) + 1)]]) (G := [.any (rg [(5, 1), (16, 15)]), .drop [5], .weak 15 (i64 (↑(k + 1) : Int)), .blk 3 (Blk.var [i64 (bothR l (k + 1)).lo, i64 (bothR l (k + 1)).hi]), .sort]) (by kernel_rfl) (.c (decide_eq_true (p := ((↑k : Int) < (↑l.length : Int))) (by omega)) <| .c (show 0 ≤ (↑k : Int) by omega) <| .c oz2 <| .c (IntWalk.i64_in ((↑k : Int) + 1) (by omega)) <| .c (Weak.int (k := .i64) (show (((↑k : Int) + 1) : Int) = ((↑(k + 1) : Int)) from (by omega))) <| .c (show BlkW (Blk.var [i64 (if (l.getD k default).lo < (bothR l k).lo then (l.getD k default).lo else (bothR l k).lo), i64 (if (l.getD k default).hi > (bothR l k).hi then (l.getD k default).hi else (bothR l k).hi)]) (Blk.var [i64 (bothR l (k + 1)).lo, i64 (bothR l (k + 1)).hi]) from (BlkW.var (.cons (Weak.int (show ((if (l.getD k default).lo < (bothR l k).lo then (l.getD k default).lo else (bothR l k).lo) : Int) = ((bothR l (k + 1)).lo) from (by (simp only [bothR]; split <;> omega)))) (.cons (Weak.int (show ((if (l.getD k default).hi > (bothR l k).hi then (l.getD k default).hi else (bothR l k).hi) : Int) = ((bothR l (k + 1)).hi) from (by (simp only [bothR]; split <;> omega)))) .nil)))) <| .n)
set_option maxRecDepth 100000 in
set_option maxHeartbeats 2000000 in
theorem both_l_e (l : List Rng) (hl : l.length ≤ 1000000) : VT Try.prog (fnC Try.f126 [1, 1, 1, 0, 1, 0, 0]) (both_l_I l (l.length)) (.exit 0) (both_l_Z l) := by
  exact VT.run (W := [.r [] [], .br false]) (G := [.any [16], .sort]) (by kernel_rfl) (.c (decide_eq_false (p := ((↑l.length : Int) < (↑l.length : Int))) (by omega)) <| .n)
theorem both_l (l : List Rng) (hl : l.length ≤ 1000000) : VT Try.prog (fnC Try.f126 [1, 1, 1, 0, 1, 0]) (both_l_I l 0) (.exit 0) (both_l_Z l) :=
  VT.loop (fun k => both_l_I l k) (l.length) (fun k hk => both_l_s l hl k hk) (both_l_e l hl) (by intro h; cases h)

set_option maxRecDepth 100000 in
set_option maxHeartbeats 2000000 in
theorem both_v (l : List Rng) (hl : l.length ≤ 1000000) : VC Try.prog 126 ([.sl 2 (l.map rngC)]) (rng (bothR l l.length)) := by
  rcases Bool.eq_false_or_eq_true ((↑(List.map rngC l).length : Int) == 0) with hc0 | hc0
  · have gc0 : (↑(List.map rngC l).length : Int) = 0 := bet hc0
    exact (VC.run (fn := Try.f126) (W := [.r [] [], .r [] [], .br true, .r [] []]) (r := AV.agg [i64 0, i64 0]) Try.func126 (by kernel_rfl) (.c hc0 <| .n)).weak (WeakL.refl _) (Weak.agg (.cons (Weak.int (show ((0) : Int) = ((bothR l l.length).lo) from (by (have : l = [] := List.eq_nil_of_length_eq_zero (by simp only [List.length_map] at *; omega); subst this; rfl)))) (.cons (Weak.int (show ((0) : Int) = ((bothR l l.length).hi) from (by (have : l = [] := List.eq_nil_of_length_eq_zero (by simp only [List.length_map] at *; omega); subst this; rfl)))) .nil)))
  · have gc0 : ¬(↑(List.map rngC l).length : Int) = 0 := bef hc0
    have oz2 := (map_at (rngC) (default) (l := l) (i := 0) (by (simp only [List.length_map] at *; omega)))
    have oz6 := @both_l (l) hl
    exact VC.run (fn := Try.f126) (W := [.r [] [], .r [] [], .br false, .r [] [.row (sO oz2)], .r [] [], .code [.any [0, 6, 7, 8, 10, 11, 12], .weak 14 (i64 (↑l.length : Int)), .weak 15 (i64 (↑0 : Int)), .blk 3 (Blk.var [i64 (bothR l 0).lo, i64 (bothR l 0).hi]), .sort] (Exit.exit 0) (zO oz6), .r [] []]) Try.func126 (by kernel_rfl) (.c hc0 <| .c (show (0 : Int) ≤ (0 : Int) by omega) <| .c oz2 <| .c (Weak.int (k := .i64) (show (((↑(List.map rngC l).length : Int)) : Int) = ((↑l.length : Int)) from (by (simp; done)))) <| .c (Weak.int (k := .i64) (show ((0) : Int) = ((↑0 : Int)) from (by omega))) <| .c (show BlkW (Blk.var [i64 (l.getD 0 default).lo, i64 (l.getD 0 default).hi]) (Blk.var [i64 (bothR l 0).lo, i64 (bothR l 0).hi]) from (BlkW.var (.cons (Weak.int (show (((l.getD 0 default).lo) : Int) = ((bothR l 0).lo) from (by rfl))) (.cons (Weak.int (show (((l.getD 0 default).hi) : Int) = ((bothR l 0).hi) from (by rfl))) .nil)))) <| .c oz6 <| .n)
def held32 (v : Int) : Int := if 2147483647 < if -2147483648 > v then -2147483648 else v then 2147483647 else if -2147483648 > v then -2147483648 else v
theorem held32_in (v : Int) : In32 (held32 v) := by unfold held32 In32; omega
theorem min_if (a b : Int) : (if b < a then b else a) = min a b := by omega
theorem max_if (a b : Int) : (if b > a then b else a) = max a b := by omega
def afterE (r : Rng) (n : Nod) : Rng := ⟨min (heldQ (held32 r.lo) n.qm n.qs n.qz n.lo n.hi) (heldQ (held32 r.hi) n.qm n.qs n.qz n.lo n.hi), max (heldQ (held32 r.lo) n.qm n.qs n.qz n.lo n.hi) (heldQ (held32 r.hi) n.qm n.qs n.qz n.lo n.hi)⟩
set_option maxRecDepth 100000 in
set_option maxHeartbeats 2000000 in
theorem after_v (r : Rng) (n : Nod) (ok : n.Ok) : VC Try.prog 125 ([rng r, .agg [i32 n.qm, i64 n.qs, i8 n.qz], i8 n.lo, i8 n.hi]) (.tup [i8 (afterE r n).lo, i8 (afterE r n).hi]) := by
  have ok_qm := ok.qm
  have ok_qz := ok.qz
  have ok_lo := ok.lo
  have ok_hi := ok.hi
  have q1 := held32_in r.lo
  have q2 := held32_in r.hi
  have oz0 := (IntWalk.i32_in (if 2147483647 < if -2147483648 > r.lo then -2147483648 else r.lo then 2147483647 else if -2147483648 > r.lo then -2147483648 else r.lo) (by omega))
  have oz1 := @held_v (if 2147483647 < if -2147483648 > r.lo then -2147483648 else r.lo then 2147483647 else if -2147483648 > r.lo then -2147483648 else r.lo) (n.qm) (n.qs) (n.qz) (n.lo) (n.hi) (by omega) ok_qm ok_qz ok_lo ok_hi
  have oz2 := (IntWalk.i32_in (if 2147483647 < if -2147483648 > r.hi then -2147483648 else r.hi then 2147483647 else if -2147483648 > r.hi then -2147483648 else r.hi) (by omega))
  have oz3 := @held_v (if 2147483647 < if -2147483648 > r.hi then -2147483648 else r.hi then 2147483647 else if -2147483648 > r.hi then -2147483648 else r.hi) (n.qm) (n.qs) (n.qz) (n.lo) (n.hi) (by omega) ok_qm ok_qz ok_lo ok_hi
  exact (VC.run (fn := Try.f125) (W := [.r [] [], .r [] [.n (nO oz0), .callr (rO oz1)], .r [] [.n (nO oz2), .callr (rO oz3)], .r [] []]) (r := AV.tup [i8 (if heldQ (if 2147483647 < if -2147483648 > r.hi then -2147483648 else r.hi then 2147483647 else if -2147483648 > r.hi then -2147483648 else r.hi) n.qm n.qs n.qz n.lo n.hi < heldQ (if 2147483647 < if -2147483648 > r.lo then -2147483648 else r.lo then 2147483647 else if -2147483648 > r.lo then -2147483648 else r.lo) n.qm n.qs n.qz n.lo n.hi then heldQ (if 2147483647 < if -2147483648 > r.hi then -2147483648 else r.hi then 2147483647 else if -2147483648 > r.hi then -2147483648 else r.hi) n.qm n.qs n.qz n.lo n.hi else heldQ (if 2147483647 < if -2147483648 > r.lo then -2147483648 else r.lo then 2147483647 else if -2147483648 > r.lo then -2147483648 else r.lo) n.qm n.qs n.qz n.lo n.hi), i8 (if heldQ (if 2147483647 < if -2147483648 > r.hi then -2147483648 else r.hi then 2147483647 else if -2147483648 > r.hi then -2147483648 else r.hi) n.qm n.qs n.qz n.lo n.hi > heldQ (if 2147483647 < if -2147483648 > r.lo then -2147483648 else r.lo then 2147483647 else if -2147483648 > r.lo then -2147483648 else r.lo) n.qm n.qs n.qz n.lo n.hi then heldQ (if 2147483647 < if -2147483648 > r.hi then -2147483648 else r.hi then 2147483647 else if -2147483648 > r.hi then -2147483648 else r.hi) n.qm n.qs n.qz n.lo n.hi else heldQ (if 2147483647 < if -2147483648 > r.lo then -2147483648 else r.lo then 2147483647 else if -2147483648 > r.lo then -2147483648 else r.lo) n.qm n.qs n.qz n.lo n.hi)]) Try.func125 (by kernel_rfl) (.c oz0 <| .c oz1 <| .c oz2 <| .c oz3 <| .n)).weak (WeakL.refl _) (Weak.tup (.cons (Weak.int (show ((if heldQ (if 2147483647 < if -2147483648 > r.hi then -2147483648 else r.hi then 2147483647 else if -2147483648 > r.hi then -2147483648 else r.hi) n.qm n.qs n.qz n.lo n.hi < heldQ (if 2147483647 < if -2147483648 > r.lo then -2147483648 else r.lo then 2147483647 else if -2147483648 > r.lo then -2147483648 else r.lo) n.qm n.qs n.qz n.lo n.hi then heldQ (if 2147483647 < if -2147483648 > r.hi then -2147483648 else r.hi then 2147483647 else if -2147483648 > r.hi then -2147483648 else r.hi) n.qm n.qs n.qz n.lo n.hi else heldQ (if 2147483647 < if -2147483648 > r.lo then -2147483648 else r.lo then 2147483647 else if -2147483648 > r.lo then -2147483648 else r.lo) n.qm n.qs n.qz n.lo n.hi) : Int) = ((afterE r n).lo) from (by (exact min_if _ _)))) (.cons (Weak.int (show ((if heldQ (if 2147483647 < if -2147483648 > r.hi then -2147483648 else r.hi then 2147483647 else if -2147483648 > r.hi then -2147483648 else r.hi) n.qm n.qs n.qz n.lo n.hi > heldQ (if 2147483647 < if -2147483648 > r.lo then -2147483648 else r.lo then 2147483647 else if -2147483648 > r.lo then -2147483648 else r.lo) n.qm n.qs n.qz n.lo n.hi then heldQ (if 2147483647 < if -2147483648 > r.hi then -2147483648 else r.hi then 2147483647 else if -2147483648 > r.hi then -2147483648 else r.hi) n.qm n.qs n.qz n.lo n.hi else heldQ (if 2147483647 < if -2147483648 > r.lo then -2147483648 else r.lo then 2147483647 else if -2147483648 > r.lo then -2147483648 else r.lo) n.qm n.qs n.qz n.lo n.hi) : Int) = ((afterE r n).hi) from (by (exact max_if _ _)))) .nil)))
theorem clamp_in (v : Int) {lo hi : Int} (h1 : In8 lo) (h2 : In8 hi) : In8 (clampI v lo hi) := by
  unfold clampI; split
  · exact h1
  · split
    · exact h2
    · omega
set_option maxRecDepth 100000 in
set_option maxHeartbeats 2000000 in
theorem refHeld_v (a m s z lo hi : Int) (ha : In32 a) (hm : In32 m) (hz : In8 z) (hl : In8 lo) (hh : In8 hi) : VC Try.prog 133 ([i32 a, .agg [i32 m, i64 s, i8 z], i8 lo, i8 hi]) (i8 (heldQ a m s z lo hi)) := by
  have q1 := mul_bd32 a m ha.1 ha.2 hm.1 hm.2
  have q2 := rnd_bd (a * m) s 4611686018427387904 q1.1 q1.2
  have q3 := clamp_in (rnd (a * m) s + z) hl hh
  have oz0 := @refRight_v (m) (s) (z)
  rcases Bool.eq_false_or_eq_true (!rightQ m s) with hc0 | hc0
  · have gc0 : rightQ m s = false := by first | exact hc0 | exact of_decide_eq_true hc0 | exact of_decide_eq_false hc0 | simpa [eqNums] using hc0 | (simp [eqNums] at hc0 ⊢; first | done | assumption | omega)
    exact (VC.run (fn := Try.f133) (W := [.r [] [], .r [] [.callr (rO oz0)], .br true, .r [] []]) (r := i8 0) Try.func133 (by kernel_rfl) (.c oz0 <| .c hc0 <| .n)).weak (WeakL.refl _) (Weak.int (show ((0) : Int) = (heldQ a m s z lo hi) from (by (unfold heldQ; rw [if_neg (by simp_all)]))))
  · have gc0 : rightQ m s = true := by first | exact hc0 | exact of_decide_eq_true hc0 | exact of_decide_eq_false hc0 | simpa [eqNums] using hc0 | (simp [eqNums] at hc0 ⊢; first | done | assumption | omega)
    have oz5 := @refRound_v (a * m) (s) (by omega)
    have oz10 := @refSatHeld_v (rnd (a * m) s + z) (lo) (hi)
    have oz11 := (IntWalk.i8_in (clampI (rnd (a * m) s + z) lo hi) (by omega))
    exact (VC.run (fn := Try.f133) (W := [.r [] [], .r [] [.callr (rO oz0)], .br false, .r [] [.n a, .n m, .n (a * m), .callr (rO oz5), .n z, .n (rnd (a * m) s + z)], .r [] [.n lo, .n hi, .callr (rO oz10), .n (nO oz11)]]) (r := i8 (clampI (rnd (a * m) s + z) lo hi)) Try.func133 (by kernel_rfl) (.c oz0 <| .c hc0 <| .c (IntWalk.i64_in a (by omega)) <| .c (IntWalk.i64_in m (by omega)) <| .c (IntWalk.i64_in (a * m) (by omega)) <| .c oz5 <| .c (IntWalk.i64_in z (by omega)) <| .c (IntWalk.i64_in (rnd (a * m) s + z) (by omega)) <| .c (IntWalk.i64_in lo (by omega)) <| .c (IntWalk.i64_in hi (by omega)) <| .c oz10 <| .c oz11 <| .n)).weak (WeakL.refl _) (Weak.int (show ((clampI (rnd (a * m) s + z) lo hi) : Int) = (heldQ a m s z lo hi) from (by (unfold heldQ; rw [if_pos (by simp_all)]))))

set_option maxRecDepth 100000 in
set_option maxHeartbeats 2000000 in
theorem refAfter_v (r : Rng) (n : Nod) (ok : n.Ok) : VC Try.prog 70 ([i64 r.lo, i64 r.hi, .agg [i32 n.qm, i64 n.qs, i8 n.qz], i8 n.lo, i8 n.hi]) (.tup [i8 (afterE r n).lo, i8 (afterE r n).hi]) := by
  have ok_qm := ok.qm
  have ok_qz := ok.qz
  have ok_lo := ok.lo
  have ok_hi := ok.hi
  have q1 := held32_in r.lo
  have q2 := held32_in r.hi
  have oz0 := (IntWalk.i32_in (if 2147483647 < if -2147483648 > r.lo then -2147483648 else r.lo then 2147483647 else if -2147483648 > r.lo then -2147483648 else r.lo) (by omega))
  have oz1 := @refHeld_v (if 2147483647 < if -2147483648 > r.lo then -2147483648 else r.lo then 2147483647 else if -2147483648 > r.lo then -2147483648 else r.lo) (n.qm) (n.qs) (n.qz) (n.lo) (n.hi) (by omega) ok_qm ok_qz ok_lo ok_hi
  have oz2 := (IntWalk.i32_in (if 2147483647 < if -2147483648 > r.hi then -2147483648 else r.hi then 2147483647 else if -2147483648 > r.hi then -2147483648 else r.hi) (by omega))
  have oz3 := @refHeld_v (if 2147483647 < if -2147483648 > r.hi then -2147483648 else r.hi then 2147483647 else if -2147483648 > r.hi then -2147483648 else r.hi) (n.qm) (n.qs) (n.qz) (n.lo) (n.hi) (by omega) ok_qm ok_qz ok_lo ok_hi
  exact (VC.run (fn := Try.f70) (W := [.r [] [], .r [] [.n (nO oz0), .callr (rO oz1)], .r [] [.n (nO oz2), .callr (rO oz3)], .r [] []]) (r := AV.tup [i8 (if heldQ (if 2147483647 < if -2147483648 > r.hi then -2147483648 else r.hi then 2147483647 else if -2147483648 > r.hi then -2147483648 else r.hi) n.qm n.qs n.qz n.lo n.hi < heldQ (if 2147483647 < if -2147483648 > r.lo then -2147483648 else r.lo then 2147483647 else if -2147483648 > r.lo then -2147483648 else r.lo) n.qm n.qs n.qz n.lo n.hi then heldQ (if 2147483647 < if -2147483648 > r.hi then -2147483648 else r.hi then 2147483647 else if -2147483648 > r.hi then -2147483648 else r.hi) n.qm n.qs n.qz n.lo n.hi else heldQ (if 2147483647 < if -2147483648 > r.lo then -2147483648 else r.lo then 2147483647 else if -2147483648 > r.lo then -2147483648 else r.lo) n.qm n.qs n.qz n.lo n.hi), i8 (if heldQ (if 2147483647 < if -2147483648 > r.hi then -2147483648 else r.hi then 2147483647 else if -2147483648 > r.hi then -2147483648 else r.hi) n.qm n.qs n.qz n.lo n.hi > heldQ (if 2147483647 < if -2147483648 > r.lo then -2147483648 else r.lo then 2147483647 else if -2147483648 > r.lo then -2147483648 else r.lo) n.qm n.qs n.qz n.lo n.hi then heldQ (if 2147483647 < if -2147483648 > r.hi then -2147483648 else r.hi then 2147483647 else if -2147483648 > r.hi then -2147483648 else r.hi) n.qm n.qs n.qz n.lo n.hi else heldQ (if 2147483647 < if -2147483648 > r.lo then -2147483648 else r.lo then 2147483647 else if -2147483648 > r.lo then -2147483648 else r.lo) n.qm n.qs n.qz n.lo n.hi)]) Try.func70 (by kernel_rfl) (.c oz0 <| .c oz1 <| .c oz2 <| .c oz3 <| .n)).weak (WeakL.refl _) (Weak.tup (.cons (Weak.int (show ((if heldQ (if 2147483647 < if -2147483648 > r.hi then -2147483648 else r.hi then 2147483647 else if -2147483648 > r.hi then -2147483648 else r.hi) n.qm n.qs n.qz n.lo n.hi < heldQ (if 2147483647 < if -2147483648 > r.lo then -2147483648 else r.lo then 2147483647 else if -2147483648 > r.lo then -2147483648 else r.lo) n.qm n.qs n.qz n.lo n.hi then heldQ (if 2147483647 < if -2147483648 > r.hi then -2147483648 else r.hi then 2147483647 else if -2147483648 > r.hi then -2147483648 else r.hi) n.qm n.qs n.qz n.lo n.hi else heldQ (if 2147483647 < if -2147483648 > r.lo then -2147483648 else r.lo then 2147483647 else if -2147483648 > r.lo then -2147483648 else r.lo) n.qm n.qs n.qz n.lo n.hi) : Int) = ((afterE r n).lo) from (by (exact min_if _ _)))) (.cons (Weak.int (show ((if heldQ (if 2147483647 < if -2147483648 > r.hi then -2147483648 else r.hi then 2147483647 else if -2147483648 > r.hi then -2147483648 else r.hi) n.qm n.qs n.qz n.lo n.hi > heldQ (if 2147483647 < if -2147483648 > r.lo then -2147483648 else r.lo then 2147483647 else if -2147483648 > r.lo then -2147483648 else r.lo) n.qm n.qs n.qz n.lo n.hi then heldQ (if 2147483647 < if -2147483648 > r.hi then -2147483648 else r.hi then 2147483647 else if -2147483648 > r.hi then -2147483648 else r.hi) n.qm n.qs n.qz n.lo n.hi else heldQ (if 2147483647 < if -2147483648 > r.lo then -2147483648 else r.lo then 2147483647 else if -2147483648 > r.lo then -2147483648 else r.lo) n.qm n.qs n.qz n.lo n.hi) : Int) = ((afterE r n).hi) from (by (exact max_if _ _)))) .nil)))
/-- Two numbers as one. -/
def joinE (x y : Int) (n : Nod) : Int := if (rightQ n.qm n.qs && rightQ n.rm n.rs) = true then clampI (rnd ((x - n.za) * n.qm) n.qs + rnd ((y - n.zb) * n.rm) n.rs + n.qz) n.lo n.hi else 0
theorem mul_bd9 (a m : Int) (a0 : -255 ≤ a) (a1 : a ≤ 255) (hm : In32 m) : -547608330240 ≤ a * m ∧ a * m ≤ 547608330240 := by
  obtain ⟨m0, m1⟩ := hm
  have h1 : (a.natAbs * m.natAbs : Nat) ≤ 255 * 2147483648 := Nat.mul_le_mul (by omega) (by omega)
  have := Int.natAbs_mul a m
  omega
theorem joinP (v z m s : Int) (h1 : In8 v) (h2 : In8 z) (h3 : In32 m) : (-547608330240 ≤ (v - z) * m ∧ (v - z) * m ≤ 547608330240) ∧ -547608330240 ≤ rnd ((v - z) * m) s ∧ rnd ((v - z) * m) s ≤ 547608330240 := by
  have q := mul_bd9 (v - z) m (by omega) (by omega) h3
  exact ⟨q, rnd_bd _ s _ q.1 q.2⟩
set_option maxRecDepth 100000 in
set_option maxHeartbeats 2000000 in
theorem joinMay_v (n : Nod)  : VC Try.prog 110 ([nod n]) (bv (rightQ n.qm n.qs && rightQ n.rm n.rs)) := by
  have oz0 := @right_v (n.qm) (n.qs) (n.qz)
  have oz1 := @right_v (n.rm) (n.rs) (n.rz)
  exact VC.run (fn := Try.f110) (W := [.r [] [], .r [] [.callr (rO oz0), .op false, .op false, .op false, .callr (rO oz1), .sel 2]]) Try.func110 (by kernel_rfl) (.c oz0 <| .c oz1 <| .n)

set_option maxRecDepth 100000 in
set_option maxHeartbeats 2000000 in
theorem joinScaled_v (v z m s z2 : Int) (h1 : In8 v) (h2 : In8 z) (h3 : In32 m) : VC Try.prog 114 ([i8 v, i8 z, .agg [i32 m, i64 s, i8 z2]]) (i64 (rnd ((v - z) * m) s)) := by
  have oz3 := @scale_v (v - z) (m) (s) (by omega) h3
  exact VC.run (fn := Try.f114) (W := [.r [] [], .r [] [.n v, .n z, .n (v - z), .callr (rO oz3)]]) Try.func114 (by kernel_rfl) (.c (IntWalk.i32_in v (by omega)) <| .c (IntWalk.i32_in z (by omega)) <| .c (IntWalk.i32_in (v - z) (by omega)) <| .c oz3 <| .n)

set_option maxRecDepth 100000 in
set_option maxHeartbeats 2000000 in
theorem joinOne_v (x y : Int) (n : Nod) (ok : n.Ok) (hx : In8 x) (hy : In8 y) : VC Try.prog 57 ([i8 x, i8 y, nod n]) (i8 (joinE x y n)) := by
  have ok_za := ok.za
  have ok_zb := ok.zb
  have ok_qm := ok.qm
  have ok_rm := ok.rm
  have ok_lo := ok.lo
  have ok_hi := ok.hi
  have ok_qz := ok.qz
  have q1 := joinP x n.za n.qm n.qs hx ok.za ok.qm
  have q2 := joinP y n.zb n.rm n.rs hy ok.zb ok.rm
  have oz0 := @joinMay_v (n)
  rcases Bool.eq_false_or_eq_true (!(rightQ n.qm n.qs && rightQ n.rm n.rs)) with hc0 | hc0
  · have gc0 : rightQ n.qm n.qs = false ∨ rightQ n.rm n.rs = false := by first | (simp only [Bool.or_eq_true, Bool.or_eq_false_iff, Bool.and_eq_true, Bool.and_eq_false_iff, Bool.not_eq_true', Bool.not_eq_false', decide_eq_true_eq, decide_eq_false_iff_not, beq_iff_eq, bne_iff_ne, ne_eq, beq_eq_false_iff_ne, bne_eq_false_iff_eq, eqNums, Bool.and_true] at hc0; first | exact hc0 | omega) | simpa using hc0 | (simp at hc0 ⊢; omega)
    exact (VC.run (fn := Try.f57) (W := [.r [] [], .r [] [.callr (rO oz0)], .br true, .r [] []]) (r := i8 0) Try.func57 (by kernel_rfl) (.c oz0 <| .c hc0 <| .n)).weak (WeakL.refl _) (Weak.int (show ((0) : Int) = (joinE x y n) from (by (unfold joinE; rw [if_neg (by intro hh; simp only [Bool.and_eq_true] at hh; simp_all)]))))
  · have gc0 : rightQ n.qm n.qs = true ∧ rightQ n.rm n.rs = true := by first | (simp only [Bool.or_eq_true, Bool.or_eq_false_iff, Bool.and_eq_true, Bool.and_eq_false_iff, Bool.not_eq_true', Bool.not_eq_false', decide_eq_true_eq, decide_eq_false_iff_not, beq_iff_eq, bne_iff_ne, ne_eq, beq_eq_false_iff_ne, bne_eq_false_iff_eq, eqNums, Bool.and_true] at hc0; first | exact hc0 | omega) | simpa using hc0 | (simp at hc0 ⊢; omega)
    have oz2 := @joinScaled_v (x) (n.za) (n.qm) (n.qs) (n.qz) hx ok_za ok_qm
    have oz3 := @joinScaled_v (y) (n.zb) (n.rm) (n.rs) (n.rz) hy ok_zb ok_rm
    have oz4 := (IntWalk.i64_in (rnd ((x - n.za) * n.qm) n.qs + rnd ((y - n.zb) * n.rm) n.rs) (by omega))
    have oz6 := (IntWalk.i64_in (rnd ((x - n.za) * n.qm) n.qs + rnd ((y - n.zb) * n.rm) n.rs + n.qz) (by omega))
    have oz7 := @clamp_v (rnd ((x - n.za) * n.qm) n.qs + rnd ((y - n.zb) * n.rm) n.rs + n.qz) (n.lo) (n.hi) ok_lo ok_hi
    exact (VC.run (fn := Try.f57) (W := [.r [] [], .r [] [.callr (rO oz0)], .br false, .r [] [.callr (rO oz2), .callr (rO oz3), .n (nO oz4), .n n.qz, .n (nO oz6), .callr (rO oz7)]]) (r := i8 (clampI (rnd ((x - n.za) * n.qm) n.qs + rnd ((y - n.zb) * n.rm) n.rs + n.qz) n.lo n.hi)) Try.func57 (by kernel_rfl) (.c oz0 <| .c hc0 <| .c oz2 <| .c oz3 <| .c oz4 <| .c (IntWalk.i64_in n.qz (by omega)) <| .c oz6 <| .c oz7 <| .n)).weak (WeakL.refl _) (Weak.int (show ((clampI (rnd ((x - n.za) * n.qm) n.qs + rnd ((y - n.zb) * n.rm) n.rs + n.qz) n.lo n.hi) : Int) = (joinE x y n) from (by (unfold joinE; rw [if_pos (by simp_all)]))))

set_option maxRecDepth 100000 in
set_option maxHeartbeats 2000000 in
theorem refJoinOne_v (x y : Int) (n : Nod) (ok : n.Ok) (hx : In8 x) (hy : In8 y) : VC Try.prog 58 ([i8 x, i8 y, nod n]) (i8 (joinE x y n)) := by
  have ok_za := ok.za
  have ok_zb := ok.zb
  have ok_qm := ok.qm
  have ok_rm := ok.rm
  have ok_lo := ok.lo
  have ok_hi := ok.hi
  have ok_qz := ok.qz
  have q1 := joinP x n.za n.qm n.qs hx ok.za ok.qm
  have q2 := joinP y n.zb n.rm n.rs hy ok.zb ok.rm
  have q3 := clamp_in (rnd ((x - n.za) * n.qm) n.qs + rnd ((y - n.zb) * n.rm) n.rs + n.qz) ok.lo ok.hi
  have oz0 := @refRight_v (n.qm) (n.qs) (n.qz)
  have oz1 := @refRight_v (n.rm) (n.rs) (n.rz)
  rcases Bool.eq_false_or_eq_true (!rightQ n.qm n.qs || !rightQ n.rm n.rs) with hc0 | hc0
  · have gc0 : rightQ n.qm n.qs = false ∨ rightQ n.rm n.rs = false := by first | (simp only [Bool.or_eq_true, Bool.or_eq_false_iff, Bool.and_eq_true, Bool.and_eq_false_iff, Bool.not_eq_true', Bool.not_eq_false', decide_eq_true_eq, decide_eq_false_iff_not, beq_iff_eq, bne_iff_ne, ne_eq, beq_eq_false_iff_ne, bne_eq_false_iff_eq, eqNums, Bool.and_true] at hc0; first | exact hc0 | omega) | simpa using hc0 | (simp at hc0 ⊢; omega)
    exact (VC.run (fn := Try.f58) (W := [.r [] [], .r [] [.callr (rO oz0), .op false, .op false, .op false, .callr (rO oz1), .op false, .sel 1], .br true, .r [] []]) (r := i8 0) Try.func58 (by kernel_rfl) (.c oz0 <| .c oz1 <| .c hc0 <| .n)).weak (WeakL.refl _) (Weak.int (show ((0) : Int) = (joinE x y n) from (by (unfold joinE; rw [if_neg (by intro hh; simp only [Bool.and_eq_true] at hh; simp_all)]))))
  · have gc0 : rightQ n.qm n.qs = true ∧ rightQ n.rm n.rs = true := by first | (simp only [Bool.or_eq_true, Bool.or_eq_false_iff, Bool.and_eq_true, Bool.and_eq_false_iff, Bool.not_eq_true', Bool.not_eq_false', decide_eq_true_eq, decide_eq_false_iff_not, beq_iff_eq, bne_iff_ne, ne_eq, beq_eq_false_iff_ne, bne_eq_false_iff_eq, eqNums, Bool.and_true] at hc0; first | exact hc0 | omega) | simpa using hc0 | (simp at hc0 ⊢; omega)
    have oz8 := @refRound_v ((x - n.za) * n.qm) (n.qs) (by omega)
    have oz14 := @refRound_v ((y - n.zb) * n.rm) (n.rs) (by omega)
    have oz15 := (IntWalk.i64_in (rnd ((x - n.za) * n.qm) n.qs + rnd ((y - n.zb) * n.rm) n.rs) (by omega))
    have oz17 := (IntWalk.i64_in (rnd ((x - n.za) * n.qm) n.qs + rnd ((y - n.zb) * n.rm) n.rs + n.qz) (by omega))
    have oz20 := @refSatHeld_v (rnd ((x - n.za) * n.qm) n.qs + rnd ((y - n.zb) * n.rm) n.rs + n.qz) (n.lo) (n.hi)
    have oz21 := (IntWalk.i8_in (clampI (rnd ((x - n.za) * n.qm) n.qs + rnd ((y - n.zb) * n.rm) n.rs + n.qz) n.lo n.hi) (by omega))
    exact (VC.run (fn := Try.f58) (W := [.r [] [], .r [] [.callr (rO oz0), .op false, .op false, .op false, .callr (rO oz1), .op false, .sel 1], .br false, .r [] [.n x, .n n.za, .n (x - n.za), .n n.qm, .n ((x - n.za) * n.qm), .callr (rO oz8)], .r [] [.n y, .n n.zb, .n (y - n.zb), .n n.rm, .n ((y - n.zb) * n.rm), .callr (rO oz14)], .r [] [.n (nO oz15), .n n.qz, .n (nO oz17), .n n.lo, .n n.hi, .callr (rO oz20), .n (nO oz21)]]) (r := i8 (clampI (rnd ((x - n.za) * n.qm) n.qs + rnd ((y - n.zb) * n.rm) n.rs + n.qz) n.lo n.hi)) Try.func58 (by kernel_rfl) (.c oz0 <| .c oz1 <| .c hc0 <| .c (IntWalk.i64_in x (by omega)) <| .c (IntWalk.i64_in n.za (by omega)) <| .c (IntWalk.i64_in (x - n.za) (by omega)) <| .c (IntWalk.i64_in n.qm (by omega)) <| .c (IntWalk.i64_in ((x - n.za) * n.qm) (by omega)) <| .c oz8 <| .c (IntWalk.i64_in y (by omega)) <| .c (IntWalk.i64_in n.zb (by omega)) <| .c (IntWalk.i64_in (y - n.zb) (by omega)) <| .c (IntWalk.i64_in n.rm (by omega)) <| .c (IntWalk.i64_in ((y - n.zb) * n.rm) (by omega)) <| .c oz14 <| .c oz15 <| .c (IntWalk.i64_in n.qz (by omega)) <| .c oz17 <| .c (IntWalk.i64_in n.lo (by omega)) <| .c (IntWalk.i64_in n.hi (by omega)) <| .c oz20 <| .c oz21 <| .n)).weak (WeakL.refl _) (Weak.int (show ((clampI (rnd ((x - n.za) * n.qm) n.qs + rnd ((y - n.zb) * n.rm) n.rs + n.qz) n.lo n.hi) : Int) = (joinE x y n) from (by (unfold joinE; rw [if_pos (by simp_all)]))))

set_option maxRecDepth 100000 in
set_option maxHeartbeats 2000000 in
theorem refActOne_v (v : Int) (n : Nod) (ok : n.Ok) (hv : In8 v) : VC Try.prog 71 ([i8 v, nod n]) (i8 (oneN v n)) := by
  have ok_za := ok.za
  have ok_qm := ok.qm
  have ok_qz := ok.qz
  have ok_lo := ok.lo
  have ok_hi := ok.hi
  have oz3 := @refHeld_v (v - n.za) (n.qm) (n.qs) (n.qz) (n.lo) (n.hi) (by omega) ok_qm ok_qz ok_lo ok_hi
  exact (VC.run (fn := Try.f71) (W := [.r [] [], .r [] [.n v, .n n.za, .n (v - n.za), .callr (rO oz3)]]) (r := i8 (heldQ (v - n.za) n.qm n.qs n.qz n.lo n.hi)) Try.func71 (by kernel_rfl) (.c (IntWalk.i32_in v (by omega)) <| .c (IntWalk.i32_in n.za (by omega)) <| .c (IntWalk.i32_in (v - n.za) (by omega)) <| .c oz3 <| .n)).weak (WeakL.refl _) (Weak.int (show ((heldQ (v - n.za) n.qm n.qs n.qz n.lo n.hi) : Int) = (oneN v n) from (by rfl)))
theorem all_le (w b : List Int) (lo hi z : Int) (g : Bool) (bl : b.length ≤ 100000) : (allR w b lo hi z g (if sharedB w b = true then b.length else 0)).length ≤ 1000000 := by
  have : (allR w b lo hi z g (if sharedB w b = true then b.length else 0)).length = if sharedB w b = true then b.length else 0 := by simp [allR]
  rw [this]; split <;> omega
/-- The ranges of a node's rows. -/
def spansN (n : Nod) (a : Rng) : List Rng := allR n.w n.b a.lo a.hi n.za (decide (n.np > 0)) (if sharedB n.w n.b = true then n.b.length else 0)
def sumE (n : Nod) (a : Rng) : Rng × Int := if (spansN n a).all holdB = true then (afterE (bothR (spansN n a) (spansN n a).length) n, 0) else (⟨0, 0⟩, 10)
theorem sumE_y {n : Nod} {a : Rng} (h : (allR n.w n.b a.lo a.hi n.za (decide (n.np > 0)) (if sharedB n.w n.b = true then n.b.length else 0)).all holdB = true) : sumE n a = (afterE (bothR (spansN n a) (spansN n a).length) n, 0) := if_pos h
set_option maxRecDepth 100000 in
set_option maxHeartbeats 2000000 in
theorem summed_v (n : Nod) (a : Rng) (ok : n.Ok) (h1 : In8 a.lo) (h2 : In8 a.hi) (wl : n.w.length ≤ 100000) (bl : n.b.length ≤ 100000) : VC Try.prog 64 ([nod n, rch a]) (.tup [rch (sumE n a).1, i64 (sumE n a).2]) := by
  have q := all_le n.w n.b a.lo a.hi n.za (decide (n.np > 0)) bl
  have oz0 := @all_v (n) (a.lo) (a.hi) ok h1 h2 wl bl
  have oz1 := @holds_v (allR n.w n.b a.lo a.hi n.za (decide (n.np > 0)) (if sharedB n.w n.b = true then n.b.length else 0)) q
  rcases Bool.eq_false_or_eq_true (!(allR n.w n.b a.lo a.hi n.za (decide (n.np > 0)) (if sharedB n.w n.b = true then n.b.length else 0)).all holdB) with hc0 | hc0
  · have gc0 : (allR n.w n.b a.lo a.hi n.za (decide (n.np > 0)) (if sharedB n.w n.b = true then n.b.length else 0)).all holdB = false := by first | exact hc0 | exact of_decide_eq_true hc0 | exact of_decide_eq_false hc0 | simpa [eqNums] using hc0 | (simp [eqNums] at hc0 ⊢; first | done | assumption | omega)
    exact (VC.run (fn := Try.f64) (W := [.r [] [], .r [] [.callr (rO oz0)], .r [] [.callr (rO oz1)], .br true, .r [] []]) (r := AV.tup [AV.agg [i8 0, i8 0], i64 10]) Try.func64 (by kernel_rfl) (.c oz0 <| .c oz1 <| .c hc0 <| .n)).weak (WeakL.refl _) (Weak.tup (.cons (Weak.agg (.cons (Weak.int (show ((0) : Int) = ((sumE n a).fst.lo) from (by (unfold sumE spansN; rw [if_neg (by simp_all)])))) (.cons (Weak.int (show ((0) : Int) = ((sumE n a).fst.hi) from (by (unfold sumE spansN; rw [if_neg (by simp_all)])))) .nil))) (.cons (Weak.int (show ((10) : Int) = ((sumE n a).snd) from (by (unfold sumE spansN; rw [if_neg (by simp_all)])))) .nil)))
  · have gc0 : (allR n.w n.b a.lo a.hi n.za (decide (n.np > 0)) (if sharedB n.w n.b = true then n.b.length else 0)).all holdB = true := by first | exact hc0 | exact of_decide_eq_true hc0 | exact of_decide_eq_false hc0 | simpa [eqNums] using hc0 | (simp [eqNums] at hc0 ⊢; first | done | assumption | omega)
    have oz3 := @both_v (allR n.w n.b a.lo a.hi n.za (decide (n.np > 0)) (if sharedB n.w n.b = true then n.b.length else 0)) q
    have oz4 := @after_v (bothR (allR n.w n.b a.lo a.hi n.za (decide (n.np > 0)) (if sharedB n.w n.b = true then n.b.length else 0)) (allR n.w n.b a.lo a.hi n.za (decide (n.np > 0)) (if sharedB n.w n.b = true then n.b.length else 0)).length) (n) ok
    exact (VC.run (fn := Try.f64) (W := [.r [] [], .r [] [.callr (rO oz0)], .r [] [.callr (rO oz1)], .br false, .r [] [.callr (rO oz3), .callr (rO oz4)], .r [] []]) (r := AV.tup [AV.agg [i8 (afterE (bothR (allR n.w n.b a.lo a.hi n.za (decide (n.np > 0)) (if sharedB n.w n.b = true then n.b.length else 0)) (allR n.w n.b a.lo a.hi n.za (decide (n.np > 0)) (if sharedB n.w n.b = true then n.b.length else 0)).length) n).lo, i8 (afterE (bothR (allR n.w n.b a.lo a.hi n.za (decide (n.np > 0)) (if sharedB n.w n.b = true then n.b.length else 0)) (allR n.w n.b a.lo a.hi n.za (decide (n.np > 0)) (if sharedB n.w n.b = true then n.b.length else 0)).length) n).hi], i64 0]) Try.func64 (by kernel_rfl) (.c oz0 <| .c oz1 <| .c hc0 <| .c oz3 <| .c oz4 <| .n)).weak (WeakL.refl _) (Weak.tup (.cons (Weak.agg (.cons (Weak.int (show (((afterE (bothR (allR n.w n.b a.lo a.hi n.za (decide (n.np > 0)) (if sharedB n.w n.b = true then n.b.length else 0)) (allR n.w n.b a.lo a.hi n.za (decide (n.np > 0)) (if sharedB n.w n.b = true then n.b.length else 0)).length) n).lo) : Int) = ((sumE n a).fst.lo) from (by (rw [sumE_y (by assumption)] <;> rfl)))) (.cons (Weak.int (show (((afterE (bothR (allR n.w n.b a.lo a.hi n.za (decide (n.np > 0)) (if sharedB n.w n.b = true then n.b.length else 0)) (allR n.w n.b a.lo a.hi n.za (decide (n.np > 0)) (if sharedB n.w n.b = true then n.b.length else 0)).length) n).hi) : Int) = ((sumE n a).fst.hi) from (by (rw [sumE_y (by assumption)] <;> rfl)))) .nil))) (.cons (Weak.int (show ((0) : Int) = ((sumE n a).snd) from (by (rw [sumE_y (by assumption)] <;> rfl)))) .nil)))
end Go.Proofs.Ytdmomnaoegkpiaa

