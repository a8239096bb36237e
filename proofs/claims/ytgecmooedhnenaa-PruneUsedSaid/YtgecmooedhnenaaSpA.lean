/- The ranges of a node's rows, whether they hold, from where to where they go. No condition. -/
import Derived.Test.YtgecmooedhnenaaSp
namespace Go.Proofs.Ytgecmooedhnenaa
open Go.RowKit
set_option linter.unusedSimpArgs false
set_option linter.unusedVariables false
set_option linter.unnecessarySimpa false

/-- The range of the row o. -/
def spRow (w : List Int) (b : List Int) (lo hi z : Int) (g : Bool) (o : Nat) : Rng :=
  rowR (List.take ((((o : Int) + 1) * ((w.length : Int) / (b.length : Int))).toNat - ((o : Int) * ((w.length : Int) / (b.length : Int))).toNat) (List.drop ((o : Int) * ((w.length : Int) / (b.length : Int))).toNat w)) (b.getD o 0) lo hi z g
    (List.take ((((o : Int) + 1) * ((w.length : Int) / (b.length : Int))).toNat - ((o : Int) * ((w.length : Int) / (b.length : Int))).toNat) (List.drop ((o : Int) * ((w.length : Int) / (b.length : Int))).toNat w)).length
/-- All of them; none, where weights can't be shared out. -/
def allR (w : List Int) (b : List Int) (lo hi z : Int) (g : Bool) (k : Nat) : List Rng := (List.range k).map (spRow w b lo hi z g)
def sharedB (w b : List Int) : Bool := decide (0 < b.length) && decide ((w.length : Int) % (b.length : Int) = 0)
theorem mem_td {α : Type} {l : List α} {a n : Nat} {v : α} (h : v ∈ List.take n (List.drop a l)) : v ∈ l := List.mem_of_mem_drop (List.mem_of_mem_take h)
theorem share_bd {m n k : Nat} (hk : k < n) : 0 ≤ (k : Int) * ((m : Int) / (n : Int)) ∧ ((k : Int) + 1) * ((m : Int) / (n : Int)) ≤ m ∧ ((k : Int) + 1) * ((m : Int) / (n : Int)) = (k : Int) * ((m : Int) / (n : Int)) + (m : Int) / (n : Int) ∧ 0 ≤ (m : Int) / (n : Int) ∧ (m : Int) / (n : Int) ≤ m := by
  have h0 : 0 ≤ (m : Int) / (n : Int) := Int.ediv_nonneg (by omega) (by omega)
  refine ⟨Int.mul_nonneg (by omega) h0, ?_, by rw [Int.add_mul, Int.one_mul], h0, Int.ediv_le_self _ (by omega)⟩
  have h1 : ((k : Int) + 1) * ((m : Int) / (n : Int)) ≤ (n : Int) * ((m : Int) / (n : Int)) := Int.mul_le_mul_of_nonneg_right (by omega) h0
  have h2 : (n : Int) * ((m : Int) / (n : Int)) ≤ m := Int.mul_ediv_self_le (by omega)
  omega
noncomputable def all_l_I (n : Nod) (lo hi : Int) (k : Nat) : VS := stt 64 [(1, i8 lo), (2, i8 hi), (3, .ptr 3 0 0), (7, i64 ((n.w.length : Int) / (n.b.length : Int))), (8, .own 900), (33, ints .i32 n.b), (34, i64 n.b.length), (35, i64 k)] [(3, .var (nodC n)), (900, .slc 256 2 ((allR n.w n.b lo hi n.za (decide (n.np > 0)) k).map rngC))]
noncomputable def all_l_Z (n : Nod) (lo hi : Int) : VS := all_l_I n lo hi (n.b.length)
set_option maxRecDepth 100000 in
set_option maxHeartbeats 2000000 in
theorem all_l_s (n : Nod) (lo hi : Int) (ok : n.Ok) (h1 : In8 lo) (h2 : In8 hi) (wl : n.w.length ≤ 100000) (bl : n.b.length ≤ 100000) (b0 : 0 < n.b.length) (k : Nat) (hk : k < n.b.length) : VT Try.prog (fnC Try.f190 [1, 1, 1, 1, 0, 1, 0, 0]) (all_l_I n lo hi k) .normal (all_l_I n lo hi (k + 1)) := by
  have q1 := share_bd (m := n.w.length) hk
  have q2 := gt32 ok.b k
  have q3 : (allR n.w n.b lo hi n.za (decide (n.np > 0)) k).length = k := by simp [allR]
  have oz3 := (IntWalk.i64_in ((↑k : Int) * ((↑n.w.length : Int) / (↑n.b.length : Int))) (by omega))
  have oz4 := (IntWalk.i64_in ((↑k : Int) + 1) (by omega))
  have oz5 := (IntWalk.i64_in (((↑k : Int) + 1) * ((↑n.w.length : Int) / (↑n.b.length : Int))) (by omega))
  have oz11 := @row_v (List.take ((((↑k : Int) + 1) * ((↑n.w.length : Int) / (↑n.b.length : Int))).toNat - ((↑k : Int) * ((↑n.w.length : Int) / (↑n.b.length : Int))).toNat) (List.drop ((↑k : Int) * ((↑n.w.length : Int) / (↑n.b.length : Int))).toNat n.w)) (n.b.getD k 0) (lo) (hi) (n.za) (decide (n.np > 0)) (by (exact fun v hv => ok.w v (mem_td hv))) (by (rw [List.length_take, List.length_drop]; omega)) q2 h1 h2 (by (exact ok.za))
  exact VT.run (W := [.r [] [], .br true, .r [] [.row [i32 (n.b.getD k 0)]], .r [] [.n (nO oz3), .n (nO oz4), .n (nO oz5), .nats ((↑k : Int) * ((↑n.w.length : Int) / (↑n.b.length : Int))).toNat (((↑k : Int) + 1) * ((↑n.w.length : Int) / (↑n.b.length : Int))).toNat, .call (aO oz11) (rO oz11)], .r [] [.n (nO oz4)]]) (G := [.any (rg [(9, 2), (36, 27)]), .drop [60], .ren 61 900, .weak 35 (i64 (↑(k + 1) : Int)), .blk 900 (Blk.slc 256 2 (List.map rngC (allR n.w n.b lo hi n.za (decide (n.np > 0)) (k + 1)))), .sort]) (by kernel_rfl) (.c (decide_eq_true (p := ((↑k : Int) < (↑n.b.length : Int))) (by omega)) <| .c (show 0 ≤ (↑k : Int) by omega) <| .c (map_at (row1 IntKind.i32) (0) (l := n.b) (i := k) hk) <| .c oz3 <| .c oz4 <| .c oz5 <| .c (show (↑k : Int) * ((↑n.w.length : Int) / (↑n.b.length : Int)) = (↑((↑k : Int) * ((↑n.w.length : Int) / (↑n.b.length : Int))).toNat : Int) by omega) <| .c (show ((↑k : Int) + 1) * ((↑n.w.length : Int) / (↑n.b.length : Int)) = (↑(((↑k : Int) + 1) * ((↑n.w.length : Int) / (↑n.b.length : Int))).toNat : Int) by omega) <| .c (show ((↑k : Int) * ((↑n.w.length : Int) / (↑n.b.length : Int))).toNat ≤ (((↑k : Int) + 1) * ((↑n.w.length : Int) / (↑n.b.length : Int))).toNat by omega) <| .c (show (((↑k : Int) + 1) * ((↑n.w.length : Int) / (↑n.b.length : Int))).toNat ≤ (List.map (row1 IntKind.i8) n.w).length by (simp; omega)) <| .c (show WeakL [AV.sl 1 (List.take ((((↑k : Int) + 1) * ((↑n.w.length : Int) / (↑n.b.length : Int))).toNat - ((↑k : Int) * ((↑n.w.length : Int) / (↑n.b.length : Int))).toNat) (List.drop ((↑k : Int) * ((↑n.w.length : Int) / (↑n.b.length : Int))).toNat (List.map (row1 IntKind.i8) n.w))), i32 (n.b.getD k 0), i8 lo, i8 hi, i8 n.za, bv (decide (n.np > 0))] [AV.sl 1 (List.map (row1 IntKind.i8) (List.take ((((↑k : Int) + 1) * ((↑n.w.length : Int) / (↑n.b.length : Int))).toNat - ((↑k : Int) * ((↑n.w.length : Int) / (↑n.b.length : Int))).toNat) (List.drop ((↑k : Int) * ((↑n.w.length : Int) / (↑n.b.length : Int))).toNat n.w))), i32 (n.b.getD k 0), i8 lo, i8 hi, i8 n.za, bv (decide (n.np > 0))] from (.cons (Weak.rows (rows_to (row1 IntKind.i8) (r := List.take ((((↑k : Int) + 1) * ((↑n.w.length : Int) / (↑n.b.length : Int))).toNat - ((↑k : Int) * ((↑n.w.length : Int) / (↑n.b.length : Int))).toNat) (List.drop ((↑k : Int) * ((↑n.w.length : Int) / (↑n.b.length : Int))).toNat (List.map (row1 IntKind.i8) n.w))) (l := List.take ((((↑k : Int) + 1) * ((↑n.w.length : Int) / (↑n.b.length : Int))).toNat - ((↑k : Int) * ((↑n.w.length : Int) / (↑n.b.length : Int))).toNat) (List.drop ((↑k : Int) * ((↑n.w.length : Int) / (↑n.b.length : Int))).toNat n.w)) (m := List.take ((((↑k : Int) + 1) * ((↑n.w.length : Int) / (↑n.b.length : Int))).toNat - ((↑k : Int) * ((↑n.w.length : Int) / (↑n.b.length : Int))).toNat) (List.drop ((↑k : Int) * ((↑n.w.length : Int) / (↑n.b.length : Int))).toNat n.w)) (by first | (simp only [List.map_append, List.map_cons, List.map_nil, List.map_set, List.map_replicate, List.map_take, List.map_drop]; done) | rfl | (simp only [List.map_append, List.map_cons, List.map_nil, List.map_set, List.map_replicate, List.map_take, List.map_drop]; rfl)) rfl)) (.cons (.refl _) (.cons (.refl _) (.cons (.refl _) (.cons (.refl _) (.cons (.refl _) .nil))))))) <| .c oz11 <| .c (show ((List.map rngC (allR n.w n.b lo hi n.za (decide (n.np > 0)) k)).length + 1) * 16 ≤ 140737488355328 by (simp only [List.length_map] at *; omega)) <| .c (show (List.map rngC (allR n.w n.b lo hi n.za (decide (n.np > 0)) k)).length + 1 ≤ 9223372036854775807 by (simp only [List.length_map] at *; omega)) <| .c oz4 <| .c (Weak.int (k := .i64) (show (((↑k : Int) + 1) : Int) = ((↑(k + 1) : Int)) from (by omega))) <| .c (show BlkW (Blk.slc 256 2 (List.map rngC (allR n.w n.b lo hi n.za (decide (n.np > 0)) k) ++ [[i64 (rowR (List.take ((((↑k : Int) + 1) * ((↑n.w.length : Int) / (↑n.b.length : Int))).toNat - ((↑k : Int) * ((↑n.w.length : Int) / (↑n.b.length : Int))).toNat) (List.drop ((↑k : Int) * ((↑n.w.length : Int) / (↑n.b.length : Int))).toNat n.w)) (n.b.getD k 0) lo hi n.za (decide (n.np > 0)) (List.take ((((↑k : Int) + 1) * ((↑n.w.length : Int) / (↑n.b.length : Int))).toNat - ((↑k : Int) * ((↑n.w.length : Int) / (↑n.b.length : Int))).toNat) (List.drop ((↑k : Int) * ((↑n.w.length : Int) / (↑n.b.length : Int))).toNat n.w)).length).lo, i64 (rowR (List.take ((((↑k : Int) + 1) * ((↑n.w.length : Int) / (↑n.b.length : Int))).toNat - ((↑k : Int) * ((↑n.w.length : Int) / (↑n.b.length : Int))).toNat) (List.drop ((↑k : Int) * ((↑n.w.length : Int) / (↑n.b.length : Int))).toNat n.w)) (n.b.getD k 0) lo hi n.za (decide (n.np > 0)) (List.take ((((↑k : Int) + 1) * ((↑n.w.length : Int) / (↑n.b.length : Int))).toNat - ((↑k : Int) * ((↑n.w.length : Int) / (↑n.b.length : Int))).toNat) (List.drop ((↑k : Int) * ((↑n.w.length : Int) / (↑n.b.length : Int))).toNat n.w)).length).hi]])) (Blk.slc 256 2 (List.map rngC (allR n.w n.b lo hi n.za (decide (n.np > 0)) (k + 1)))) from (BlkW.rows (rows_to (rngC) (r := List.map rngC (allR n.w n.b lo hi n.za (decide (n.np > 0)) k) ++ [[i64 (rowR (List.take ((((↑k : Int) + 1) * ((↑n.w.length : Int) / (↑n.b.length : Int))).toNat - ((↑k : Int) * ((↑n.w.length : Int) / (↑n.b.length : Int))).toNat) (List.drop ((↑k : Int) * ((↑n.w.length : Int) / (↑n.b.length : Int))).toNat n.w)) (n.b.getD k 0) lo hi n.za (decide (n.np > 0)) (List.take ((((↑k : Int) + 1) * ((↑n.w.length : Int) / (↑n.b.length : Int))).toNat - ((↑k : Int) * ((↑n.w.length : Int) / (↑n.b.length : Int))).toNat) (List.drop ((↑k : Int) * ((↑n.w.length : Int) / (↑n.b.length : Int))).toNat n.w)).length).lo, i64 (rowR (List.take ((((↑k : Int) + 1) * ((↑n.w.length : Int) / (↑n.b.length : Int))).toNat - ((↑k : Int) * ((↑n.w.length : Int) / (↑n.b.length : Int))).toNat) (List.drop ((↑k : Int) * ((↑n.w.length : Int) / (↑n.b.length : Int))).toNat n.w)) (n.b.getD k 0) lo hi n.za (decide (n.np > 0)) (List.take ((((↑k : Int) + 1) * ((↑n.w.length : Int) / (↑n.b.length : Int))).toNat - ((↑k : Int) * ((↑n.w.length : Int) / (↑n.b.length : Int))).toNat) (List.drop ((↑k : Int) * ((↑n.w.length : Int) / (↑n.b.length : Int))).toNat n.w)).length).hi]]) (l := allR n.w n.b lo hi n.za (decide (n.np > 0)) k ++ [Rng.mk (rowR (List.take ((((↑k : Int) + 1) * ((↑n.w.length : Int) / (↑n.b.length : Int))).toNat - ((↑k : Int) * ((↑n.w.length : Int) / (↑n.b.length : Int))).toNat) (List.drop ((↑k : Int) * ((↑n.w.length : Int) / (↑n.b.length : Int))).toNat n.w)) (n.b.getD k 0) lo hi n.za (decide (n.np > 0)) (List.take ((((↑k : Int) + 1) * ((↑n.w.length : Int) / (↑n.b.length : Int))).toNat - ((↑k : Int) * ((↑n.w.length : Int) / (↑n.b.length : Int))).toNat) (List.drop ((↑k : Int) * ((↑n.w.length : Int) / (↑n.b.length : Int))).toNat n.w)).length).lo (rowR (List.take ((((↑k : Int) + 1) * ((↑n.w.length : Int) / (↑n.b.length : Int))).toNat - ((↑k : Int) * ((↑n.w.length : Int) / (↑n.b.length : Int))).toNat) (List.drop ((↑k : Int) * ((↑n.w.length : Int) / (↑n.b.length : Int))).toNat n.w)) (n.b.getD k 0) lo hi n.za (decide (n.np > 0)) (List.take ((((↑k : Int) + 1) * ((↑n.w.length : Int) / (↑n.b.length : Int))).toNat - ((↑k : Int) * ((↑n.w.length : Int) / (↑n.b.length : Int))).toNat) (List.drop ((↑k : Int) * ((↑n.w.length : Int) / (↑n.b.length : Int))).toNat n.w)).length).hi]) (m := allR n.w n.b lo hi n.za (decide (n.np > 0)) (k + 1)) (by first | (simp only [List.map_append, List.map_cons, List.map_nil, List.map_set, List.map_replicate, List.map_take, List.map_drop]; done) | rfl | (simp only [List.map_append, List.map_cons, List.map_nil, List.map_set, List.map_replicate, List.map_take, List.map_drop]; rfl) | (simp only [List.map_append, List.map_cons, List.map_nil, List.map_set, List.map_replicate, List.map_take, List.map_drop, rngC, ints]; done)) (show (allR n.w n.b lo hi n.za (decide (n.np > 0)) k ++ [Rng.mk (rowR (List.take ((((↑k : Int) + 1) * ((↑n.w.length : Int) / (↑n.b.length : Int))).toNat - ((↑k : Int) * ((↑n.w.length : Int) / (↑n.b.length : Int))).toNat) (List.drop ((↑k : Int) * ((↑n.w.length : Int) / (↑n.b.length : Int))).toNat n.w)) (n.b.getD k 0) lo hi n.za (decide (n.np > 0)) (List.take ((((↑k : Int) + 1) * ((↑n.w.length : Int) / (↑n.b.length : Int))).toNat - ((↑k : Int) * ((↑n.w.length : Int) / (↑n.b.length : Int))).toNat) (List.drop ((↑k : Int) * ((↑n.w.length : Int) / (↑n.b.length : Int))).toNat n.w)).length).lo (rowR (List.take ((((↑k : Int) + 1) * ((↑n.w.length : Int) / (↑n.b.length : Int))).toNat - ((↑k : Int) * ((↑n.w.length : Int) / (↑n.b.length : Int))).toNat) (List.drop ((↑k : Int) * ((↑n.w.length : Int) / (↑n.b.length : Int))).toNat n.w)) (n.b.getD k 0) lo hi n.za (decide (n.np > 0)) (List.take ((((↑k : Int) + 1) * ((↑n.w.length : Int) / (↑n.b.length : Int))).toNat - ((↑k : Int) * ((↑n.w.length : Int) / (↑n.b.length : Int))).toNat) (List.drop ((↑k : Int) * ((↑n.w.length : Int) / (↑n.b.length : Int))).toNat n.w)).length).hi]) = (allR n.w n.b lo hi n.za (decide (n.np > 0)) (k + 1)) from (by (rw [allR, allR, List.range_succ, List.map_append]; rfl)))))) <| .n)
set_option maxRecDepth 100000 in
set_option maxHeartbeats 2000000 in
theorem all_l_e (n : Nod) (lo hi : Int) (ok : n.Ok) (h1 : In8 lo) (h2 : In8 hi) (wl : n.w.length ≤ 100000) (bl : n.b.length ≤ 100000) (b0 : 0 < n.b.length) : VT Try.prog (fnC Try.f190 [1, 1, 1, 1, 0, 1, 0, 0]) (all_l_I n lo hi (n.b.length)) (.exit 0) (all_l_Z n lo hi) := by
  exact VT.run (W := [.r [] [], .br false]) (G := [.any [36], .sort]) (by kernel_rfl) (.c (decide_eq_false (p := ((↑n.b.length : Int) < (↑n.b.length : Int))) (by omega)) <| .n)
theorem all_l (n : Nod) (lo hi : Int) (ok : n.Ok) (h1 : In8 lo) (h2 : In8 hi) (wl : n.w.length ≤ 100000) (bl : n.b.length ≤ 100000) (b0 : 0 < n.b.length) : VT Try.prog (fnC Try.f190 [1, 1, 1, 1, 0, 1, 0]) (all_l_I n lo hi 0) (.exit 0) (all_l_Z n lo hi) :=
  VT.loop (fun k => all_l_I n lo hi k) (n.b.length) (fun k hk => all_l_s n lo hi ok h1 h2 wl bl b0 k hk) (all_l_e n lo hi ok h1 h2 wl bl b0) (by intro h; cases h)

set_option maxRecDepth 100000 in
set_option maxHeartbeats 2000000 in
theorem all_v (n : Nod) (lo hi : Int) (ok : n.Ok) (h1 : In8 lo) (h2 : In8 hi) (wl : n.w.length ≤ 100000) (bl : n.b.length ≤ 100000) : VC Try.prog 190 ([nod n, i8 lo, i8 hi]) (.sl 2 ((allR n.w n.b lo hi n.za (decide (n.np > 0)) (if sharedB n.w n.b = true then n.b.length else 0)).map rngC)) := by
  have q1 : (n.b.length : Int) ≠ 0 → (0 ≤ (n.w.length : Int) / (n.b.length : Int) ∧ (n.w.length : Int) / (n.b.length : Int) ≤ n.w.length) := fun h => ⟨Int.ediv_nonneg (by omega) (by omega), Int.ediv_le_self _ (by omega)⟩
  have q4 : (n.b.length : Int) ≠ 0 → 0 ≤ (n.w.length : Int) % (n.b.length : Int) ∧ (n.w.length : Int) % (n.b.length : Int) < (n.b.length : Int) := fun h => ⟨Int.emod_nonneg _ h, Int.emod_lt_of_pos _ (by omega)⟩
  have oz0 := (show (!(↑(List.map (row1 IntKind.i32) n.b).length : Int) == 0) = true → (↑(List.map (row1 IntKind.i32) n.b).length : Int) ≠ 0 from (fun hc0 => have gc0 : ¬(↑(List.map (row1 IntKind.i32) n.b).length : Int) = 0 := (by first | exact hc0 | exact of_decide_eq_true hc0 | exact of_decide_eq_false hc0 | simpa [eqNums] using hc0 | (simp [eqNums] at hc0 ⊢; first | done | assumption | omega)); (by with_reducible assumption)))
  have oz1 := (show (!(↑(List.map (row1 IntKind.i32) n.b).length : Int) == 0) = true → (↑(List.map (row1 IntKind.i8) n.w).length : Int).tmod (↑(List.map (row1 IntKind.i32) n.b).length : Int) = (↑(List.map (row1 IntKind.i8) n.w).length : Int) % (↑(List.map (row1 IntKind.i32) n.b).length : Int) from (fun hc0 => have gc0 : ¬(↑(List.map (row1 IntKind.i32) n.b).length : Int) = 0 := (by first | exact hc0 | exact of_decide_eq_true hc0 | exact of_decide_eq_false hc0 | simpa [eqNums] using hc0 | (simp [eqNums] at hc0 ⊢; first | done | assumption | omega)); (Int.tmod_eq_emod_of_nonneg (by omega))))
  rcases Bool.eq_false_or_eq_true ((↑(List.map (row1 IntKind.i32) n.b).length : Int) == 0 || (↑(List.map (row1 IntKind.i8) n.w).length : Int) % (↑(List.map (row1 IntKind.i32) n.b).length : Int) != 0) with hc0 | hc0
  · have gc0 : (↑(List.map (row1 IntKind.i32) n.b).length : Int) = 0 ∨ ¬(↑(List.map (row1 IntKind.i8) n.w).length : Int) % (↑(List.map (row1 IntKind.i32) n.b).length : Int) = 0 := by first | (simp only [Bool.or_eq_true, Bool.or_eq_false_iff, Bool.and_eq_true, Bool.and_eq_false_iff, Bool.not_eq_true', Bool.not_eq_false', decide_eq_true_eq, decide_eq_false_iff_not, beq_iff_eq, bne_iff_ne, ne_eq, beq_eq_false_iff_ne, bne_eq_false_iff_eq, eqNums, Bool.and_true] at hc0; first | exact hc0 | omega) | simpa using hc0 | (simp at hc0 ⊢; omega)
    exact (VC.run (fn := Try.f190) (W := [.r [] [], .r [] [.op false, .op false, .op false, .op false, .op false, .op false, .op true, .n ((↑(List.map (row1 IntKind.i8) n.w).length : Int) % (↑(List.map (row1 IntKind.i32) n.b).length : Int)), .op false, .sel 1], .br true, .r [] []]) (r := AV.lit (Value.slice none 0 0)) Try.func190 (by kernel_rfl) (.c oz0 <| .c oz1 <| .c hc0 <| .n)).weak (WeakL.refl _) (Weak.nilr (show [] = (List.map rngC (allR n.w n.b lo hi n.za (decide (n.np > 0)) (if sharedB n.w n.b = true then n.b.length else 0))) from (by (simp only [List.length_map] at *; simp only [sharedB, Bool.and_eq_true, decide_eq_true_eq]; rw [if_neg (by omega)]; rfl))))
  · have gc0 : ¬(↑(List.map (row1 IntKind.i32) n.b).length : Int) = 0 ∧ (↑(List.map (row1 IntKind.i8) n.w).length : Int) % (↑(List.map (row1 IntKind.i32) n.b).length : Int) = 0 := by first | (simp only [Bool.or_eq_true, Bool.or_eq_false_iff, Bool.and_eq_true, Bool.and_eq_false_iff, Bool.not_eq_true', Bool.not_eq_false', decide_eq_true_eq, decide_eq_false_iff_not, beq_iff_eq, bne_iff_ne, ne_eq, beq_eq_false_iff_ne, bne_eq_false_iff_eq, eqNums, Bool.and_true] at hc0; first | exact hc0 | omega) | simpa using hc0 | (simp at hc0 ⊢; omega)
    have oz4 := (show IntKind.i64.wrap ((↑(List.map (row1 IntKind.i8) n.w).length : Int).tdiv (↑(List.map (row1 IntKind.i32) n.b).length : Int)) = (↑(List.map (row1 IntKind.i8) n.w).length : Int) / (↑(List.map (row1 IntKind.i32) n.b).length : Int) from (Eq.trans (congrArg _ (Int.tdiv_eq_ediv_of_nonneg (by omega))) (by with_reducible exact IntWalk.i64_in _ (by simp only [List.length_map] at *; have := q1 (by omega); omega))))
    have oz5 := (Weak.int (k := .i64) (show (((↑(List.map (row1 IntKind.i8) n.w).length : Int) / (↑(List.map (row1 IntKind.i32) n.b).length : Int)) : Int) = ((↑n.w.length : Int) / (↑n.b.length : Int)) from (by (simp; done))))
    have oz6 := (Weak.int (k := .i64) (show (((↑(List.map (row1 IntKind.i32) n.b).length : Int)) : Int) = ((↑n.b.length : Int)) from (by (simp; done))))
    have oz8 := @all_l (n) (lo) (hi) ok h1 h2 wl bl (by (simp only [List.length_map] at *; omega))
    exact (VC.run (fn := Try.f190) (W := [.r [] [], .r [] [.op false, .op false, .op false, .op false, .op false, .op false, .op true, .n ((↑(List.map (row1 IntKind.i8) n.w).length : Int) % (↑(List.map (row1 IntKind.i32) n.b).length : Int)), .op false, .sel 1], .br false, .r [] [.n ((↑(List.map (row1 IntKind.i8) n.w).length : Int) / (↑(List.map (row1 IntKind.i32) n.b).length : Int))], .r [] [], .r [] [], .code [.any (rg [(0, 1), (6, 1), (11, 5), (24, 9)]), .weak 7 (wO oz5), .weak 34 (wO oz6), .weak 35 (i64 (↑0 : Int)), .nils 8 900 256 2, .sort] (Exit.exit 0) (zO oz8), .r [] []]) (r := AV.sl 2 (List.map rngC (allR n.w n.b lo hi n.za (decide (n.np > 0)) n.b.length))) Try.func190 (by kernel_rfl) (.c oz0 <| .c oz1 <| .c hc0 <| .c (show (↑(List.map (row1 IntKind.i32) n.b).length : Int) ≠ 0 by omega) <| .c oz4 <| .c oz5 <| .c oz6 <| .c (Weak.int (k := .i64) (show ((0) : Int) = ((↑0 : Int)) from (by omega))) <| .c oz8 <| .n)).weak (WeakL.refl _) (Weak.rows (rows_to (rngC) (r := List.map rngC (allR n.w n.b lo hi n.za (decide (n.np > 0)) n.b.length)) (l := allR n.w n.b lo hi n.za (decide (n.np > 0)) n.b.length) (m := allR n.w n.b lo hi n.za (decide (n.np > 0)) (if sharedB n.w n.b = true then n.b.length else 0)) rfl (show (allR n.w n.b lo hi n.za (decide (n.np > 0)) n.b.length) = (allR n.w n.b lo hi n.za (decide (n.np > 0)) (if sharedB n.w n.b = true then n.b.length else 0)) from (by (simp only [List.length_map] at *; simp only [sharedB, Bool.and_eq_true, decide_eq_true_eq]; rw [if_pos (by omega)])))))
def holdB (r : Rng) : Bool := decide (-2147483648 ≤ r.lo) && decide (r.hi ≤ 2147483647)
theorem first_fail {p : Nat → Bool} : ∀ n, (∃ k, k < n ∧ p k = false) → ∃ m, m < n ∧ p m = false ∧ ∀ k, k < m → p k = true
  | 0, ⟨k, h, _⟩ => by omega
  | n + 1, ⟨k, h, hp⟩ => by
    by_cases hq : ∃ k, k < n ∧ p k = false
    · obtain ⟨m, h1, h2, h3⟩ := first_fail n hq; exact ⟨m, by omega, h2, h3⟩
    · have hk : k = n := by
        apply Classical.byContradiction; intro hne; exact hq ⟨k, by omega, hp⟩
      subst hk
      refine ⟨k, by omega, hp, fun j hj => ?_⟩
      cases hpj : p j with
      | true => rfl
      | false => exact absurd ⟨j, hj, hpj⟩ hq
/-- What holds of all places, or the first place where it does not. -/
theorem all_or (p : Nat → Bool) (n : Nat) : (∀ k, k < n → p k = true) ∨ ∃ m, m < n ∧ p m = false ∧ ∀ k, k < m → p k = true := by
  by_cases hq : ∃ k, k < n ∧ p k = false
  · exact .inr (first_fail n hq)
  · refine .inl fun k hk => ?_
    cases hpk : p k with
    | true => rfl
    | false => exact absurd ⟨k, hk, hpk⟩ hq
theorem all_getD {α : Type} [Inhabited α] {l : List α} {p : α → Bool} : l.all p = true ↔ ∀ k, k < l.length → p (l.getD k default) = true := by
  rw [List.all_eq_true]
  constructor
  · intro h k hk
    rw [List.getD_eq_getElem?_getD, List.getElem?_eq_getElem hk]; exact h _ (List.getElem_mem hk)
  · intro h x hx
    obtain ⟨i, hi, rfl⟩ := List.getElem_of_mem hx
    have := h i hi
    rwa [List.getD_eq_getElem?_getD, List.getElem?_eq_getElem hi] at this
noncomputable def holds_ly_I (l : List Rng) (k : Nat) : VS := stt 20 [(5, .sl 2 (l.map rngC)), (6, i64 l.length), (7, i64 k)] []
noncomputable def holds_ly_Z (l : List Rng) : VS := holds_ly_I l (l.length)
set_option maxRecDepth 100000 in
set_option maxHeartbeats 2000000 in
theorem holds_ly_s (l : List Rng) (hl : l.length ≤ 1000000) (h : ∀ k, k < l.length → holdB (l.getD k default) = true) (k : Nat) (hk : k < l.length) : VT Try.prog (fnC Try.f191 [1, 0, 1, 0, 0]) (holds_ly_I l k) .normal (holds_ly_I l (k + 1)) := by
  have q := h k hk
  simp only [holdB, Bool.and_eq_true, decide_eq_true_eq] at q
  have oz2 := (map_at (rngC) (default) (l := l) (i := k) hk)
  have oz3 := (decide_eq_false (p := ((l.getD k default).lo < -2147483648)) (by omega))
  exact VT.run (W := [.r [] [], .br true, .r [] [.row (sO oz2)], .r [] [.br true, .br true, .br true, .br false], .br false, .r [] [.n ((↑k : Int) + 1)]]) (G := [.any (rg [(4, 1), (8, 12)]), .drop [4], .weak 7 (i64 (↑(k + 1) : Int)), .sort]) (by kernel_rfl) (.c (decide_eq_true (p := ((↑k : Int) < (↑l.length : Int))) (by omega)) <| .c (show 0 ≤ (↑k : Int) by omega) <| .c oz2 <| .c oz3 <| .c oz3 <| .c oz3 <| .c oz3 <| .c (decide_eq_false (p := ((l.getD k default).hi > 2147483647)) (by omega)) <| .c (IntWalk.i64_in ((↑k : Int) + 1) (by omega)) <| .c (Weak.int (k := .i64) (show (((↑k : Int) + 1) : Int) = ((↑(k + 1) : Int)) from (by omega))) <| .n)
set_option maxRecDepth 100000 in
set_option maxHeartbeats 2000000 in
theorem holds_ly_e (l : List Rng) (hl : l.length ≤ 1000000) (h : ∀ k, k < l.length → holdB (l.getD k default) = true) : VT Try.prog (fnC Try.f191 [1, 0, 1, 0, 0]) (holds_ly_I l (l.length)) (.exit 0) (holds_ly_Z l) := by
  exact VT.run (W := [.r [] [], .br false]) (G := [.any [8], .sort]) (by kernel_rfl) (.c (decide_eq_false (p := ((↑l.length : Int) < (↑l.length : Int))) (by omega)) <| .n)
theorem holds_ly (l : List Rng) (hl : l.length ≤ 1000000) (h : ∀ k, k < l.length → holdB (l.getD k default) = true) : VT Try.prog (fnC Try.f191 [1, 0, 1, 0]) (holds_ly_I l 0) (.exit 0) (holds_ly_Z l) :=
  VT.loop (fun k => holds_ly_I l k) (l.length) (fun k hk => holds_ly_s l hl h k hk) (holds_ly_e l hl h) (by intro h; cases h)

noncomputable def holds_ln_I (l : List Rng) (m : Nat) (k : Nat) : VS := stt 20 [(5, .sl 2 (l.map rngC)), (6, i64 l.length), (7, i64 k)] []
noncomputable def holds_ln_Z (l : List Rng) (m : Nat) : VS := stt 20 [(2, bv false)] []
set_option maxRecDepth 100000 in
set_option maxHeartbeats 2000000 in
theorem holds_ln_s (l : List Rng) (m : Nat) (hl : l.length ≤ 1000000) (hm : m < l.length) (hf : holdB (l.getD m default) = false) (h : ∀ k, k < m → holdB (l.getD k default) = true) (k : Nat) (hk : k < m) : VT Try.prog (fnC Try.f191 [1, 0, 1, 0, 0]) (holds_ln_I l m k) .normal (holds_ln_I l m (k + 1)) := by
  have q := h k hk
  simp only [holdB, Bool.and_eq_true, decide_eq_true_eq] at q
  have oz2 := (map_at (rngC) (default) (l := l) (i := k) (by omega))
  have oz3 := (decide_eq_false (p := ((l.getD k default).lo < -2147483648)) (by omega))
  exact VT.run (W := [.r [] [], .br true, .r [] [.row (sO oz2)], .r [] [.br true, .br true, .br true, .br false], .br false, .r [] [.n ((↑k : Int) + 1)]]) (G := [.any (rg [(4, 1), (8, 12)]), .drop [4], .weak 7 (i64 (↑(k + 1) : Int)), .sort]) (by kernel_rfl) (.c (decide_eq_true (p := ((↑k : Int) < (↑l.length : Int))) (by omega)) <| .c (show 0 ≤ (↑k : Int) by omega) <| .c oz2 <| .c oz3 <| .c oz3 <| .c oz3 <| .c oz3 <| .c (decide_eq_false (p := ((l.getD k default).hi > 2147483647)) (by omega)) <| .c (IntWalk.i64_in ((↑k : Int) + 1) (by omega)) <| .c (Weak.int (k := .i64) (show (((↑k : Int) + 1) : Int) = ((↑(k + 1) : Int)) from (by omega))) <| .n)
set_option maxRecDepth 100000 in
set_option maxHeartbeats 2000000 in
theorem holds_ln_e (l : List Rng) (m : Nat) (hl : l.length ≤ 1000000) (hm : m < l.length) (hf : holdB (l.getD m default) = false) (h : ∀ k, k < m → holdB (l.getD k default) = true) : VT Try.prog (fnC Try.f191 [1, 0, 1, 0, 0]) (holds_ln_I l m (m)) (.ret) (holds_ln_Z l m) := by
  simp only [holdB, Bool.and_eq_false_iff, decide_eq_false_iff_not] at hf
  have oz2 := (map_at (rngC) (default) (l := l) (i := m) hm)
  exact VT.run (W := [.r [] [], .br true, .r [] [.row (sO oz2)], .r [] [.op false, .op false, .op false, .sel 1], .br true, .r [] []]) (G := [.any (rg [(4, 11), (18, 1)]), .drop [4], .sort]) (by kernel_rfl) (.c (decide_eq_true (p := ((↑m : Int) < (↑l.length : Int))) (by omega)) <| .c (show 0 ≤ (↑m : Int) by omega) <| .c oz2 <| .c (show (decide ((l.getD m default).lo < -2147483648) || decide ((l.getD m default).hi > 2147483647)) = true by (simp at *; omega)) <| .n)
theorem holds_ln (l : List Rng) (m : Nat) (hl : l.length ≤ 1000000) (hm : m < l.length) (hf : holdB (l.getD m default) = false) (h : ∀ k, k < m → holdB (l.getD k default) = true) : VT Try.prog (fnC Try.f191 [1, 0, 1, 0]) (holds_ln_I l m 0) (.ret) (holds_ln_Z l m) :=
  VT.loop (fun k => holds_ln_I l m k) (m) (fun k hk => holds_ln_s l m hl hm hf h k hk) (holds_ln_e l m hl hm hf h) (by intro h; cases h)

set_option maxRecDepth 100000 in
set_option maxHeartbeats 2000000 in
theorem holds_y (l : List Rng) (hl : l.length ≤ 1000000) (h : ∀ k, k < l.length → holdB (l.getD k default) = true) : VC Try.prog 191 ([.sl 2 (l.map rngC)]) (bv true) := by
  have oz2 := @holds_ly (l) hl h
  exact VC.run (fn := Try.f191) (W := [.r [] [], .r [] [], .code [.any [0, 2], .weak 6 (i64 (↑l.length : Int)), .weak 7 (i64 (↑0 : Int)), .sort] (Exit.exit 0) (zO oz2), .r [] []]) Try.func191 (by kernel_rfl) (.c (Weak.int (k := .i64) (show (((↑(List.map rngC l).length : Int)) : Int) = ((↑l.length : Int)) from (by (simp; done)))) <| .c (Weak.int (k := .i64) (show ((0) : Int) = ((↑0 : Int)) from (by omega))) <| .c oz2 <| .n)

set_option maxRecDepth 100000 in
set_option maxHeartbeats 2000000 in
theorem holds_n (l : List Rng) (m : Nat) (hl : l.length ≤ 1000000) (hm : m < l.length) (hf : holdB (l.getD m default) = false) (h : ∀ k, k < m → holdB (l.getD k default) = true) : VC Try.prog 191 ([.sl 2 (l.map rngC)]) (bv false) := by
  have oz2 := @holds_ln (l) (m) hl hm hf h
  exact VC.run (fn := Try.f191) (W := [.r [] [], .r [] [], .code [.any [0, 2], .weak 6 (i64 (↑l.length : Int)), .weak 7 (i64 (↑0 : Int)), .sort] (Exit.ret) (zO oz2)]) Try.func191 (by kernel_rfl) (.c (Weak.int (k := .i64) (show (((↑(List.map rngC l).length : Int)) : Int) = ((↑l.length : Int)) from (by (simp; done)))) <| .c (Weak.int (k := .i64) (show ((0) : Int) = ((↑0 : Int)) from (by omega))) <| .c oz2 <| .n)
theorem holds_v (l : List Rng) (hl : l.length ≤ 1000000) : VC Try.prog 191 [.sl 2 (l.map rngC)] (bv (l.all holdB)) := by
  rcases all_or (fun k => holdB (l.getD k default)) l.length with h | ⟨m, h1, h2, h3⟩
  · rw [all_getD.2 h]; exact holds_y l hl h
  · have : l.all holdB = false := by
      cases e : l.all holdB with
      | false => rfl
      | true => have := all_getD.1 e m h1; exact absurd (this.symm.trans h2) (by simp)
    rw [this]; exact holds_n l m hl h1 h2 h3
def reachLo (l : List Int) : Nat → Int
  | 0 => l.getD 0 0
  | k + 1 => min (reachLo l k) (l.getD k 0)
def reachHi (l : List Int) : Nat → Int
  | 0 => l.getD 0 0
  | k + 1 => max (reachHi l k) (l.getD k 0)
theorem reach_in (l : List Int) : ∀ k i, i < k → reachLo l k ≤ l.getD i 0 ∧ l.getD i 0 ≤ reachHi l k
  | 0, i, h => by omega
  | k + 1, i, h => by
    simp only [reachLo, reachHi]
    by_cases e : i = k
    · subst e; omega
    · have := reach_in l k i (by omega); omega
theorem reach8 {l : List Int} (h : ∀ v ∈ l, In8 v) (k : Nat) : In8 (reachLo l k) ∧ In8 (reachHi l k) := by
  induction k with
  | zero => exact ⟨gt8 h 0, gt8 h 0⟩
  | succ k ih =>
    have := gt8 h k
    obtain ⟨⟨a, b⟩, c, d⟩ := ih
    simp only [reachLo, reachHi, In8]; omega
noncomputable def reach_l_I (l : List Int) (k : Nat) : VS := stt 36 [(0, ints .i8 l), (4, i8 (reachLo l k)), (5, i8 (reachHi l k)), (6, i64 k)] []
noncomputable def reach_l_Z (l : List Int) : VS := reach_l_I l (l.length)
set_option maxRecDepth 100000 in
set_option maxHeartbeats 2000000 in
theorem reach_l_s (l : List Int) (hl : l.length ≤ 1000000) (k : Nat) (hk : k < l.length) : VT Try.prog (fnC Try.f15 [1, 1, 1, 0, 1, 0, 0]) (reach_l_I l k) .normal (reach_l_I l (k + 1)) := by
  have oz1 := (show 0 ≤ (↑k : Int) by omega)
  have oz2 := (map_at (row1 IntKind.i8) (0) (l := l) (i := k) hk)
  have oz6 := (Weak.int (k := .i8) (show ((if l.getD k 0 < reachLo l k then l.getD k 0 else reachLo l k) : Int) = (reachLo l (k + 1)) from (by (simp only [reachLo, reachHi]; split <;> omega))))
  have oz7 := (Weak.int (k := .i8) (show ((if l.getD k 0 > reachHi l k then l.getD k 0 else reachHi l k) : Int) = (reachHi l (k + 1)) from (by (simp only [reachLo, reachHi]; split <;> omega))))
  exact VT.run (W := [.r [] [], .br true, .r [] [.row (sO oz2)], .r [] [.row (sO oz2)], .r [] [.n ((↑k : Int) + 1)]]) (G := [.any (rg [(16, 18)]), .weak 4 (wO oz6), .weak 5 (wO oz7), .weak 6 (i64 (↑(k + 1) : Int)), .sort]) (by kernel_rfl) (.c (show decide ((↑k : Int) < (↑(List.map (row1 IntKind.i8) l).length : Int)) = true by (simp; omega)) <| .c oz1 <| .c oz2 <| .c oz1 <| .c oz2 <| .c (IntWalk.i64_in ((↑k : Int) + 1) (by omega)) <| .c oz6 <| .c oz7 <| .c (Weak.int (k := .i64) (show (((↑k : Int) + 1) : Int) = ((↑(k + 1) : Int)) from (by omega))) <| .n)
set_option maxRecDepth 100000 in
set_option maxHeartbeats 2000000 in
theorem reach_l_e (l : List Int) (hl : l.length ≤ 1000000) : VT Try.prog (fnC Try.f15 [1, 1, 1, 0, 1, 0, 0]) (reach_l_I l (l.length)) (.exit 0) (reach_l_Z l) := by
  exact VT.run (W := [.r [] [], .br false]) (G := [.any (rg [(16, 4)]), .sort]) (by kernel_rfl) (.c (show decide ((↑l.length : Int) < (↑(List.map (row1 IntKind.i8) l).length : Int)) = false by (simp; done)) <| .n)
theorem reach_l (l : List Int) (hl : l.length ≤ 1000000) : VT Try.prog (fnC Try.f15 [1, 1, 1, 0, 1, 0]) (reach_l_I l 0) (.exit 0) (reach_l_Z l) :=
  VT.loop (fun k => reach_l_I l k) (l.length) (fun k hk => reach_l_s l hl k hk) (reach_l_e l hl) (by intro h; cases h)

set_option maxRecDepth 100000 in
set_option maxHeartbeats 2000000 in
theorem reach_v (l : List Int) (hl : l.length ≤ 1000000) : VC Try.prog 15 ([ints .i8 l]) (.tup [i8 (reachLo l l.length), i8 (reachHi l l.length)]) := by
  rcases Bool.eq_false_or_eq_true ((↑(List.map (row1 IntKind.i8) l).length : Int) == 0) with hc0 | hc0
  · have gc0 : (↑(List.map (row1 IntKind.i8) l).length : Int) = 0 := bet hc0
    exact (VC.run (fn := Try.f15) (W := [.r [] [], .r [] [], .br true, .r [] []]) (r := AV.tup [i8 0, i8 0]) Try.func15 (by kernel_rfl) (.c hc0 <| .n)).weak (WeakL.refl _) (Weak.tup (.cons (Weak.int (show ((0) : Int) = (reachLo l l.length) from (by (have : l = [] := List.eq_nil_of_length_eq_zero (by simp only [List.length_map] at *; omega); subst this; rfl)))) (.cons (Weak.int (show ((0) : Int) = (reachHi l l.length) from (by (have : l = [] := List.eq_nil_of_length_eq_zero (by simp only [List.length_map] at *; omega); subst this; rfl)))) .nil)))
  · have gc0 : ¬(↑(List.map (row1 IntKind.i8) l).length : Int) = 0 := bef hc0
    have oz1 := (show (0 : Int) ≤ (0 : Int) by omega)
    have oz2 := (map_at (row1 IntKind.i8) (0) (l := l) (i := 0) (by (simp only [List.length_map] at *; omega)))
    have oz8 := @reach_l (l) hl
    exact VC.run (fn := Try.f15) (W := [.r [] [], .r [] [], .br false, .r [] [.row (sO oz2), .row (sO oz2)], .r [] [], .code [.any (rg [(2, 2), (7, 9)]), .weak 4 (i8 (reachLo l 0)), .weak 5 (i8 (reachHi l 0)), .weak 6 (i64 (↑0 : Int)), .sort] (Exit.exit 0) (zO oz8), .r [] []]) Try.func15 (by kernel_rfl) (.c hc0 <| .c oz1 <| .c oz2 <| .c oz1 <| .c oz2 <| .c (Weak.int (k := .i8) (show ((l.getD 0 0) : Int) = (reachLo l 0) from (by rfl))) <| .c (Weak.int (k := .i8) (show ((l.getD 0 0) : Int) = (reachHi l 0) from (by rfl))) <| .c (Weak.int (k := .i64) (show ((0) : Int) = ((↑0 : Int)) from (by omega))) <| .c oz8 <| .n)
end Go.Proofs.Ytgecmooedhnenaa

