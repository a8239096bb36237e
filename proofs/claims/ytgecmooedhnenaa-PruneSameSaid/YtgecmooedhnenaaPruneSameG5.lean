/- Texts of this claim, put together: RnD, RnE, Gs2, Gs3, RnF, PrM, GrM, FuM, FuI, FuV, Vc, PrA, PrB, PrC. No condition. -/
import Derived.Test.YtgecmooedhnenaaPruneSameG4
set_option linter.unusedVariables false
set_option linter.unusedSimpArgs false
set_option linter.unnecessarySimpa false
/- Numbers one by one, two tensors as one, and what any node makes, by the document. No condition. -/
namespace Go.Proofs.Ytgecmooedhnenaa
open Go.RowKit
set_option linter.unusedSimpArgs false
set_option linter.unusedVariables false
set_option linter.unnecessarySimpa false

theorem map_take {α β : Type} (f : α → β) (l : List α) (d : α) {k : Nat} (hk : k < l.length) : (l.take (k + 1)).map f = (l.take k).map f ++ [f (l.getD k d)] := by
  rw [List.take_add_one, List.getD_eq_getElem?_getD, List.getElem?_eq_getElem hk]; simp only [Option.toList_some, List.map_append, List.map_cons, List.map_nil, Option.getD_some]
/-- Each number becomes another one. -/
def actOf (T : Ten) (n : Nod) : Ten × Int := if tenRight T = false then (ten0, 5) else if rightQ n.qm n.qs = false then (ten0, 7) else (⟨T.h, T.x, T.c, T.d.map fun v => oneN v n⟩, 0)
noncomputable def ract_l_I (T : Ten) (n : Nod) (k : Nat) : VS := stt 40 [(2, .ptr 2 0 0), (3, .ptr 3 0 0), (4, .ptr 4 0 0), (6, .ptr 6 0 0), (7, i64 k)] [(2, .var [i64 T.h, i64 T.x, i64 T.c, ints .i8 T.d]), (3, .var (nodC n)), (4, .var [i64 0, i64 0, i64 0, nilv]), (6, .var [i64 T.h, i64 T.x, i64 T.c, .own 900]), (900, .slc 30 1 (((T.d.take k).map fun v => oneN v n).map (row1 .i8)))]
noncomputable def ract_l_Z (T : Ten) (n : Nod) : VS := ract_l_I T n (T.d.length)
set_option maxRecDepth 100000 in
set_option maxHeartbeats 2000000 in
theorem ract_l_s (T : Ten) (n : Nod) (ok : T.Ok) (okn : n.Ok) (hl : T.d.length ≤ 1024) (k : Nat) (hk : k < T.d.length) : VT Try.prog (fnC Try.f134 [1, 1, 1, 1, 0, 1, 0, 0]) (ract_l_I T n k) .normal (ract_l_I T n (k + 1)) := by
  have g1 := gt8 ok.d k
  have g2 := map_take (fun v => oneN v n) T.d 0 hk
  have g3 : (List.map (row1 .i8) ((T.d.take k).map fun v => oneN v n)).length = k := by rw [List.length_map, List.length_map, List.length_take]; omega
  have oz3 := @refActOne_v (T.d.getD k 0) (n) okn g1
  exact VT.run (W := [.r [] [], .br true, .r [] [.row [i8 (T.d.getD k 0)], .callr (rO oz3)], .r [] [.n ((↑k : Int) + 1)]]) (G := [.any (rg [(20, 19)]), .drop [36], .ren 37 900, .weak 7 (i64 (↑(k + 1) : Int)), .blk 900 (Blk.slc 30 1 (List.map (row1 IntKind.i8) (List.map (fun (v : Int) => oneN v n) (List.take (k + 1) T.d)))), .sort]) (by kernel_rfl) (.c (show decide ((↑k : Int) < (↑(List.map (row1 IntKind.i8) T.d).length : Int)) = true by (simp; omega)) <| .c (show 0 ≤ (↑k : Int) by omega) <| .c (map_at (row1 IntKind.i8) (0) (l := T.d) (i := k) hk) <| .c oz3 <| .c (show ((List.map (row1 IntKind.i8) (List.map (fun (v : Int) => oneN v n) (List.take k T.d))).length + 1) * 1 ≤ 140737488355328 by omega) <| .c (show (List.map (row1 IntKind.i8) (List.map (fun (v : Int) => oneN v n) (List.take k T.d))).length + 1 ≤ 9223372036854775807 by omega) <| .c (IntWalk.i64_in ((↑k : Int) + 1) (by omega)) <| .c (Weak.int (k := .i64) (show (((↑k : Int) + 1) : Int) = ((↑(k + 1) : Int)) from (by omega))) <| .c (show BlkW (Blk.slc 30 1 (List.map (row1 IntKind.i8) (List.map (fun (v : Int) => oneN v n) (List.take k T.d)) ++ [[i8 (oneN (T.d.getD k 0) n)]])) (Blk.slc 30 1 (List.map (row1 IntKind.i8) (List.map (fun (v : Int) => oneN v n) (List.take (k + 1) T.d)))) from (BlkW.rows (rows_to (row1 IntKind.i8) (r := List.map (row1 IntKind.i8) (List.map (fun (v : Int) => oneN v n) (List.take k T.d)) ++ [[i8 (oneN (T.d.getD k 0) n)]]) (l := List.map (fun (v : Int) => oneN v n) (List.take k T.d) ++ [oneN (T.d.getD k 0) n]) (m := List.map (fun (v : Int) => oneN v n) (List.take (k + 1) T.d)) (by first | (simp only [List.map_append, List.map_cons, List.map_nil, List.map_set, List.map_replicate, List.map_take, List.map_drop]; done) | rfl | (simp only [List.map_append, List.map_cons, List.map_nil, List.map_set, List.map_replicate, List.map_take, List.map_drop]; rfl)) (show (List.map (fun (v : Int) => oneN v n) (List.take k T.d) ++ [oneN (T.d.getD k 0) n]) = (List.map (fun (v : Int) => oneN v n) (List.take (k + 1) T.d)) from (by (rw [g2])))))) <| .n)
set_option maxRecDepth 100000 in
set_option maxHeartbeats 2000000 in
theorem ract_l_e (T : Ten) (n : Nod) (ok : T.Ok) (okn : n.Ok) (hl : T.d.length ≤ 1024) : VT Try.prog (fnC Try.f134 [1, 1, 1, 1, 0, 1, 0, 0]) (ract_l_I T n (T.d.length)) (.exit 0) (ract_l_Z T n) := by
  exact VT.run (W := [.r [] [], .br false]) (G := [.any (rg [(20, 5)]), .sort]) (by kernel_rfl) (.c (show decide ((↑T.d.length : Int) < (↑(List.map (row1 IntKind.i8) T.d).length : Int)) = false by (simp; done)) <| .n)
theorem ract_l (T : Ten) (n : Nod) (ok : T.Ok) (okn : n.Ok) (hl : T.d.length ≤ 1024) : VT Try.prog (fnC Try.f134 [1, 1, 1, 1, 0, 1, 0]) (ract_l_I T n 0) (.exit 0) (ract_l_Z T n) :=
  VT.loop (fun k => ract_l_I T n k) (T.d.length) (fun k hk => ract_l_s T n ok okn hl k hk) (ract_l_e T n ok okn hl) (by intro h; cases h)

set_option maxRecDepth 100000 in
set_option maxHeartbeats 2000000 in
theorem ract_v (T : Ten) (n : Nod) (ok : T.Ok) (okn : n.Ok) : VC Try.prog 134 ([ten .i8 T, nod n]) (.tup [ten .i8 (actOf T n).1, i64 (actOf T n).2]) := by
  have g1 := @tenRight.rt T
  have g2 := fun h => (g1 h).dl
  have g3 := fun h => (g1 h).el
  have gk : (!tenRight T) = false → T.d.length ≤ 1024 := fun h => by
    have h1 : tenRight T = true := by cases e : tenRight T with
      | true => rfl
      | false => rw [e] at h; cases h
    have := g2 h1; have := g3 h1; omega
  have oz0 := @refTRight_v (T) ok
  rcases Bool.eq_false_or_eq_true (!tenRight T) with hc0 | hc0
  · have gc0 : tenRight T = false := by first | exact hc0 | exact of_decide_eq_true hc0 | exact of_decide_eq_false hc0 | simpa [eqNums] using hc0 | (simp [eqNums] at hc0 ⊢; first | done | assumption | omega)
    exact (VC.run (fn := Try.f134) (W := [.r [] [], .r [] [.callr (rO oz0)], .br true, .r [] []]) (r := AV.tup [AV.agg [i64 0, i64 0, i64 0, AV.lit (Value.slice none 0 0)], i64 5]) Try.func134 (by kernel_rfl) (.c oz0 <| .c hc0 <| .n)).weak (WeakL.refl _) (Weak.tup (.cons (Weak.agg (.cons (Weak.int (show ((0) : Int) = ((actOf T n).fst.h) from (by (simp only [actOf]; rw [if_pos (by simp_all)]; first | done | rfl)))) (.cons (Weak.int (show ((0) : Int) = ((actOf T n).fst.x) from (by (simp only [actOf]; rw [if_pos (by simp_all)]; first | done | rfl)))) (.cons (Weak.int (show ((0) : Int) = ((actOf T n).fst.c) from (by (simp only [actOf]; rw [if_pos (by simp_all)]; first | done | rfl)))) (.cons (Weak.nilr (show [] = (List.map (row1 IntKind.i8) (actOf T n).fst.d) from (by (simp only [actOf]; rw [if_pos (by simp_all)]; first | done | rfl)))) .nil))))) (.cons (Weak.int (show ((5) : Int) = ((actOf T n).snd) from (by (simp only [actOf]; rw [if_pos (by simp_all)]; first | done | rfl)))) .nil)))
  · have gc0 : tenRight T = true := by first | exact hc0 | exact of_decide_eq_true hc0 | exact of_decide_eq_false hc0 | simpa [eqNums] using hc0 | (simp [eqNums] at hc0 ⊢; first | done | assumption | omega)
    have oz2 := @refRight_v (n.qm) (n.qs) (n.qz)
    rcases Bool.eq_false_or_eq_true (!rightQ n.qm n.qs) with hc1 | hc1
    · have gc1 : rightQ n.qm n.qs = false := by first | exact hc1 | exact of_decide_eq_true hc1 | exact of_decide_eq_false hc1 | simpa [eqNums] using hc1 | (simp [eqNums] at hc1 ⊢; first | done | assumption | omega)
      exact (VC.run (fn := Try.f134) (W := [.r [] [], .r [] [.callr (rO oz0)], .br false, .r [] [.callr (rO oz2)], .br true, .r [] []]) (r := AV.tup [AV.agg [i64 0, i64 0, i64 0, AV.lit (Value.slice none 0 0)], i64 7]) Try.func134 (by kernel_rfl) (.c oz0 <| .c hc0 <| .c oz2 <| .c hc1 <| .n)).weak (WeakL.refl _) (Weak.tup (.cons (Weak.agg (.cons (Weak.int (show ((0) : Int) = ((actOf T n).fst.h) from (by (simp only [actOf]; rw [if_neg (by simp_all), if_pos (by simp_all)]; first | done | rfl)))) (.cons (Weak.int (show ((0) : Int) = ((actOf T n).fst.x) from (by (simp only [actOf]; rw [if_neg (by simp_all), if_pos (by simp_all)]; first | done | rfl)))) (.cons (Weak.int (show ((0) : Int) = ((actOf T n).fst.c) from (by (simp only [actOf]; rw [if_neg (by simp_all), if_pos (by simp_all)]; first | done | rfl)))) (.cons (Weak.nilr (show [] = (List.map (row1 IntKind.i8) (actOf T n).fst.d) from (by (simp only [actOf]; rw [if_neg (by simp_all), if_pos (by simp_all)]; first | done | rfl)))) .nil))))) (.cons (Weak.int (show ((7) : Int) = ((actOf T n).snd) from (by (simp only [actOf]; rw [if_neg (by simp_all), if_pos (by simp_all)]; first | done | rfl)))) .nil)))
    · have gc1 : rightQ n.qm n.qs = true := by first | exact hc1 | exact of_decide_eq_true hc1 | exact of_decide_eq_false hc1 | simpa [eqNums] using hc1 | (simp [eqNums] at hc1 ⊢; first | done | assumption | omega)
      have oz5 := @ract_l (T) (n) ok okn (by (exact gk (by assumption)))
      exact (VC.run (fn := Try.f134) (W := [.r [] [], .r [] [.callr (rO oz0)], .br false, .r [] [.callr (rO oz2)], .br false, .r [] [], .r [] [], .code [.any [0, 1, 5, 8, 9, 10, 12, 13, 14, 15, 17, 18, 19], .weak 7 (i64 (↑0 : Int)), .nilc 900 30 1 6 3, .sort] (Exit.exit 0) (zO oz5), .r [] []]) (r := AV.tup [AV.agg [i64 T.h, i64 T.x, i64 T.c, AV.sl 1 (List.map (row1 IntKind.i8) (List.map (fun (v : Int) => oneN v n) (List.take T.d.length T.d)))], i64 0]) Try.func134 (by kernel_rfl) (.c oz0 <| .c hc0 <| .c oz2 <| .c hc1 <| .c (Weak.int (k := .i64) (show ((0) : Int) = ((↑0 : Int)) from (by omega))) <| .c oz5 <| .n)).weak (WeakL.refl _) (Weak.tup (.cons (Weak.agg (.cons (Weak.int (show ((T.h) : Int) = ((actOf T n).fst.h) from (by (simp only [actOf]; rw [if_neg (by simp_all), if_neg (by simp_all)]; first | done | rfl)))) (.cons (Weak.int (show ((T.x) : Int) = ((actOf T n).fst.x) from (by (simp only [actOf]; rw [if_neg (by simp_all), if_neg (by simp_all)]; first | done | rfl)))) (.cons (Weak.int (show ((T.c) : Int) = ((actOf T n).fst.c) from (by (simp only [actOf]; rw [if_neg (by simp_all), if_neg (by simp_all)]; first | done | rfl)))) (.cons (Weak.rows (rows_to (row1 IntKind.i8) (r := List.map (row1 IntKind.i8) (List.map (fun (v : Int) => oneN v n) (List.take T.d.length T.d))) (l := List.map (fun (v : Int) => oneN v n) (List.take T.d.length T.d)) (m := (actOf T n).fst.d) rfl (show (List.map (fun (v : Int) => oneN v n) (List.take T.d.length T.d)) = ((actOf T n).fst.d) from (by (simp only [actOf]; rw [if_neg (by simp_all), if_neg (by simp_all), List.take_length]))))) .nil))))) (.cons (Weak.int (show ((0) : Int) = ((actOf T n).snd) from (by (simp only [actOf]; rw [if_neg (by simp_all), if_neg (by simp_all)]; first | done | rfl)))) .nil)))
/-- Sums become numbers. -/
def heldN (n : Nod) (v : Int) : Int := heldQ v n.qm n.qs n.qz n.lo n.hi
noncomputable def rall_l_I (l : List Int) (n : Nod) (k : Nat) : VS := stt 33 [(0, ints .i32 l), (2, i8 n.lo), (3, i8 n.hi), (5, .ptr 5 0 0), (9, .own 900), (10, i64 k)] [(5, .var [i32 n.qm, i64 n.qs, i8 n.qz]), (900, .slc 30 1 (((l.take k).map (heldN n)).map (row1 .i8)))]
noncomputable def rall_l_Z (l : List Int) (n : Nod) : VS := rall_l_I l n (l.length)
set_option maxRecDepth 100000 in
set_option maxHeartbeats 2000000 in
theorem rall_l_s (l : List Int) (n : Nod) (ok : n.Ok) (hl : l.length ≤ 1024) (hd : ∀ v ∈ l, In32 v) (hq : rightQ n.qm n.qs = true) (k : Nat) (hk : k < l.length) : VT Try.prog (fnC Try.f201 [1, 1, 0, 1, 0, 0]) (rall_l_I l n k) .normal (rall_l_I l n (k + 1)) := by
  have g1 := gt32 hd k
  have g2 := map_take (heldN n) l 0 hk
  have g3 : (List.map (row1 .i8) ((l.take k).map (heldN n))).length = k := by rw [List.length_map, List.length_map, List.length_take]; omega
  have g4 : (List.map (row1 .i32) l).length = l.length := List.length_map _
  have ok_qm := ok.qm
  have ok_qz := ok.qz
  have ok_lo := ok.lo
  have ok_hi := ok.hi
  have oz0 := (decide_eq_true (p := ((↑k : Int) < (↑(List.map (row1 IntKind.i32) l).length : Int))) (by omega))
  have oz2 := @refRight_v (n.qm) (n.qs) (n.qz)
  have oz7 := @refHeld_v (l.getD k 0) (n.qm) (n.qs) (n.qz) (n.lo) (n.hi) g1 ok_qm ok_qz ok_lo ok_hi
  exact VT.run (W := [.r [] [.br true, .br true, .callr (rO oz2), .br true], .br true, .r [] [.row [i32 (l.getD k 0)], .callr (rO oz7)], .r [] [.n ((↑k : Int) + 1)]]) (G := [.any (rg [(11, 21)]), .drop [30], .ren 31 900, .weak 10 (i64 (↑(k + 1) : Int)), .blk 900 (Blk.slc 30 1 (List.map (row1 IntKind.i8) (List.map (heldN n) (List.take (k + 1) l)))), .sort]) (by kernel_rfl) (.c oz0 <| .c oz0 <| .c oz2 <| .c oz0 <| .c hq <| .c (show 0 ≤ (↑k : Int) by omega) <| .c (map_at (row1 IntKind.i32) (0) (l := l) (i := k) hk) <| .c oz7 <| .c (show ((List.map (row1 IntKind.i8) (List.map (heldN n) (List.take k l))).length + 1) * 1 ≤ 140737488355328 by omega) <| .c (show (List.map (row1 IntKind.i8) (List.map (heldN n) (List.take k l))).length + 1 ≤ 9223372036854775807 by omega) <| .c (IntWalk.i64_in ((↑k : Int) + 1) (by omega)) <| .c (Weak.int (k := .i64) (show (((↑k : Int) + 1) : Int) = ((↑(k + 1) : Int)) from (by omega))) <| .c (show BlkW (Blk.slc 30 1 (List.map (row1 IntKind.i8) (List.map (heldN n) (List.take k l)) ++ [[i8 (heldQ (l.getD k 0) n.qm n.qs n.qz n.lo n.hi)]])) (Blk.slc 30 1 (List.map (row1 IntKind.i8) (List.map (heldN n) (List.take (k + 1) l)))) from (BlkW.rows (rows_to (row1 IntKind.i8) (r := List.map (row1 IntKind.i8) (List.map (heldN n) (List.take k l)) ++ [[i8 (heldQ (l.getD k 0) n.qm n.qs n.qz n.lo n.hi)]]) (l := List.map (heldN n) (List.take k l) ++ [heldQ (l.getD k 0) n.qm n.qs n.qz n.lo n.hi]) (m := List.map (heldN n) (List.take (k + 1) l)) (by first | (simp only [List.map_append, List.map_cons, List.map_nil, List.map_set, List.map_replicate, List.map_take, List.map_drop]; done) | rfl | (simp only [List.map_append, List.map_cons, List.map_nil, List.map_set, List.map_replicate, List.map_take, List.map_drop]; rfl)) (show (List.map (heldN n) (List.take k l) ++ [heldQ (l.getD k 0) n.qm n.qs n.qz n.lo n.hi]) = (List.map (heldN n) (List.take (k + 1) l)) from (by (rw [g2]; rfl)))))) <| .n)
set_option maxRecDepth 100000 in
set_option maxHeartbeats 2000000 in
theorem rall_l_e (l : List Int) (n : Nod) (ok : n.Ok) (hl : l.length ≤ 1024) (hd : ∀ v ∈ l, In32 v) (hq : rightQ n.qm n.qs = true) : VT Try.prog (fnC Try.f201 [1, 1, 0, 1, 0, 0]) (rall_l_I l n (l.length)) (.exit 0) (rall_l_Z l n) := by
  have g4 : (List.map (row1 .i32) l).length = l.length := List.length_map _
  have oz0 := (show decide ((↑l.length : Int) < (↑(List.map (row1 IntKind.i32) l).length : Int)) = !true by (refine decide_eq_false ?_; omega))
  exact VT.run (W := [.r [] [.br false, .br false, .br false], .br false]) (G := [.any (rg [(11, 8)]), .sort]) (by kernel_rfl) (.c oz0 <| .c oz0 <| .c (decide_eq_false (p := ((↑l.length : Int) < (↑(List.map (row1 IntKind.i32) l).length : Int))) (by omega)) <| .c (show false = false by with_reducible rfl) <| .n)
theorem rall_l (l : List Int) (n : Nod) (ok : n.Ok) (hl : l.length ≤ 1024) (hd : ∀ v ∈ l, In32 v) (hq : rightQ n.qm n.qs = true) : VT Try.prog (fnC Try.f201 [1, 1, 0, 1, 0]) (rall_l_I l n 0) (.exit 0) (rall_l_Z l n) :=
  VT.loop (fun k => rall_l_I l n k) (l.length) (fun k hk => rall_l_s l n ok hl hd hq k hk) (rall_l_e l n ok hl hd hq) (by intro h; cases h)

set_option maxRecDepth 100000 in
set_option maxHeartbeats 2000000 in
theorem rall_v (l : List Int) (n : Nod) (ok : n.Ok) (hl : l.length ≤ 1024) (hd : ∀ v ∈ l, In32 v) (hq : rightQ n.qm n.qs = true) : VC Try.prog 201 ([ints .i32 l, .agg [i32 n.qm, i64 n.qs, i8 n.qz], i8 n.lo, i8 n.hi]) (ints .i8 (l.map (heldN n))) := by
  have oz1 := @rall_l (l) (n) ok hl hd hq
  exact (VC.run (fn := Try.f201) (W := [.r [] [], .r [] [], .r [] [], .code [.any [1, 8], .weak 10 (i64 (↑0 : Int)), .nils 9 900 30 1, .sort] (Exit.exit 0) (zO oz1), .r [] []]) (r := AV.sl 1 (List.map (row1 IntKind.i8) (List.map (heldN n) (List.take l.length l)))) Try.func201 (by kernel_rfl) (.c (Weak.int (k := .i64) (show ((0) : Int) = ((↑0 : Int)) from (by omega))) <| .c oz1 <| .n)).weak (WeakL.refl _) (Weak.rows (rows_to (row1 IntKind.i8) (r := List.map (row1 IntKind.i8) (List.map (heldN n) (List.take l.length l))) (l := List.map (heldN n) (List.take l.length l)) (m := List.map (heldN n) l) rfl (show (List.map (heldN n) (List.take l.length l)) = (List.map (heldN n) l) from (by (simp; done)))))
def putOf (A : Ten) (n : Nod) : Ten × Int := if elems A.h A.x A.c = 0 ∨ elems A.h A.x A.c ≠ (A.d.length : Int) then (ten0, 5) else if rightQ n.qm n.qs = false then (ten0, 7) else (⟨A.h, A.x, A.c, A.d.map (heldN n)⟩, 0)
structure Ten.Ok32 (T : Ten) : Prop where
  h : In64 T.h
  x : In64 T.x
  c : In64 T.c
  d : ∀ v ∈ T.d, In32 v
set_option maxRecDepth 100000 in
set_option maxHeartbeats 2000000 in
theorem rput_v (A : Ten) (n : Nod) (ok : A.Ok32) (okn : n.Ok) : VC Try.prog 138 ([ten .i32 A, nod n]) (.tup [ten .i8 (putOf A n).1, i64 (putOf A n).2]) := by
  obtain ⟨oh, ox, oc, g2⟩ := id ok
  have g1 := elems_in A.h A.x A.c
  have g3 : (List.map (row1 .i32) A.d).length = A.d.length := List.length_map _
  have gk : (elems A.h A.x A.c == 0 || elems A.h A.x A.c != ((List.map (row1 .i32) A.d).length : Int)) = false → A.d.length ≤ 1024 := fun h => by
    simp only [Bool.or_eq_false_iff, bne_eq_false_iff_eq] at h; omega
  have oz0 := @refElems_v (A.h) (A.x) (A.c) oh ox oc
  rcases Bool.eq_false_or_eq_true (elems A.h A.x A.c == 0 || elems A.h A.x A.c != (↑(List.map (row1 IntKind.i32) A.d).length : Int)) with hc0 | hc0
  · have gc0 : elems A.h A.x A.c = 0 ∨ ¬elems A.h A.x A.c = (↑(List.map (row1 IntKind.i32) A.d).length : Int) := by first | (simp only [Bool.or_eq_true, Bool.or_eq_false_iff, Bool.and_eq_true, Bool.and_eq_false_iff, Bool.not_eq_true', Bool.not_eq_false', decide_eq_true_eq, decide_eq_false_iff_not, beq_iff_eq, bne_iff_ne, ne_eq, beq_eq_false_iff_ne, bne_eq_false_iff_eq, eqNums, Bool.and_true] at hc0; first | exact hc0 | omega) | simpa using hc0 | (simp at hc0 ⊢; omega) | (apply Classical.byContradiction; intro hn; simp_all [eqNums]; done) | (apply Classical.byContradiction; intro hn; simp [eqNums] at hc0 hn; omega)
    exact (VC.run (fn := Try.f138) (W := [.r [] [], .r [] [.callr (rO oz0), .op false, .op false, .op false, .callr (rO oz0), .op false, .op false, .op false, .op false, .sel 1], .br true, .r [] []]) (r := AV.tup [AV.agg [i64 0, i64 0, i64 0, AV.lit (Value.slice none 0 0)], i64 5]) Try.func138 (by kernel_rfl) (.c oz0 <| .c oz0 <| .c hc0 <| .n)).weak (WeakL.refl _) (Weak.tup (.cons (Weak.agg (.cons (Weak.int (show ((0) : Int) = ((putOf A n).fst.h) from (by (simp only [putOf]; rw [if_pos (by simp_all)]; first | done | rfl)))) (.cons (Weak.int (show ((0) : Int) = ((putOf A n).fst.x) from (by (simp only [putOf]; rw [if_pos (by simp_all)]; first | done | rfl)))) (.cons (Weak.int (show ((0) : Int) = ((putOf A n).fst.c) from (by (simp only [putOf]; rw [if_pos (by simp_all)]; first | done | rfl)))) (.cons (Weak.nilr (show [] = (List.map (row1 IntKind.i8) (putOf A n).fst.d) from (by (simp only [putOf]; rw [if_pos (by simp_all)]; first | done | rfl)))) .nil))))) (.cons (Weak.int (show ((5) : Int) = ((putOf A n).snd) from (by (simp only [putOf]; rw [if_pos (by simp_all)]; first | done | rfl)))) .nil)))
  · have gc0 : ¬elems A.h A.x A.c = 0 ∧ elems A.h A.x A.c = (↑(List.map (row1 IntKind.i32) A.d).length : Int) := by first | (simp only [Bool.or_eq_true, Bool.or_eq_false_iff, Bool.and_eq_true, Bool.and_eq_false_iff, Bool.not_eq_true', Bool.not_eq_false', decide_eq_true_eq, decide_eq_false_iff_not, beq_iff_eq, bne_iff_ne, ne_eq, beq_eq_false_iff_ne, bne_eq_false_iff_eq, eqNums, Bool.and_true] at hc0; first | exact hc0 | omega) | simpa using hc0 | (simp at hc0 ⊢; omega) | (apply Classical.byContradiction; intro hn; simp_all [eqNums]; done) | (apply Classical.byContradiction; intro hn; simp [eqNums] at hc0 hn; omega)
    have oz3 := @refRight_v (n.qm) (n.qs) (n.qz)
    rcases Bool.eq_false_or_eq_true (!rightQ n.qm n.qs) with hc1 | hc1
    · have gc1 : rightQ n.qm n.qs = false := by first | exact hc1 | exact of_decide_eq_true hc1 | exact of_decide_eq_false hc1 | simpa [eqNums] using hc1 | (simp [eqNums] at hc1 ⊢; first | done | assumption | omega)
      exact (VC.run (fn := Try.f138) (W := [.r [] [], .r [] [.callr (rO oz0), .op false, .op false, .op false, .callr (rO oz0), .op false, .op false, .op false, .op false, .sel 1], .br false, .r [] [.callr (rO oz3)], .br true, .r [] []]) (r := AV.tup [AV.agg [i64 0, i64 0, i64 0, AV.lit (Value.slice none 0 0)], i64 7]) Try.func138 (by kernel_rfl) (.c oz0 <| .c oz0 <| .c hc0 <| .c oz3 <| .c hc1 <| .n)).weak (WeakL.refl _) (Weak.tup (.cons (Weak.agg (.cons (Weak.int (show ((0) : Int) = ((putOf A n).fst.h) from (by (simp only [putOf]; rw [if_neg (by simp_all), if_pos (by simp_all)]; first | done | rfl)))) (.cons (Weak.int (show ((0) : Int) = ((putOf A n).fst.x) from (by (simp only [putOf]; rw [if_neg (by simp_all), if_pos (by simp_all)]; first | done | rfl)))) (.cons (Weak.int (show ((0) : Int) = ((putOf A n).fst.c) from (by (simp only [putOf]; rw [if_neg (by simp_all), if_pos (by simp_all)]; first | done | rfl)))) (.cons (Weak.nilr (show [] = (List.map (row1 IntKind.i8) (putOf A n).fst.d) from (by (simp only [putOf]; rw [if_neg (by simp_all), if_pos (by simp_all)]; first | done | rfl)))) .nil))))) (.cons (Weak.int (show ((7) : Int) = ((putOf A n).snd) from (by (simp only [putOf]; rw [if_neg (by simp_all), if_pos (by simp_all)]; first | done | rfl)))) .nil)))
    · have gc1 : rightQ n.qm n.qs = true := by first | exact hc1 | exact of_decide_eq_true hc1 | exact of_decide_eq_false hc1 | simpa [eqNums] using hc1 | (simp [eqNums] at hc1 ⊢; first | done | assumption | omega)
      have oz5 := @rall_v (A.d) (n) okn (by omega) g2 gc1
      exact (VC.run (fn := Try.f138) (W := [.r [] [], .r [] [.callr (rO oz0), .op false, .op false, .op false, .callr (rO oz0), .op false, .op false, .op false, .op false, .sel 1], .br false, .r [] [.callr (rO oz3)], .br false, .r [] [.callr (rO oz5)]]) (r := AV.tup [AV.agg [i64 A.h, i64 A.x, i64 A.c, AV.sl 1 (List.map (row1 IntKind.i8) (List.map (heldN n) A.d))], i64 0]) Try.func138 (by kernel_rfl) (.c oz0 <| .c oz0 <| .c hc0 <| .c oz3 <| .c hc1 <| .c oz5 <| .n)).weak (WeakL.refl _) (Weak.tup (.cons (Weak.agg (.cons (Weak.int (show ((A.h) : Int) = ((putOf A n).fst.h) from (by (simp only [putOf]; rw [if_neg (by simp_all), if_neg (by simp_all)]; first | done | rfl)))) (.cons (Weak.int (show ((A.x) : Int) = ((putOf A n).fst.x) from (by (simp only [putOf]; rw [if_neg (by simp_all), if_neg (by simp_all)]; first | done | rfl)))) (.cons (Weak.int (show ((A.c) : Int) = ((putOf A n).fst.c) from (by (simp only [putOf]; rw [if_neg (by simp_all), if_neg (by simp_all)]; first | done | rfl)))) (.cons (Weak.rows (rows_to (row1 IntKind.i8) (r := List.map (row1 IntKind.i8) (List.map (heldN n) A.d)) (l := List.map (heldN n) A.d) (m := (putOf A n).fst.d) rfl (show (List.map (heldN n) A.d) = ((putOf A n).fst.d) from (by (simp only [putOf]; rw [if_neg (by simp_all), if_neg (by simp_all)]; first | done | rfl))))) .nil))))) (.cons (Weak.int (show ((0) : Int) = ((putOf A n).snd) from (by (simp only [putOf]; rw [if_neg (by simp_all), if_neg (by simp_all)]; first | done | rfl)))) .nil)))
/-- Two tensors as one. -/
def joinOf (T U : Ten) (n : Nod) : Ten × Int := if (tenRight T && tenRight U && decide (T.h = U.h ∧ T.x = U.x ∧ T.c = U.c)) = false then (ten0, 5) else if (rightQ n.qm n.qs && rightQ n.rm n.rs) = false then (ten0, 7) else (⟨T.h, T.x, T.c, (List.range T.d.length).map fun i => joinE (T.d.getD i 0) (U.d.getD i 0) n⟩, 0)
noncomputable def rjoin_l_I (T U : Ten) (n : Nod) (k : Nat) : VS := stt 65 [(3, .ptr 3 0 0), (4, .ptr 4 0 0), (5, .ptr 5 0 0), (6, .ptr 6 0 0), (8, .ptr 8 0 0), (9, i64 k)] [(3, .var [i64 T.h, i64 T.x, i64 T.c, ints .i8 T.d]), (4, .var [i64 U.h, i64 U.x, i64 U.c, ints .i8 U.d]), (5, .var (nodC n)), (6, .var [i64 0, i64 0, i64 0, nilv]), (8, .var [i64 T.h, i64 T.x, i64 T.c, .own 900]), (900, .slc 30 1 (((List.range k).map fun i => joinE (T.d.getD i 0) (U.d.getD i 0) n).map (row1 .i8)))]
noncomputable def rjoin_l_Z (T U : Ten) (n : Nod) : VS := rjoin_l_I T U n (T.d.length)
set_option maxRecDepth 100000 in
set_option maxHeartbeats 2000000 in
theorem rjoin_l_s (T U : Ten) (n : Nod) (ok : T.Ok) (oku : U.Ok) (okn : n.Ok) (hl : T.d.length ≤ 1024) (hu : U.d.length = T.d.length) (k : Nat) (hk : k < T.d.length) : VT Try.prog (fnC Try.f32 [1, 1, 1, 1, 0, 1, 0, 0]) (rjoin_l_I T U n k) .normal (rjoin_l_I T U n (k + 1)) := by
  have g1 := gt8 ok.d k
  have g2 := gt8 oku.d k
  have g3 : (List.map (row1 .i8) ((List.range k).map fun i => joinE (T.d.getD i 0) (U.d.getD i 0) n)).length = k := by rw [List.length_map, List.length_map, List.length_range]
  have oz1 := (show 0 ≤ (↑k : Int) by omega)
  have oz5 := @refJoinOne_v (T.d.getD k 0) (U.d.getD k 0) (n) okn g1 g2
  exact VT.run (W := [.r [] [], .br true, .r [] [.row [i8 (T.d.getD k 0)], .row [i8 (U.d.getD k 0)], .callr (rO oz5)], .r [] [.n ((↑k : Int) + 1)]]) (G := [.any (rg [(40, 24)]), .drop [61], .ren 62 900, .weak 9 (i64 (↑(k + 1) : Int)), .blk 900 (Blk.slc 30 1 (List.map (row1 IntKind.i8) (List.map (fun (i : Nat) => joinE (T.d.getD i 0) (U.d.getD i 0) n) (List.range (k + 1))))), .sort]) (by kernel_rfl) (.c (show decide ((↑k : Int) < (↑(List.map (row1 IntKind.i8) T.d).length : Int)) = true by (simp; omega)) <| .c oz1 <| .c (map_at (row1 IntKind.i8) (0) (l := T.d) (i := k) hk) <| .c oz1 <| .c (map_at (row1 IntKind.i8) (0) (l := U.d) (i := k) (by omega)) <| .c oz5 <| .c (show ((List.map (row1 IntKind.i8) (List.map (fun (i : Nat) => joinE (T.d.getD i 0) (U.d.getD i 0) n) (List.range k))).length + 1) * 1 ≤ 140737488355328 by omega) <| .c (show (List.map (row1 IntKind.i8) (List.map (fun (i : Nat) => joinE (T.d.getD i 0) (U.d.getD i 0) n) (List.range k))).length + 1 ≤ 9223372036854775807 by omega) <| .c (IntWalk.i64_in ((↑k : Int) + 1) (by omega)) <| .c (Weak.int (k := .i64) (show (((↑k : Int) + 1) : Int) = ((↑(k + 1) : Int)) from (by omega))) <| .c (show BlkW (Blk.slc 30 1 (List.map (row1 IntKind.i8) (List.map (fun (i : Nat) => joinE (T.d.getD i 0) (U.d.getD i 0) n) (List.range k)) ++ [[i8 (joinE (T.d.getD k 0) (U.d.getD k 0) n)]])) (Blk.slc 30 1 (List.map (row1 IntKind.i8) (List.map (fun (i : Nat) => joinE (T.d.getD i 0) (U.d.getD i 0) n) (List.range (k + 1))))) from (BlkW.rows (rows_to (row1 IntKind.i8) (r := List.map (row1 IntKind.i8) (List.map (fun (i : Nat) => joinE (T.d.getD i 0) (U.d.getD i 0) n) (List.range k)) ++ [[i8 (joinE (T.d.getD k 0) (U.d.getD k 0) n)]]) (l := List.map (fun (i : Nat) => joinE (T.d.getD i 0) (U.d.getD i 0) n) (List.range k) ++ [joinE (T.d.getD k 0) (U.d.getD k 0) n]) (m := List.map (fun (i : Nat) => joinE (T.d.getD i 0) (U.d.getD i 0) n) (List.range (k + 1))) (by first | (simp only [List.map_append, List.map_cons, List.map_nil, List.map_set, List.map_replicate, List.map_take, List.map_drop]; done) | rfl | (simp only [List.map_append, List.map_cons, List.map_nil, List.map_set, List.map_replicate, List.map_take, List.map_drop]; rfl)) (show (List.map (fun (i : Nat) => joinE (T.d.getD i 0) (U.d.getD i 0) n) (List.range k) ++ [joinE (T.d.getD k 0) (U.d.getD k 0) n]) = (List.map (fun (i : Nat) => joinE (T.d.getD i 0) (U.d.getD i 0) n) (List.range (k + 1))) from (by (rw [List.range_succ, List.map_append]; rfl)))))) <| .n)
set_option maxRecDepth 100000 in
set_option maxHeartbeats 2000000 in
theorem rjoin_l_e (T U : Ten) (n : Nod) (ok : T.Ok) (oku : U.Ok) (okn : n.Ok) (hl : T.d.length ≤ 1024) (hu : U.d.length = T.d.length) : VT Try.prog (fnC Try.f32 [1, 1, 1, 1, 0, 1, 0, 0]) (rjoin_l_I T U n (T.d.length)) (.exit 0) (rjoin_l_Z T U n) := by
  exact VT.run (W := [.r [] [], .br false]) (G := [.any (rg [(40, 5)]), .sort]) (by kernel_rfl) (.c (show decide ((↑T.d.length : Int) < (↑(List.map (row1 IntKind.i8) T.d).length : Int)) = false by (simp; done)) <| .n)
theorem rjoin_l (T U : Ten) (n : Nod) (ok : T.Ok) (oku : U.Ok) (okn : n.Ok) (hl : T.d.length ≤ 1024) (hu : U.d.length = T.d.length) : VT Try.prog (fnC Try.f32 [1, 1, 1, 1, 0, 1, 0]) (rjoin_l_I T U n 0) (.exit 0) (rjoin_l_Z T U n) :=
  VT.loop (fun k => rjoin_l_I T U n k) (T.d.length) (fun k hk => rjoin_l_s T U n ok oku okn hl hu k hk) (rjoin_l_e T U n ok oku okn hl hu) (by intro h; cases h)

set_option maxRecDepth 100000 in
set_option maxHeartbeats 2000000 in
theorem rjoin_v (T U : Ten) (n : Nod) (ok : T.Ok) (oku : U.Ok) (okn : n.Ok) : VC Try.prog 32 ([ten .i8 T, ten .i8 U, nod n]) (.tup [ten .i8 (joinOf T U n).1, i64 (joinOf T U n).2]) := by
  have g1 := @tenRight.rt T
  have g2 := fun h => (g1 h).dl
  have g3 := fun h => (g1 h).el
  have k1 := @tenRight.rt U
  have k2 := fun h => (k1 h).dl
  have gq : (!rightQ n.qm n.qs || !rightQ n.rm n.rs) = true → (rightQ n.qm n.qs && rightQ n.rm n.rs) = false := by cases rightQ n.qm n.qs <;> cases rightQ n.rm n.rs <;> simp
  have gk : (!tenRight T || !tenRight U || !eqNums [(IntKind.i64, T.h, U.h), (IntKind.i64, T.x, U.x), (IntKind.i64, T.c, U.c)]) = false → T.d.length ≤ 1024 ∧ U.d.length = T.d.length := fun h => by
    simp only [Bool.or_eq_false_iff, Bool.not_eq_false', eqNums, Bool.and_eq_true, beq_iff_eq] at h
    obtain ⟨⟨h1, h2⟩, h3, h4, h5, _⟩ := h
    have a1 := g2 h1; have a2 := g3 h1; have a3 := k2 h2
    rw [← h3, ← h4, ← h5] at a3
    exact ⟨by omega, by omega⟩
  have gj : (!tenRight T || !tenRight U || !eqNums [(IntKind.i64, T.h, U.h), (IntKind.i64, T.x, U.x), (IntKind.i64, T.c, U.c)]) = !(tenRight T && tenRight U && decide (T.h = U.h ∧ T.x = U.x ∧ T.c = U.c)) := by
    have e : eqNums [(IntKind.i64, T.h, U.h), (IntKind.i64, T.x, U.x), (IntKind.i64, T.c, U.c)] = decide (T.h = U.h ∧ T.x = U.x ∧ T.c = U.c) := by
      rw [Bool.eq_iff_iff]; simp [eqNums]
    rw [e]; cases tenRight T <;> cases tenRight U <;> simp
  have gz : (!tenRight T || !tenRight U || !eqNums [(IntKind.i64, T.h, U.h), (IntKind.i64, T.x, U.x), (IntKind.i64, T.c, U.c)]) = true → (tenRight T && tenRight U && decide (T.h = U.h ∧ T.x = U.x ∧ T.c = U.c)) = false := fun h => by rw [gj] at h; simpa only [Bool.not_eq_true'] using h
  have gn : (!tenRight T || !tenRight U || !eqNums [(IntKind.i64, T.h, U.h), (IntKind.i64, T.x, U.x), (IntKind.i64, T.c, U.c)]) = false → ¬ (tenRight T && tenRight U && decide (T.h = U.h ∧ T.x = U.x ∧ T.c = U.c)) = false := fun h => by rw [gj] at h; simp only [Bool.not_eq_false'] at h; rw [h]; simp
  have oz0 := @refTRight_v (T) ok
  have oz1 := @refTRight_v (U) oku
  have oz2 := (show BinTo Try.prog BinOp.neq 24 (Operand.tmp 20) (Operand.tmp 22) (Value.agg #[Value.int IntKind.i64 T.h, Value.int IntKind.i64 T.x, Value.int IntKind.i64 T.c]) (Value.agg #[Value.int IntKind.i64 U.h, Value.int IntKind.i64 U.x, Value.int IntKind.i64 U.c]) (Value.bool !eqNums [(IntKind.i64, T.h, U.h), (IntKind.i64, T.x, U.x), (IntKind.i64, T.c, U.c)]) from ((bin_nums (l := [(IntKind.i64, T.h, U.h), (IntKind.i64, T.x, U.x), (IntKind.i64, T.c, U.c)]) (by kernel_rfl) (by kernel_rfl) (by kernel_rfl) (by kernel_rfl) _ _).2))
  rcases Bool.eq_false_or_eq_true (!tenRight T || !tenRight U || !eqNums [(IntKind.i64, T.h, U.h), (IntKind.i64, T.x, U.x), (IntKind.i64, T.c, U.c)]) with hc0 | hc0
  · have gc0 : (tenRight T = false ∨ tenRight U = false) ∨ ¬(T.h = U.h ∧ T.x = U.x ∧ T.c = U.c) := by first | (simp only [Bool.or_eq_true, Bool.or_eq_false_iff, Bool.and_eq_true, Bool.and_eq_false_iff, Bool.not_eq_true', Bool.not_eq_false', decide_eq_true_eq, decide_eq_false_iff_not, beq_iff_eq, bne_iff_ne, ne_eq, beq_eq_false_iff_ne, bne_eq_false_iff_eq, eqNums, Bool.and_true] at hc0; first | exact hc0 | omega) | simpa using hc0 | (simp at hc0 ⊢; omega) | (apply Classical.byContradiction; intro hn; simp_all [eqNums]; done) | (apply Classical.byContradiction; intro hn; simp [eqNums] at hc0 hn; omega)
    exact (VC.run (fn := Try.f32) (W := [.r [] [], .r [] [.callr (rO oz0), .op false, .op false, .callr (rO oz1), .op false, .sel 1, .op false, .op false, .op false, .op false, .op false, .v (Value.bool !eqNums [(IntKind.i64, T.h, U.h), (IntKind.i64, T.x, U.x), (IntKind.i64, T.c, U.c)]), .sel 1], .br true, .r [] []]) (r := AV.tup [AV.agg [i64 0, i64 0, i64 0, AV.lit (Value.slice none 0 0)], i64 5]) Try.func32 (by kernel_rfl) (.c oz0 <| .c oz1 <| .c oz2 <| .c hc0 <| .n)).weak (WeakL.refl _) (Weak.tup (.cons (Weak.agg (.cons (Weak.int (show ((0) : Int) = ((joinOf T U n).fst.h) from (by (simp only [joinOf]; rw [if_pos (gz (by assumption))]; first | done | rfl)))) (.cons (Weak.int (show ((0) : Int) = ((joinOf T U n).fst.x) from (by (simp only [joinOf]; rw [if_pos (gz (by assumption))]; first | done | rfl)))) (.cons (Weak.int (show ((0) : Int) = ((joinOf T U n).fst.c) from (by (simp only [joinOf]; rw [if_pos (gz (by assumption))]; first | done | rfl)))) (.cons (Weak.nilr (show [] = (List.map (row1 IntKind.i8) (joinOf T U n).fst.d) from (by (simp only [joinOf]; rw [if_pos (gz (by assumption))]; first | done | rfl)))) .nil))))) (.cons (Weak.int (show ((5) : Int) = ((joinOf T U n).snd) from (by (simp only [joinOf]; rw [if_pos (gz (by assumption))]; first | done | rfl)))) .nil)))
  · have gc0 : (tenRight T = true ∧ tenRight U = true) ∧ T.h = U.h ∧ T.x = U.x ∧ T.c = U.c := by first | (simp only [Bool.or_eq_true, Bool.or_eq_false_iff, Bool.and_eq_true, Bool.and_eq_false_iff, Bool.not_eq_true', Bool.not_eq_false', decide_eq_true_eq, decide_eq_false_iff_not, beq_iff_eq, bne_iff_ne, ne_eq, beq_eq_false_iff_ne, bne_eq_false_iff_eq, eqNums, Bool.and_true] at hc0; first | exact hc0 | omega) | simpa using hc0 | (simp at hc0 ⊢; omega) | (apply Classical.byContradiction; intro hn; simp_all [eqNums]; done) | (apply Classical.byContradiction; intro hn; simp [eqNums] at hc0 hn; omega)
    have oz4 := @refRight_v (n.qm) (n.qs) (n.qz)
    have oz5 := @refRight_v (n.rm) (n.rs) (n.rz)
    rcases Bool.eq_false_or_eq_true (!rightQ n.qm n.qs || !rightQ n.rm n.rs) with hc1 | hc1
    · have gc1 : rightQ n.qm n.qs = false ∨ rightQ n.rm n.rs = false := by first | (simp only [Bool.or_eq_true, Bool.or_eq_false_iff, Bool.and_eq_true, Bool.and_eq_false_iff, Bool.not_eq_true', Bool.not_eq_false', decide_eq_true_eq, decide_eq_false_iff_not, beq_iff_eq, bne_iff_ne, ne_eq, beq_eq_false_iff_ne, bne_eq_false_iff_eq, eqNums, Bool.and_true] at hc1; first | exact hc1 | omega) | simpa using hc1 | (simp at hc1 ⊢; omega) | (apply Classical.byContradiction; intro hn; simp_all [eqNums]; done) | (apply Classical.byContradiction; intro hn; simp [eqNums] at hc1 hn; omega)
      exact (VC.run (fn := Try.f32) (W := [.r [] [], .r [] [.callr (rO oz0), .op false, .op false, .callr (rO oz1), .op false, .sel 1, .op false, .op false, .op false, .op false, .op false, .v (Value.bool !eqNums [(IntKind.i64, T.h, U.h), (IntKind.i64, T.x, U.x), (IntKind.i64, T.c, U.c)]), .sel 1], .br false, .r [] [.callr (rO oz4), .op false, .op false, .op false, .callr (rO oz5), .op false, .sel 1], .br true, .r [] []]) (r := AV.tup [AV.agg [i64 0, i64 0, i64 0, AV.lit (Value.slice none 0 0)], i64 7]) Try.func32 (by kernel_rfl) (.c oz0 <| .c oz1 <| .c oz2 <| .c hc0 <| .c oz4 <| .c oz5 <| .c hc1 <| .n)).weak (WeakL.refl _) (Weak.tup (.cons (Weak.agg (.cons (Weak.int (show ((0) : Int) = ((joinOf T U n).fst.h) from (by (simp only [joinOf]; rw [if_neg (gn (by assumption)), if_pos (gq (by assumption))]; first | done | rfl)))) (.cons (Weak.int (show ((0) : Int) = ((joinOf T U n).fst.x) from (by (simp only [joinOf]; rw [if_neg (gn (by assumption)), if_pos (gq (by assumption))]; first | done | rfl)))) (.cons (Weak.int (show ((0) : Int) = ((joinOf T U n).fst.c) from (by (simp only [joinOf]; rw [if_neg (gn (by assumption)), if_pos (gq (by assumption))]; first | done | rfl)))) (.cons (Weak.nilr (show [] = (List.map (row1 IntKind.i8) (joinOf T U n).fst.d) from (by (simp only [joinOf]; rw [if_neg (gn (by assumption)), if_pos (gq (by assumption))]; first | done | rfl)))) .nil))))) (.cons (Weak.int (show ((7) : Int) = ((joinOf T U n).snd) from (by (simp only [joinOf]; rw [if_neg (gn (by assumption)), if_pos (gq (by assumption))]; first | done | rfl)))) .nil)))
    · have gc1 : rightQ n.qm n.qs = true ∧ rightQ n.rm n.rs = true := by first | (simp only [Bool.or_eq_true, Bool.or_eq_false_iff, Bool.and_eq_true, Bool.and_eq_false_iff, Bool.not_eq_true', Bool.not_eq_false', decide_eq_true_eq, decide_eq_false_iff_not, beq_iff_eq, bne_iff_ne, ne_eq, beq_eq_false_iff_ne, bne_eq_false_iff_eq, eqNums, Bool.and_true] at hc1; first | exact hc1 | omega) | simpa using hc1 | (simp at hc1 ⊢; omega) | (apply Classical.byContradiction; intro hn; simp_all [eqNums]; done) | (apply Classical.byContradiction; intro hn; simp [eqNums] at hc1 hn; omega)
      have oz8 := @rjoin_l (T) (U) (n) ok oku okn (by (exact (gk (by assumption)).1)) (by (exact (gk (by assumption)).2))
      exact (VC.run (fn := Try.f32) (W := [.r [] [], .r [] [.callr (rO oz0), .op false, .op false, .callr (rO oz1), .op false, .sel 1, .op false, .op false, .op false, .op false, .op false, .v (Value.bool !eqNums [(IntKind.i64, T.h, U.h), (IntKind.i64, T.x, U.x), (IntKind.i64, T.c, U.c)]), .sel 1], .br false, .r [] [.callr (rO oz4), .op false, .op false, .op false, .callr (rO oz5), .op false, .sel 1], .br false, .r [] [], .r [] [], .code [.any (rg [(0, 3), (7, 1), (10, 4), (17, 2), (24, 1), (26, 5), (35, 1), (37, 3)]), .weak 9 (i64 (↑0 : Int)), .nilc 900 30 1 8 3, .sort] (Exit.exit 0) (zO oz8), .r [] []]) (r := AV.tup [AV.agg [i64 T.h, i64 T.x, i64 T.c, AV.sl 1 (List.map (row1 IntKind.i8) (List.map (fun (i : Nat) => joinE (T.d.getD i 0) (U.d.getD i 0) n) (List.range T.d.length)))], i64 0]) Try.func32 (by kernel_rfl) (.c oz0 <| .c oz1 <| .c oz2 <| .c hc0 <| .c oz4 <| .c oz5 <| .c hc1 <| .c (Weak.int (k := .i64) (show ((0) : Int) = ((↑0 : Int)) from (by omega))) <| .c oz8 <| .n)).weak (WeakL.refl _) (Weak.tup (.cons (Weak.agg (.cons (Weak.int (show ((T.h) : Int) = ((joinOf T U n).fst.h) from (by (simp only [joinOf]; rw [if_neg (gn (by assumption)), if_neg (by cases e1 : rightQ n.qm n.qs <;> cases e2 : rightQ n.rm n.rs <;> simp_all)]; first | done | rfl)))) (.cons (Weak.int (show ((T.x) : Int) = ((joinOf T U n).fst.x) from (by (simp only [joinOf]; rw [if_neg (gn (by assumption)), if_neg (by cases e1 : rightQ n.qm n.qs <;> cases e2 : rightQ n.rm n.rs <;> simp_all)]; first | done | rfl)))) (.cons (Weak.int (show ((T.c) : Int) = ((joinOf T U n).fst.c) from (by (simp only [joinOf]; rw [if_neg (gn (by assumption)), if_neg (by cases e1 : rightQ n.qm n.qs <;> cases e2 : rightQ n.rm n.rs <;> simp_all)]; first | done | rfl)))) (.cons (Weak.rows (rows_to (row1 IntKind.i8) (r := List.map (row1 IntKind.i8) (List.map (fun (i : Nat) => joinE (T.d.getD i 0) (U.d.getD i 0) n) (List.range T.d.length))) (l := List.map (fun (i : Nat) => joinE (T.d.getD i 0) (U.d.getD i 0) n) (List.range T.d.length)) (m := (joinOf T U n).fst.d) rfl (show (List.map (fun (i : Nat) => joinE (T.d.getD i 0) (U.d.getD i 0) n) (List.range T.d.length)) = ((joinOf T U n).fst.d) from (by (simp only [joinOf]; rw [if_neg (gn (by assumption)), if_neg (by cases e1 : rightQ n.qm n.qs <;> cases e2 : rightQ n.rm n.rs <;> simp_all)]; first | done | rfl))))) .nil))))) (.cons (Weak.int (show ((0) : Int) = ((joinOf T U n).snd) from (by (simp only [joinOf]; rw [if_neg (gn (by assumption)), if_neg (by cases e1 : rightQ n.qm n.qs <;> cases e2 : rightQ n.rm n.rs <;> simp_all)]; first | done | rfl)))) .nil)))
end Go.Proofs.Ytgecmooedhnenaa

/- What any node makes of a tensor, or of two, by the document. No condition. -/
namespace Go.Proofs.Ytgecmooedhnenaa
open Go.RowKit
set_option linter.unusedSimpArgs false
set_option linter.unusedVariables false
set_option linter.unnecessarySimpa false

def nodeOf (n : Nod) (A B : Ten) : Ten × Int :=
  if checkE n ≠ 0 then (ten0, checkE n) else if tenRight A = false then (ten0, 5)
  else if n.kd = 4 then poolOf A n true else if n.kd = 5 then poolOf A n false else if n.kd = 6 then joinOf A B n else if n.kd = 7 then actOf A n
  else if n.kd = 8 then (if mayE A n.np ≠ 0 then (ten0, mayE A n.np) else padOf A n.np n.za)
  else if n.kd = 9 then (⟨1, 1, A.d.length, A.d⟩, 0)
  else if (sumOf A n).2 ≠ 0 then (ten0, (sumOf A n).2) else putOf (sumOf A n).1 n
theorem refH_32 (T : Ten) (n : Nod) : ∀ h, ∀ v ∈ refH T n h, In32 v
  | 0 => by simp [refH]
  | h + 1 => by
    have gW : ∀ w, ∀ v ∈ refW T n h w, In32 v := by
      intro w
      induction w with
      | zero => simp [refW]
      | succ w ih =>
        intro v hv
        rw [refW, List.mem_append] at hv
        rcases hv with hv | hv
        · exact ih v hv
        · unfold refO at hv
          obtain ⟨c, _, rfl⟩ := List.mem_map.1 hv
          unfold In32; simp only [IntKind.wrap_i32]; omega
    intro v hv
    rw [refH, List.mem_append] at hv
    rcases hv with hv | hv
    · exact refH_32 T n h v hv
    · exact gW _ v hv
theorem gH_32 {f : Nat → Nat → Nat → Int} (hf : ∀ h w c, In32 (f h w c)) (m x : Nat) : ∀ y, ∀ v ∈ gH f m x y, In32 v
  | 0 => by simp [gH]
  | y + 1 => by
    have gW8 : ∀ w, ∀ v ∈ gW f m y w, In32 v := by
      intro w
      induction w with
      | zero => simp [gW]
      | succ w ih =>
        intro v hv
        rw [gW, List.mem_append] at hv
        rcases hv with hv | hv
        · exact ih v hv
        · unfold gO at hv
          obtain ⟨c, _, rfl⟩ := List.mem_map.1 hv
          exact hf _ _ _
    intro v hv
    rw [gH, List.mem_append] at hv
    rcases hv with hv | hv
    · exact gH_32 hf m x y v hv
    · exact gW8 x v hv
theorem sumOf_ok {T : Ten} {n : Nod} (ok : T.Ok) (okn : n.Ok) : (sumOf T n).1.Ok32 := by
  have z : (ten0 : Ten).Ok32 := ⟨by decide, by decide, by decide, by simp⟩
  unfold sumOf
  split
  · unfold convOf
    split
    · exact z
    · split
      · exact z
      · rename_i h1 h2
        have k : CvOk T n := ⟨ok, okn, by simpa using h1, by simpa using h2⟩
        have nn := k.n
        have h3 := nn.he; have h4 := nn.xe; have h5 := nn.sc; have h6 := nn.o1; have h7 := nn.o2
        exact ⟨by dsimp only; omega, by dsimp only; omega, by dsimp only; omega, by dsimp only; rw [outL_fin k]; exact refH_32 T n _⟩
  · split
    · unfold depthOf
      split
      · exact z
      · split
        · exact z
        · rename_i h1 h2
          have k : DpOk T n := ⟨ok, okn, by simpa using h1, by simpa using h2⟩
          have nn := k.n
          have h3 := nn.he; have h4 := nn.xe; have h5 := nn.sc; have h6 := nn.c1; have h7 := nn.c2
          refine ⟨by dsimp only; omega, by dsimp only; omega, by dsimp only; omega, ?_⟩
          dsimp only; rw [dL_eq k]
          exact gH_32 (fun h w c => by unfold dF In32; simp only [IntKind.wrap_i32]; omega) _ _ _
    · split
      · unfold denseOf
        split
        · exact z
        · split
          · exact z
          · rename_i h1 h2
            obtain ⟨e1, e2, e3, e4, e5, e6, e7⟩ := denseE_ok (t := ⟨T.h, T.x, T.c⟩) (n := n) (by simpa using h2)
            rw [e7]
            refine ⟨by dsimp only; omega, by dsimp only; omega, by dsimp only; omega, ?_⟩
            intro v hv
            unfold lineL at hv
            obtain ⟨c, _, rfl⟩ := List.mem_map.1 hv
            unfold In32; simp only [IntKind.wrap_i32]; omega
      · exact z
set_option maxRecDepth 100000 in
set_option maxHeartbeats 2000000 in
theorem rnode_v (n : Nod) (A B : Ten) (ok : n.Ok) (hw : n.w.length ≤ 100000) (hb : n.b.length ≤ 100000) (okA : A.Ok) (okB : B.Ok) : VC Try.prog 72 ([nod n, ten .i8 A, ten .i8 B]) (.tup [ten .i8 (nodeOf n A B).1, i64 (nodeOf n A B).2]) := by
  have g1 := sumOf_ok okA ok
  have g2 := @tenRight.rt A
  have q2 := ok.kd
  have q3 := ok.np
  have gk : (!tenRight A) = false → TRt A := fun h => g2 (by cases e : tenRight A with
      | true => rfl
      | false => rw [e] at h; cases h)
  have gm : (!tenRight A) = false → (mayE A n.np != 0) = false → 0 ≤ n.np ∧ n.np ≤ 4 := fun h k => by
    have h1 : tenRight A = true := by cases e : tenRight A with
      | true => rfl
      | false => rw [e] at h; cases h
    unfold mayE at k
    rw [if_pos h1] at k
    by_cases h3 : 0 ≤ n.np ∧ n.np ≤ 4
    · exact h3
    · rw [if_neg h3] at k; cases k
  have oz0 := @refCheck_v (n) hw hb q2
  rcases Bool.eq_false_or_eq_true (checkE n != 0) with hc0 | hc0
  · have gc0 : ¬checkE n = 0 := bdt hc0
    exact (VC.run (fn := Try.f72) (W := [.r [] [], .r [] [.callr (rO oz0)], .r [] [], .br true, .r [] []]) (r := AV.tup [AV.agg [i64 0, i64 0, i64 0, AV.lit (Value.slice none 0 0)], i64 (checkE n)]) Try.func72 (by kernel_rfl) (.c oz0 <| .c hc0 <| .n)).weak (WeakL.refl _) (Weak.tup (.cons (Weak.agg (.cons (Weak.int (show ((0) : Int) = ((nodeOf n A B).fst.h) from (by (unfold nodeOf; rw [if_pos (by omega)]; first | done | rfl)))) (.cons (Weak.int (show ((0) : Int) = ((nodeOf n A B).fst.x) from (by (unfold nodeOf; rw [if_pos (by omega)]; first | done | rfl)))) (.cons (Weak.int (show ((0) : Int) = ((nodeOf n A B).fst.c) from (by (unfold nodeOf; rw [if_pos (by omega)]; first | done | rfl)))) (.cons (Weak.nilr (show [] = (List.map (row1 IntKind.i8) (nodeOf n A B).fst.d) from (by (unfold nodeOf; rw [if_pos (by omega)]; first | done | rfl)))) .nil))))) (.cons (Weak.int (show ((checkE n) : Int) = ((nodeOf n A B).snd) from (by (unfold nodeOf; rw [if_pos (by omega)]; first | done | rfl)))) .nil)))
  · have gc0 : checkE n = 0 := bdf hc0
    have oz2 := @refTRight_v (A) okA
    rcases Bool.eq_false_or_eq_true (!tenRight A) with hc1 | hc1
    · have gc1 : tenRight A = false := by first | exact hc1 | exact of_decide_eq_true hc1 | exact of_decide_eq_false hc1 | simpa [eqNums] using hc1 | (simp [eqNums] at hc1 ⊢; first | done | assumption | omega)
      exact (VC.run (fn := Try.f72) (W := [.r [] [], .r [] [.callr (rO oz0)], .r [] [], .br false, .r [] [.callr (rO oz2)], .br true, .r [] []]) (r := AV.tup [AV.agg [i64 0, i64 0, i64 0, AV.lit (Value.slice none 0 0)], i64 5]) Try.func72 (by kernel_rfl) (.c oz0 <| .c hc0 <| .c oz2 <| .c hc1 <| .n)).weak (WeakL.refl _) (Weak.tup (.cons (Weak.agg (.cons (Weak.int (show ((0) : Int) = ((nodeOf n A B).fst.h) from (by (unfold nodeOf; rw [if_neg (by omega), if_pos (by assumption)]; first | done | rfl)))) (.cons (Weak.int (show ((0) : Int) = ((nodeOf n A B).fst.x) from (by (unfold nodeOf; rw [if_neg (by omega), if_pos (by assumption)]; first | done | rfl)))) (.cons (Weak.int (show ((0) : Int) = ((nodeOf n A B).fst.c) from (by (unfold nodeOf; rw [if_neg (by omega), if_pos (by assumption)]; first | done | rfl)))) (.cons (Weak.nilr (show [] = (List.map (row1 IntKind.i8) (nodeOf n A B).fst.d) from (by (unfold nodeOf; rw [if_neg (by omega), if_pos (by assumption)]; first | done | rfl)))) .nil))))) (.cons (Weak.int (show ((5) : Int) = ((nodeOf n A B).snd) from (by (unfold nodeOf; rw [if_neg (by omega), if_pos (by assumption)]; first | done | rfl)))) .nil)))
    · have gc1 : tenRight A = true := by first | exact hc1 | exact of_decide_eq_true hc1 | exact of_decide_eq_false hc1 | simpa [eqNums] using hc1 | (simp [eqNums] at hc1 ⊢; first | done | assumption | omega)
      rcases Bool.eq_false_or_eq_true (n.kd == 4) with hc2 | hc2
      · have gc2 : n.kd = 4 := bet hc2
        have oz5 := @pool_v (A) (n) (true) okA ok
        exact (VC.run (fn := Try.f72) (W := [.r [] [], .r [] [.callr (rO oz0)], .r [] [], .br false, .r [] [.callr (rO oz2)], .br false, .r [] [], .r [] [], .br true, .r [] [.callr (rO oz5)]]) (r := AV.tup [AV.agg [i64 (poolOf A n true).fst.h, i64 (poolOf A n true).fst.x, i64 (poolOf A n true).fst.c, AV.sl 1 (List.map (row1 IntKind.i8) (poolOf A n true).fst.d)], i64 (poolOf A n true).snd]) Try.func72 (by kernel_rfl) (.c oz0 <| .c hc0 <| .c oz2 <| .c hc1 <| .c hc2 <| .c oz5 <| .n)).weak (WeakL.refl _) (Weak.tup (.cons (Weak.agg (.cons (Weak.int (show (((poolOf A n true).fst.h) : Int) = ((nodeOf n A B).fst.h) from (by (unfold nodeOf; rw [if_neg (by omega), if_neg (by rw [‹tenRight A = true›]; simp)]; (repeat first | rw [if_pos (by omega)] | rw [if_neg (by omega)]); first | done | rfl)))) (.cons (Weak.int (show (((poolOf A n true).fst.x) : Int) = ((nodeOf n A B).fst.x) from (by (unfold nodeOf; rw [if_neg (by omega), if_neg (by rw [‹tenRight A = true›]; simp)]; (repeat first | rw [if_pos (by omega)] | rw [if_neg (by omega)]); first | done | rfl)))) (.cons (Weak.int (show (((poolOf A n true).fst.c) : Int) = ((nodeOf n A B).fst.c) from (by (unfold nodeOf; rw [if_neg (by omega), if_neg (by rw [‹tenRight A = true›]; simp)]; (repeat first | rw [if_pos (by omega)] | rw [if_neg (by omega)]); first | done | rfl)))) (.cons (Weak.rows (rows_to (row1 IntKind.i8) (r := List.map (row1 IntKind.i8) (poolOf A n true).fst.d) (l := (poolOf A n true).fst.d) (m := (nodeOf n A B).fst.d) rfl (show ((poolOf A n true).fst.d) = ((nodeOf n A B).fst.d) from (by (unfold nodeOf; rw [if_neg (by omega), if_neg (by rw [‹tenRight A = true›]; simp)]; (repeat first | rw [if_pos (by omega)] | rw [if_neg (by omega)]); first | done | rfl))))) .nil))))) (.cons (Weak.int (show (((poolOf A n true).snd) : Int) = ((nodeOf n A B).snd) from (by (unfold nodeOf; rw [if_neg (by omega), if_neg (by rw [‹tenRight A = true›]; simp)]; (repeat first | rw [if_pos (by omega)] | rw [if_neg (by omega)]); first | done | rfl)))) .nil)))
      · have gc2 : ¬n.kd = 4 := bef hc2
        rcases Bool.eq_false_or_eq_true (n.kd == 5) with hc3 | hc3
        · have gc3 : n.kd = 5 := bet hc3
          have oz6 := @pool_v (A) (n) (false) okA ok
          exact (VC.run (fn := Try.f72) (W := [.r [] [], .r [] [.callr (rO oz0)], .r [] [], .br false, .r [] [.callr (rO oz2)], .br false, .r [] [], .r [] [], .br false, .r [] [], .br true, .r [] [.callr (rO oz6)]]) (r := AV.tup [AV.agg [i64 (poolOf A n false).fst.h, i64 (poolOf A n false).fst.x, i64 (poolOf A n false).fst.c, AV.sl 1 (List.map (row1 IntKind.i8) (poolOf A n false).fst.d)], i64 (poolOf A n false).snd]) Try.func72 (by kernel_rfl) (.c oz0 <| .c hc0 <| .c oz2 <| .c hc1 <| .c hc2 <| .c hc3 <| .c oz6 <| .n)).weak (WeakL.refl _) (Weak.tup (.cons (Weak.agg (.cons (Weak.int (show (((poolOf A n false).fst.h) : Int) = ((nodeOf n A B).fst.h) from (by (unfold nodeOf; rw [if_neg (by omega), if_neg (by rw [‹tenRight A = true›]; simp)]; (repeat first | rw [if_pos (by omega)] | rw [if_neg (by omega)]); first | done | rfl)))) (.cons (Weak.int (show (((poolOf A n false).fst.x) : Int) = ((nodeOf n A B).fst.x) from (by (unfold nodeOf; rw [if_neg (by omega), if_neg (by rw [‹tenRight A = true›]; simp)]; (repeat first | rw [if_pos (by omega)] | rw [if_neg (by omega)]); first | done | rfl)))) (.cons (Weak.int (show (((poolOf A n false).fst.c) : Int) = ((nodeOf n A B).fst.c) from (by (unfold nodeOf; rw [if_neg (by omega), if_neg (by rw [‹tenRight A = true›]; simp)]; (repeat first | rw [if_pos (by omega)] | rw [if_neg (by omega)]); first | done | rfl)))) (.cons (Weak.rows (rows_to (row1 IntKind.i8) (r := List.map (row1 IntKind.i8) (poolOf A n false).fst.d) (l := (poolOf A n false).fst.d) (m := (nodeOf n A B).fst.d) rfl (show ((poolOf A n false).fst.d) = ((nodeOf n A B).fst.d) from (by (unfold nodeOf; rw [if_neg (by omega), if_neg (by rw [‹tenRight A = true›]; simp)]; (repeat first | rw [if_pos (by omega)] | rw [if_neg (by omega)]); first | done | rfl))))) .nil))))) (.cons (Weak.int (show (((poolOf A n false).snd) : Int) = ((nodeOf n A B).snd) from (by (unfold nodeOf; rw [if_neg (by omega), if_neg (by rw [‹tenRight A = true›]; simp)]; (repeat first | rw [if_pos (by omega)] | rw [if_neg (by omega)]); first | done | rfl)))) .nil)))
        · have gc3 : ¬n.kd = 5 := bef hc3
          rcases Bool.eq_false_or_eq_true (n.kd == 6) with hc4 | hc4
          · have gc4 : n.kd = 6 := bet hc4
            have oz7 := @rjoin_v (A) (B) (n) okA okB ok
            exact (VC.run (fn := Try.f72) (W := [.r [] [], .r [] [.callr (rO oz0)], .r [] [], .br false, .r [] [.callr (rO oz2)], .br false, .r [] [], .r [] [], .br false, .r [] [], .br false, .r [] [], .br true, .r [] [.callr (rO oz7)]]) (r := AV.tup [AV.agg [i64 (joinOf A B n).fst.h, i64 (joinOf A B n).fst.x, i64 (joinOf A B n).fst.c, AV.sl 1 (List.map (row1 IntKind.i8) (joinOf A B n).fst.d)], i64 (joinOf A B n).snd]) Try.func72 (by kernel_rfl) (.c oz0 <| .c hc0 <| .c oz2 <| .c hc1 <| .c hc2 <| .c hc3 <| .c hc4 <| .c oz7 <| .n)).weak (WeakL.refl _) (Weak.tup (.cons (Weak.agg (.cons (Weak.int (show (((joinOf A B n).fst.h) : Int) = ((nodeOf n A B).fst.h) from (by (unfold nodeOf; rw [if_neg (by omega), if_neg (by rw [‹tenRight A = true›]; simp)]; (repeat first | rw [if_pos (by omega)] | rw [if_neg (by omega)]); first | done | rfl)))) (.cons (Weak.int (show (((joinOf A B n).fst.x) : Int) = ((nodeOf n A B).fst.x) from (by (unfold nodeOf; rw [if_neg (by omega), if_neg (by rw [‹tenRight A = true›]; simp)]; (repeat first | rw [if_pos (by omega)] | rw [if_neg (by omega)]); first | done | rfl)))) (.cons (Weak.int (show (((joinOf A B n).fst.c) : Int) = ((nodeOf n A B).fst.c) from (by (unfold nodeOf; rw [if_neg (by omega), if_neg (by rw [‹tenRight A = true›]; simp)]; (repeat first | rw [if_pos (by omega)] | rw [if_neg (by omega)]); first | done | rfl)))) (.cons (Weak.rows (rows_to (row1 IntKind.i8) (r := List.map (row1 IntKind.i8) (joinOf A B n).fst.d) (l := (joinOf A B n).fst.d) (m := (nodeOf n A B).fst.d) rfl (show ((joinOf A B n).fst.d) = ((nodeOf n A B).fst.d) from (by (unfold nodeOf; rw [if_neg (by omega), if_neg (by rw [‹tenRight A = true›]; simp)]; (repeat first | rw [if_pos (by omega)] | rw [if_neg (by omega)]); first | done | rfl))))) .nil))))) (.cons (Weak.int (show (((joinOf A B n).snd) : Int) = ((nodeOf n A B).snd) from (by (unfold nodeOf; rw [if_neg (by omega), if_neg (by rw [‹tenRight A = true›]; simp)]; (repeat first | rw [if_pos (by omega)] | rw [if_neg (by omega)]); first | done | rfl)))) .nil)))
          · have gc4 : ¬n.kd = 6 := bef hc4
            rcases Bool.eq_false_or_eq_true (n.kd == 7) with hc5 | hc5
            · have gc5 : n.kd = 7 := bet hc5
              have oz8 := @ract_v (A) (n) okA ok
              exact (VC.run (fn := Try.f72) (W := [.r [] [], .r [] [.callr (rO oz0)], .r [] [], .br false, .r [] [.callr (rO oz2)], .br false, .r [] [], .r [] [], .br false, .r [] [], .br false, .r [] [], .br false, .r [] [], .br true, .r [] [.callr (rO oz8)]]) (r := AV.tup [AV.agg [i64 (actOf A n).fst.h, i64 (actOf A n).fst.x, i64 (actOf A n).fst.c, AV.sl 1 (List.map (row1 IntKind.i8) (actOf A n).fst.d)], i64 (actOf A n).snd]) Try.func72 (by kernel_rfl) (.c oz0 <| .c hc0 <| .c oz2 <| .c hc1 <| .c hc2 <| .c hc3 <| .c hc4 <| .c hc5 <| .c oz8 <| .n)).weak (WeakL.refl _) (Weak.tup (.cons (Weak.agg (.cons (Weak.int (show (((actOf A n).fst.h) : Int) = ((nodeOf n A B).fst.h) from (by (unfold nodeOf; rw [if_neg (by omega), if_neg (by rw [‹tenRight A = true›]; simp)]; (repeat first | rw [if_pos (by omega)] | rw [if_neg (by omega)]); first | done | rfl)))) (.cons (Weak.int (show (((actOf A n).fst.x) : Int) = ((nodeOf n A B).fst.x) from (by (unfold nodeOf; rw [if_neg (by omega), if_neg (by rw [‹tenRight A = true›]; simp)]; (repeat first | rw [if_pos (by omega)] | rw [if_neg (by omega)]); first | done | rfl)))) (.cons (Weak.int (show (((actOf A n).fst.c) : Int) = ((nodeOf n A B).fst.c) from (by (unfold nodeOf; rw [if_neg (by omega), if_neg (by rw [‹tenRight A = true›]; simp)]; (repeat first | rw [if_pos (by omega)] | rw [if_neg (by omega)]); first | done | rfl)))) (.cons (Weak.rows (rows_to (row1 IntKind.i8) (r := List.map (row1 IntKind.i8) (actOf A n).fst.d) (l := (actOf A n).fst.d) (m := (nodeOf n A B).fst.d) rfl (show ((actOf A n).fst.d) = ((nodeOf n A B).fst.d) from (by (unfold nodeOf; rw [if_neg (by omega), if_neg (by rw [‹tenRight A = true›]; simp)]; (repeat first | rw [if_pos (by omega)] | rw [if_neg (by omega)]); first | done | rfl))))) .nil))))) (.cons (Weak.int (show (((actOf A n).snd) : Int) = ((nodeOf n A B).snd) from (by (unfold nodeOf; rw [if_neg (by omega), if_neg (by rw [‹tenRight A = true›]; simp)]; (repeat first | rw [if_pos (by omega)] | rw [if_neg (by omega)]); first | done | rfl)))) .nil)))
            · have gc5 : ¬n.kd = 7 := bef hc5
              rcases Bool.eq_false_or_eq_true (n.kd == 8) with hc6 | hc6
              · have gc6 : n.kd = 8 := bet hc6
                have oz9 := @may_v (A) (n.np) okA
                rcases Bool.eq_false_or_eq_true (mayE A n.np != 0) with hc7 | hc7
                · have gc7 : ¬mayE A n.np = 0 := bdt hc7
                  exact (VC.run (fn := Try.f72) (W := [.r [] [], .r [] [.callr (rO oz0)], .r [] [], .br false, .r [] [.callr (rO oz2)], .br false, .r [] [], .r [] [], .br false, .r [] [], .br false, .r [] [], .br false, .r [] [], .br false, .r [] [], .br true, .r [] [.callr (rO oz9)], .r [] [], .br true, .r [] []]) (r := AV.tup [AV.agg [i64 0, i64 0, i64 0, AV.lit (Value.slice none 0 0)], i64 (mayE A n.np)]) Try.func72 (by kernel_rfl) (.c oz0 <| .c hc0 <| .c oz2 <| .c hc1 <| .c hc2 <| .c hc3 <| .c hc4 <| .c hc5 <| .c hc6 <| .c oz9 <| .c hc7 <| .n)).weak (WeakL.refl _) (Weak.tup (.cons (Weak.agg (.cons (Weak.int (show ((0) : Int) = ((nodeOf n A B).fst.h) from (by (unfold nodeOf; rw [if_neg (by omega), if_neg (by rw [‹tenRight A = true›]; simp)]; (repeat first | rw [if_pos (by omega)] | rw [if_neg (by omega)]); first | done | rfl)))) (.cons (Weak.int (show ((0) : Int) = ((nodeOf n A B).fst.x) from (by (unfold nodeOf; rw [if_neg (by omega), if_neg (by rw [‹tenRight A = true›]; simp)]; (repeat first | rw [if_pos (by omega)] | rw [if_neg (by omega)]); first | done | rfl)))) (.cons (Weak.int (show ((0) : Int) = ((nodeOf n A B).fst.c) from (by (unfold nodeOf; rw [if_neg (by omega), if_neg (by rw [‹tenRight A = true›]; simp)]; (repeat first | rw [if_pos (by omega)] | rw [if_neg (by omega)]); first | done | rfl)))) (.cons (Weak.nilr (show [] = (List.map (row1 IntKind.i8) (nodeOf n A B).fst.d) from (by (unfold nodeOf; rw [if_neg (by omega), if_neg (by rw [‹tenRight A = true›]; simp)]; (repeat first | rw [if_pos (by omega)] | rw [if_neg (by omega)]); first | done | rfl)))) .nil))))) (.cons (Weak.int (show ((mayE A n.np) : Int) = ((nodeOf n A B).snd) from (by (unfold nodeOf; rw [if_neg (by omega), if_neg (by rw [‹tenRight A = true›]; simp)]; (repeat first | rw [if_pos (by omega)] | rw [if_neg (by omega)]); first | done | rfl)))) .nil)))
                · have gc7 : mayE A n.np = 0 := bdf hc7
                  have oz11 := @resize_v (A) (n.np) (n.za) (by (exact gk (by assumption))) (by (exact (gm (by assumption) (by assumption)).1)) (by (exact (gm (by assumption) (by assumption)).2))
                  exact (VC.run (fn := Try.f72) (W := [.r [] [], .r [] [.callr (rO oz0)], .r [] [], .br false, .r [] [.callr (rO oz2)], .br false, .r [] [], .r [] [], .br false, .r [] [], .br false, .r [] [], .br false, .r [] [], .br false, .r [] [], .br true, .r [] [.callr (rO oz9)], .r [] [], .br false, .r [] [.callr (rO oz11)]]) (r := AV.tup [AV.agg [i64 (padOf A n.np n.za).fst.h, i64 (padOf A n.np n.za).fst.x, i64 (padOf A n.np n.za).fst.c, AV.sl 1 (List.map (row1 IntKind.i8) (padOf A n.np n.za).fst.d)], i64 (padOf A n.np n.za).snd]) Try.func72 (by kernel_rfl) (.c oz0 <| .c hc0 <| .c oz2 <| .c hc1 <| .c hc2 <| .c hc3 <| .c hc4 <| .c hc5 <| .c hc6 <| .c oz9 <| .c hc7 <| .c oz11 <| .n)).weak (WeakL.refl _) (Weak.tup (.cons (Weak.agg (.cons (Weak.int (show (((padOf A n.np n.za).fst.h) : Int) = ((nodeOf n A B).fst.h) from (by (unfold nodeOf; rw [if_neg (by omega), if_neg (by rw [‹tenRight A = true›]; simp)]; (repeat first | rw [if_pos (by omega)] | rw [if_neg (by omega)]); first | done | rfl)))) (.cons (Weak.int (show (((padOf A n.np n.za).fst.x) : Int) = ((nodeOf n A B).fst.x) from (by (unfold nodeOf; rw [if_neg (by omega), if_neg (by rw [‹tenRight A = true›]; simp)]; (repeat first | rw [if_pos (by omega)] | rw [if_neg (by omega)]); first | done | rfl)))) (.cons (Weak.int (show (((padOf A n.np n.za).fst.c) : Int) = ((nodeOf n A B).fst.c) from (by (unfold nodeOf; rw [if_neg (by omega), if_neg (by rw [‹tenRight A = true›]; simp)]; (repeat first | rw [if_pos (by omega)] | rw [if_neg (by omega)]); first | done | rfl)))) (.cons (Weak.rows (rows_to (row1 IntKind.i8) (r := List.map (row1 IntKind.i8) (padOf A n.np n.za).fst.d) (l := (padOf A n.np n.za).fst.d) (m := (nodeOf n A B).fst.d) rfl (show ((padOf A n.np n.za).fst.d) = ((nodeOf n A B).fst.d) from (by (unfold nodeOf; rw [if_neg (by omega), if_neg (by rw [‹tenRight A = true›]; simp)]; (repeat first | rw [if_pos (by omega)] | rw [if_neg (by omega)]); first | done | rfl))))) .nil))))) (.cons (Weak.int (show (((padOf A n.np n.za).snd) : Int) = ((nodeOf n A B).snd) from (by (unfold nodeOf; rw [if_neg (by omega), if_neg (by rw [‹tenRight A = true›]; simp)]; (repeat first | rw [if_pos (by omega)] | rw [if_neg (by omega)]); first | done | rfl)))) .nil)))
              · have gc6 : ¬n.kd = 8 := bef hc6
                rcases Bool.eq_false_or_eq_true (n.kd == 9) with hc7 | hc7
                · have gc7 : n.kd = 9 := bet hc7
                  exact (VC.run (fn := Try.f72) (W := [.r [] [], .r [] [.callr (rO oz0)], .r [] [], .br false, .r [] [.callr (rO oz2)], .br false, .r [] [], .r [] [], .br false, .r [] [], .br false, .r [] [], .br false, .r [] [], .br false, .r [] [], .br false, .r [] [], .br true, .r [] []]) (r := AV.tup [AV.agg [i64 1, i64 1, i64 (↑(List.map (row1 IntKind.i8) A.d).length : Int), AV.sl 1 (List.map (row1 IntKind.i8) A.d)], i64 0]) Try.func72 (by kernel_rfl) (.c oz0 <| .c hc0 <| .c oz2 <| .c hc1 <| .c hc2 <| .c hc3 <| .c hc4 <| .c hc5 <| .c hc6 <| .c hc7 <| .n)).weak (WeakL.refl _) (Weak.tup (.cons (Weak.agg (.cons (Weak.int (show ((1) : Int) = ((nodeOf n A B).fst.h) from (by (unfold nodeOf; rw [if_neg (by omega), if_neg (by rw [‹tenRight A = true›]; simp)]; (repeat first | rw [if_pos (by omega)] | rw [if_neg (by omega)]); first | done | rfl)))) (.cons (Weak.int (show ((1) : Int) = ((nodeOf n A B).fst.x) from (by (unfold nodeOf; rw [if_neg (by omega), if_neg (by rw [‹tenRight A = true›]; simp)]; (repeat first | rw [if_pos (by omega)] | rw [if_neg (by omega)]); first | done | rfl)))) (.cons (Weak.int (show (((↑(List.map (row1 IntKind.i8) A.d).length : Int)) : Int) = ((nodeOf n A B).fst.c) from (by (rw [List.length_map]; unfold nodeOf; rw [if_neg (by omega), if_neg (by rw [‹tenRight A = true›]; simp)]; (repeat first | rw [if_pos (by omega)] | rw [if_neg (by omega)]); first | done | rfl)))) (.cons (Weak.rows (rows_to (row1 IntKind.i8) (r := List.map (row1 IntKind.i8) A.d) (l := A.d) (m := (nodeOf n A B).fst.d) rfl (show (A.d) = ((nodeOf n A B).fst.d) from (by (unfold nodeOf; rw [if_neg (by omega), if_neg (by rw [‹tenRight A = true›]; simp)]; (repeat first | rw [if_pos (by omega)] | rw [if_neg (by omega)]); first | done | rfl))))) .nil))))) (.cons (Weak.int (show ((0) : Int) = ((nodeOf n A B).snd) from (by (unfold nodeOf; rw [if_neg (by omega), if_neg (by rw [‹tenRight A = true›]; simp)]; (repeat first | rw [if_pos (by omega)] | rw [if_neg (by omega)]); first | done | rfl)))) .nil)))
                · have gc7 : ¬n.kd = 9 := bef hc7
                  have oz10 := @rsum_v (A) (n) okA ok
                  rcases Bool.eq_false_or_eq_true ((sumOf A n).snd != 0) with hc8 | hc8
                  · have gc8 : ¬(sumOf A n).snd = 0 := bdt hc8
                    exact (VC.run (fn := Try.f72) (W := [.r [] [], .r [] [.callr (rO oz0)], .r [] [], .br false, .r [] [.callr (rO oz2)], .br false, .r [] [], .r [] [], .br false, .r [] [], .br false, .r [] [], .br false, .r [] [], .br false, .r [] [], .br false, .r [] [], .br false, .r [] [.callr (rO oz10)], .r [] [], .br true, .r [] []]) (r := AV.tup [AV.agg [i64 0, i64 0, i64 0, AV.lit (Value.slice none 0 0)], i64 (sumOf A n).snd]) Try.func72 (by kernel_rfl) (.c oz0 <| .c hc0 <| .c oz2 <| .c hc1 <| .c hc2 <| .c hc3 <| .c hc4 <| .c hc5 <| .c hc6 <| .c hc7 <| .c oz10 <| .c hc8 <| .n)).weak (WeakL.refl _) (Weak.tup (.cons (Weak.agg (.cons (Weak.int (show ((0) : Int) = ((nodeOf n A B).fst.h) from (by (unfold nodeOf; rw [if_neg (by omega), if_neg (by rw [‹tenRight A = true›]; simp)]; (repeat first | rw [if_pos (by omega)] | rw [if_neg (by omega)]); first | done | rfl)))) (.cons (Weak.int (show ((0) : Int) = ((nodeOf n A B).fst.x) from (by (unfold nodeOf; rw [if_neg (by omega), if_neg (by rw [‹tenRight A = true›]; simp)]; (repeat first | rw [if_pos (by omega)] | rw [if_neg (by omega)]); first | done | rfl)))) (.cons (Weak.int (show ((0) : Int) = ((nodeOf n A B).fst.c) from (by (unfold nodeOf; rw [if_neg (by omega), if_neg (by rw [‹tenRight A = true›]; simp)]; (repeat first | rw [if_pos (by omega)] | rw [if_neg (by omega)]); first | done | rfl)))) (.cons (Weak.nilr (show [] = (List.map (row1 IntKind.i8) (nodeOf n A B).fst.d) from (by (unfold nodeOf; rw [if_neg (by omega), if_neg (by rw [‹tenRight A = true›]; simp)]; (repeat first | rw [if_pos (by omega)] | rw [if_neg (by omega)]); first | done | rfl)))) .nil))))) (.cons (Weak.int (show (((sumOf A n).snd) : Int) = ((nodeOf n A B).snd) from (by (unfold nodeOf; rw [if_neg (by omega), if_neg (by rw [‹tenRight A = true›]; simp)]; (repeat first | rw [if_pos (by omega)] | rw [if_neg (by omega)]); first | done | rfl)))) .nil)))
                  · have gc8 : (sumOf A n).snd = 0 := bdf hc8
                    have oz12 := @rput_v ((sumOf A n).fst) (n) g1 ok
                    exact (VC.run (fn := Try.f72) (W := [.r [] [], .r [] [.callr (rO oz0)], .r [] [], .br false, .r [] [.callr (rO oz2)], .br false, .r [] [], .r [] [], .br false, .r [] [], .br false, .r [] [], .br false, .r [] [], .br false, .r [] [], .br false, .r [] [], .br false, .r [] [.callr (rO oz10)], .r [] [], .br false, .r [] [.callr (rO oz12)]]) (r := AV.tup [AV.agg [i64 (putOf (sumOf A n).fst n).fst.h, i64 (putOf (sumOf A n).fst n).fst.x, i64 (putOf (sumOf A n).fst n).fst.c, AV.sl 1 (List.map (row1 IntKind.i8) (putOf (sumOf A n).fst n).fst.d)], i64 (putOf (sumOf A n).fst n).snd]) Try.func72 (by kernel_rfl) (.c oz0 <| .c hc0 <| .c oz2 <| .c hc1 <| .c hc2 <| .c hc3 <| .c hc4 <| .c hc5 <| .c hc6 <| .c hc7 <| .c oz10 <| .c hc8 <| .c oz12 <| .n)).weak (WeakL.refl _) (Weak.tup (.cons (Weak.agg (.cons (Weak.int (show (((putOf (sumOf A n).fst n).fst.h) : Int) = ((nodeOf n A B).fst.h) from (by (unfold nodeOf; rw [if_neg (by omega), if_neg (by rw [‹tenRight A = true›]; simp)]; (repeat first | rw [if_pos (by omega)] | rw [if_neg (by omega)]); first | done | rfl)))) (.cons (Weak.int (show (((putOf (sumOf A n).fst n).fst.x) : Int) = ((nodeOf n A B).fst.x) from (by (unfold nodeOf; rw [if_neg (by omega), if_neg (by rw [‹tenRight A = true›]; simp)]; (repeat first | rw [if_pos (by omega)] | rw [if_neg (by omega)]); first | done | rfl)))) (.cons (Weak.int (show (((putOf (sumOf A n).fst n).fst.c) : Int) = ((nodeOf n A B).fst.c) from (by (unfold nodeOf; rw [if_neg (by omega), if_neg (by rw [‹tenRight A = true›]; simp)]; (repeat first | rw [if_pos (by omega)] | rw [if_neg (by omega)]); first | done | rfl)))) (.cons (Weak.rows (rows_to (row1 IntKind.i8) (r := List.map (row1 IntKind.i8) (putOf (sumOf A n).fst n).fst.d) (l := (putOf (sumOf A n).fst n).fst.d) (m := (nodeOf n A B).fst.d) rfl (show ((putOf (sumOf A n).fst n).fst.d) = ((nodeOf n A B).fst.d) from (by (unfold nodeOf; rw [if_neg (by omega), if_neg (by rw [‹tenRight A = true›]; simp)]; (repeat first | rw [if_pos (by omega)] | rw [if_neg (by omega)]); first | done | rfl))))) .nil))))) (.cons (Weak.int (show (((putOf (sumOf A n).fst n).snd) : Int) = ((nodeOf n A B).snd) from (by (unfold nodeOf; rw [if_neg (by omega), if_neg (by rw [‹tenRight A = true›]; simp)]; (repeat first | rw [if_pos (by omega)] | rw [if_neg (by omega)]); first | done | rfl)))) .nil)))
end Go.Proofs.Ytgecmooedhnenaa

/- The shapes of all values of a block, by the program and by the document. No condition. -/
namespace Go.Proofs.Ytgecmooedhnenaa
open Go.RowKit
set_option linter.unusedSimpArgs false
set_option linter.unusedVariables false
set_option linter.unnecessarySimpa false

def Shp.Rt (s : Shp) : Prop := 0 < elems s.h s.x s.c
abbrev zsh : Shp := ⟨0, 0, 0⟩
theorem zsh_ok : zsh.Ok := by constructor <;> exact ⟨by decide, by decide⟩
theorem Shp.Rt.ok {s : Shp} (h : s.Rt) : s.Ok := by
  have := elems_ok h
  exact ⟨⟨by omega, by omega⟩, ⟨by omega, by omega⟩, ⟨by omega, by omega⟩⟩
/-- Either all is right, or nothing is there. -/
def Told (r : Shp × Int) : Prop := (r.2 = 0 ∧ r.1.Rt) ∨ (r.2 ≠ 0 ∧ r.1 = zsh)
theorem slideE_told (t : Shp) (k s p o : Int) : Told (slideE t k s p o) := by
  unfold slideE
  split
  · exact .inr ⟨by dsimp only; decide, rfl⟩
  · split
    · exact .inr ⟨by assumption, rfl⟩
    · split
      · exact .inr ⟨by assumption, rfl⟩
      · split
        · exact .inr ⟨by dsimp only; decide, rfl⟩
        · rename_i h; exact .inl ⟨rfl, Classical.not_not.1 h⟩
theorem convE_told (t : Shp) (n : Nod) : Told (convE t n) := by
  have q := slideE_told t n.nk n.ns n.np n.no
  unfold convE
  split
  · exact .inr ⟨by assumption, rfl⟩
  · split
    · exact .inr ⟨by dsimp only; decide, rfl⟩
    · rcases q with q | q
      · exact .inl ⟨rfl, q.2⟩
      · exact absurd q.1 (by assumption)
theorem depthE_told (t : Shp) (n : Nod) : Told (depthE t n) := by
  have q := slideE_told t n.nk n.ns n.np t.c
  unfold depthE
  split
  · exact .inr ⟨by assumption, rfl⟩
  · split
    · exact .inr ⟨by dsimp only; decide, rfl⟩
    · rcases q with q | q
      · exact .inl ⟨rfl, q.2⟩
      · exact absurd q.1 (by assumption)
theorem denseE_told (t : Shp) (n : Nod) : Told (denseE t n) := by
  unfold denseE
  split
  · exact .inr ⟨by dsimp only; decide, rfl⟩
  · split
    · exact .inr ⟨by dsimp only; decide, rfl⟩
    · rename_i h _
      have := elems_in 1 1 n.no
      exact .inl ⟨rfl, by unfold Shp.Rt; dsimp only; omega⟩
theorem aroundE_told (a : Shp) (p : Int) : Told (aroundE a p) := by
  unfold aroundE
  split
  · exact .inr ⟨by dsimp only; decide, rfl⟩
  · split
    · exact .inr ⟨by dsimp only; decide, rfl⟩
    · have := elems_in (a.h + 2 * p) (a.x + 2 * p) a.c
      exact .inl ⟨rfl, by unfold Shp.Rt; dsimp only; omega⟩
theorem flat_rt {n : Int} (h0 : 0 < n) (h : n ≤ 1024) : 0 < elems 1 1 n := by
  unfold elems; rw [if_pos (by omega)]; omega
theorem shapeE_told (n : Nod) (a b : Shp) : Told (shapeE n a b) := by
  unfold shapeE
  split
  · exact convE_told a n
  · split
    · exact depthE_told a n
    · split
      · exact denseE_told a n
      · split
        · exact slideE_told a n.nk n.ns n.np a.c
        · split
          · exact .inr ⟨by dsimp only; decide, rfl⟩
          · split
            · exact .inr ⟨by dsimp only; decide, rfl⟩
            · rename_i h
              have q := elems_in a.h a.x a.c
              split
              · exact (.inl ⟨rfl, show 0 < elems 1 1 (elems a.h a.x a.c) from flat_rt (by omega) q.2⟩)
              · split
                · exact aroundE_told a n.np
                · exact .inl ⟨rfl, by unfold Shp.Rt; dsimp only; omega⟩
theorem nextE_told (n : Nod) (L : List Shp) : Told (nextE n L) := by
  unfold nextE
  split
  · exact .inr ⟨by assumption, rfl⟩
  · split
    · exact shapeE_told _ _ _
    · exact .inr ⟨by dsimp only; decide, rfl⟩
theorem Told.ok {r : Shp × Int} (h : Told r) : r.1.Ok := by
  rcases h with h | h
  · exact h.2.ok
  · rw [h.2]; exact zsh_ok
/-- All values of a block have shapes. -/
structure SOK (l : List Nod) (a : Shp) : Prop where
  i : a.Rt
  e : 0 < l.length
  f : l.length ≤ 8
  k : ∀ k, k < l.length → errL nextE l a k = 0
def shapesB (l : List Nod) (a : Shp) : Nat → Bool := fun k => errL nextE l a k == 0
/-- Where all ends, and what is wrong there. -/
def shapesE (l : List Nod) (a : Shp) : Int × Int :=
  if ¬ 0 < elems a.h a.x a.c then (-1, 5) else if l.length = 0 then (-1, 12) else if 8 < l.length then (-1, 4)
  else if firstBad (shapesB l a) l.length < l.length then (firstBad (shapesB l a) l.length, errL nextE l a (firstBad (shapesB l a) l.length)) else (l.length, 0)
theorem shapesE_at {l : List Nod} {a : Shp} {m : Nat} (i : a.Rt) (e : 0 < l.length) (f : l.length ≤ 8) (hm : m < l.length) (hf : errL nextE l a m ≠ 0) (h : ∀ k, k < m → errL nextE l a k = 0) : shapesE l a = ((m : Int), errL nextE l a m) := by
  unfold Shp.Rt at i
  have := firstBad_at (p := shapesB l a) (m := m) (by simpa [shapesB] using hf) (fun k hk => by simpa [shapesB] using h k hk) hm
  unfold shapesE
  rw [if_neg (by omega), if_neg (by omega), if_neg (by omega), this, if_pos hm]
theorem SOK.cases (l : List Nod) (a : Shp) : SOK l a ∨ ¬ a.Rt ∨ l.length = 0 ∨ 8 < l.length ∨ (a.Rt ∧ 0 < l.length ∧ l.length ≤ 8 ∧ ∃ m, m < l.length ∧ errL nextE l a m ≠ 0 ∧ ∀ k, k < m → errL nextE l a k = 0) := by
  by_cases i : a.Rt
  · by_cases e : 0 < l.length
    · by_cases f : l.length ≤ 8
      · rcases all_or (shapesB l a) l.length with h | ⟨m, h1, h2, h3⟩
        · exact .inl ⟨i, e, f, fun k hk => by simpa [shapesB] using h k hk⟩
        · exact .inr (.inr (.inr (.inr ⟨i, e, f, m, h1, by simpa [shapesB] using h2, fun k hk => by simpa [shapesB] using h3 k hk⟩)))
      · exact .inr (.inr (.inr (.inl (by omega))))
    · exact .inr (.inr (.inl (by omega)))
  · exact .inr (.inl i)
theorem grow_ok {l : List Nod} {a : Shp} (i : a.Ok) (k : Nat) : ∀ s ∈ growL nextE l a k, s.Ok :=
  growL_all (n := k) i (fun j _ _ => (nextE_told _ _).ok) k (Nat.le_refl _)
end Go.Proofs.Ytgecmooedhnenaa

/- The shapes of all values of a block, by the document. No condition. -/
namespace Go.Proofs.Ytgecmooedhnenaa
open Go.RowKit
set_option linter.unusedSimpArgs false
set_option linter.unusedVariables false
set_option linter.unnecessarySimpa false

theorem nextE_c {n : Nod} {L : List Shp} (h : checkE n ≠ 0) : nextE n L = (⟨0, 0, 0⟩, checkE n) := if_pos h
theorem nextE_0 {n : Nod} {L : List Shp} (h : checkE n = 0) (g : thereB n ((List.map shpC L).length : Int) = false) : nextE n L = (⟨0, 0, 0⟩, 8) := by
  rw [List.length_map] at g; unfold nextE; rw [if_neg (by simp [h]), if_neg (by simp [g])]
theorem nextE_6 {n : Nod} {L : List Shp} (h : checkE n = 0) (g : thereB n ((List.map shpC L).length : Int) = true) : nextE n L = shapeE n (L.getD n.na.toNat default) (L.getD (secN n).toNat default) := by
  rw [List.length_map] at g; unfold nextE; rw [if_neg (by simp [h]), if_pos g]
theorem nextE_ok {n : Nod} {L : List Shp} (q : (nextE n L).2 = 0) : checkE n = 0 ∧ thereB n ((List.map shpC L).length : Int) = true ∧ nextE n L = shapeE n (L.getD n.na.toNat default) (L.getD (secN n).toNat default) := by
  by_cases h : checkE n = 0
  · cases g : thereB n ((List.map shpC L).length : Int) with
    | false => rw [nextE_0 h g] at q; cases q
    | true => exact ⟨h, rfl, nextE_6 h g⟩
  · rw [nextE_c h] at q; exact absurd q h
theorem there_at {n : Nod} {L : List Shp} (okL : ∀ r ∈ L, r.Ok) (h : thereB n ((List.map shpC L).length : Int) = true) : (0 ≤ n.na ∧ n.na < L.length ∧ n.na.toNat < L.length ∧ 0 ≤ secN n ∧ secN n < L.length ∧ (secN n).toNat < L.length) ∧ (L.getD n.na.toNat default).Ok ∧ (L.getD (secN n).toNat default).Ok := by
  rw [List.length_map] at h
  have h := there_iff.1 h
  exact ⟨⟨by omega, by omega, by omega, by omega, by omega, by omega⟩, getD_in okL (by omega), getD_in okL (by omega)⟩
noncomputable def rshapes_ly_I (l : List Nod) (a : Shp) (k : Nat) : VS := stt 72 [(0, .sl 19 (l.map nodC)), (7, .own 900), (8, i64 k)] [(900, .slc 24 3 ((growL nextE l a k).map shpC))]
noncomputable def rshapes_ly_Z (l : List Nod) (a : Shp) : VS := rshapes_ly_I l a (l.length)
set_option maxRecDepth 100000 in
set_option maxHeartbeats 2000000 in
theorem rshapes_ly_s (l : List Nod) (a : Shp) (okl : ∀ n ∈ l, n.Ok) (wl : ∀ n ∈ l, n.w.length ≤ 100000 ∧ n.b.length ≤ 100000) (i : a.Ok) (f8 : l.length ≤ 8) (h : ∀ k, k < l.length → errL nextE l a k = 0) (k : Nat) (hk : k < l.length) : VT Try.prog (fnC Try.f71 [1, 1, 1, 1, 1, 0, 1, 0, 0]) (rshapes_ly_I l a k) .normal (rshapes_ly_I l a (k + 1)) := by
  have q := h k hk
  have q1 := growL_len nextE l a k
  have q2 := grow_ok (l := l) i k
  have q3 := getD_in okl hk
  have qz := q3.kd
  have q4 := getD_in wl hk
  obtain ⟨q5, q6⟩ := q4
  have q8 : (List.map shpC (growL nextE l a k)).length = (growL nextE l a k).length := List.length_map _
  unfold errL at q
  obtain ⟨c1, c2, c3⟩ := nextE_ok q
  obtain ⟨c4, c5, c6⟩ := there_at q2 c2
  rw [c3] at q
  have oz2 := (map_at (nodC) (default) (l := l) (i := k) hk)
  have oz3 := @refCheck_v (l.getD k default) q5 q6 qz
  have oz5 := @refThere_v (l.getD k default) ((↑(List.map shpC (growL nextE l a k)).length : Int))
  have oz9 := (map_at (shpC) (default) (l := growL nextE l a k) (i := (l.getD k default).na.toNat) (by omega))
  have oz10 := @refSecond_v (l.getD k default)
  have oz13 := (map_at (shpC) (default) (l := growL nextE l a k) (i := (secN (l.getD k default)).toNat) (by omega))
  have oz14 := @refKshape_v (l.getD k default) ((growL nextE l a k).getD (l.getD k default).na.toNat default) ((growL nextE l a k).getD (secN (l.getD k default)).toNat default) c5 c6 q3
  exact VT.run (W := [.r [] [], .br true, .r [] [.row (sO oz2)], .r [] [.callr (rO oz3)], .r [] [], .br false, .r [] [.callr (rO oz5)], .br false, .r [] [.row (sO oz9), .callr (rO oz10), .row (sO oz13), .callr (rO oz14)], .r [] [], .br false, .r [] [], .r [] [.n ((↑k : Int) + 1)]]) (G := [.any (rg [(9, 4), (24, 14), (40, 5), (46, 17), (65, 4)]), .drop [9, 11, 67], .ren 68 900, .weak 8 (i64 (↑(k + 1) : Int)), .blk 900 (Blk.slc 24 3 (List.map shpC (growL nextE l a (k + 1)))), .sort]) (by kernel_rfl) (.c (show decide ((↑k : Int) < (↑(List.map nodC l).length : Int)) = true by (simp; omega)) <| .c (show 0 ≤ (↑k : Int) by omega) <| .c oz2 <| .c oz3 <| .c (show (checkE (l.getD k default) != 0) = false by (rw [c1]; rfl)) <| .c oz5 <| .c (show (!thereB (l.getD k default) (↑(List.map shpC (growL nextE l a k)).length : Int)) = false by (rw [c2]; rfl)) <| .c (show 0 ≤ (l.getD k default).na by omega) <| .c (show (l.getD k default).na < (↑(List.map shpC (growL nextE l a k)).length : Int) by omega) <| .c oz9 <| .c oz10 <| .c (show 0 ≤ secN (l.getD k default) by omega) <| .c (show secN (l.getD k default) < (↑(List.map shpC (growL nextE l a k)).length : Int) by omega) <| .c oz13 <| .c oz14 <| .c (show ((shapeE (l.getD k default) ((growL nextE l a k).getD (l.getD k default).na.toNat default) ((growL nextE l a k).getD (secN (l.getD k default)).toNat default)).snd != 0) = false by (rw [q]; rfl)) <| .c (show ((List.map shpC (growL nextE l a k)).length + 1) * 24 ≤ 140737488355328 by omega) <| .c (show (List.map shpC (growL nextE l a k)).length + 1 ≤ 9223372036854775807 by omega) <| .c (IntWalk.i64_in ((↑k : Int) + 1) (by omega)) <| .c (Weak.int (k := .i64) (show (((↑k : Int) + 1) : Int) = ((↑(k + 1) : Int)) from (by omega))) <| .c (show BlkW (Blk.slc 24 3 (List.map shpC (growL nextE l a k) ++ [[i64 (shapeE (l.getD k default) ((growL nextE l a k).getD (l.getD k default).na.toNat default) ((growL nextE l a k).getD (secN (l.getD k default)).toNat default)).fst.h, i64 (shapeE (l.getD k default) ((growL nextE l a k).getD (l.getD k default).na.toNat default) ((growL nextE l a k).getD (secN (l.getD k default)).toNat default)).fst.x, i64 (shapeE (l.getD k default) ((growL nextE l a k).getD (l.getD k default).na.toNat default) ((growL nextE l a k).getD (secN (l.getD k default)).toNat default)).fst.c]])) (Blk.slc 24 3 (List.map shpC (growL nextE l a (k + 1)))) from (BlkW.rows (rows_to (shpC) (r := List.map shpC (growL nextE l a k) ++ [[i64 (shapeE (l.getD k default) ((growL nextE l a k).getD (l.getD k default).na.toNat default) ((growL nextE l a k).getD (secN (l.getD k default)).toNat default)).fst.h, i64 (shapeE (l.getD k default) ((growL nextE l a k).getD (l.getD k default).na.toNat default) ((growL nextE l a k).getD (secN (l.getD k default)).toNat default)).fst.x, i64 (shapeE (l.getD k default) ((growL nextE l a k).getD (l.getD k default).na.toNat default) ((growL nextE l a k).getD (secN (l.getD k default)).toNat default)).fst.c]]) (l := growL nextE l a k ++ [Shp.mk (shapeE (l.getD k default) ((growL nextE l a k).getD (l.getD k default).na.toNat default) ((growL nextE l a k).getD (secN (l.getD k default)).toNat default)).fst.h (shapeE (l.getD k default) ((growL nextE l a k).getD (l.getD k default).na.toNat default) ((growL nextE l a k).getD (secN (l.getD k default)).toNat default)).fst.x (shapeE (l.getD k default) ((growL nextE l a k).getD (l.getD k default).na.toNat default) ((growL nextE l a k).getD (secN (l.getD k default)).toNat default)).fst.c]) (m := growL nextE l a (k + 1)) (by first | (simp only [List.map_append, List.map_cons, List.map_nil, List.map_set, List.map_replicate, List.map_take, List.map_drop]; done) | rfl | (simp only [List.map_append, List.map_cons, List.map_nil, List.map_set, List.map_replicate, List.map_take, List.map_drop]; rfl) | (simp only [List.map_append, List.map_cons, List.map_nil, List.map_set, List.map_replicate, List.map_take, List.map_drop, shpC, ints]; done)) (show (growL nextE l a k ++ [Shp.mk (shapeE (l.getD k default) ((growL nextE l a k).getD (l.getD k default).na.toNat default) ((growL nextE l a k).getD (secN (l.getD k default)).toNat default)).fst.h (shapeE (l.getD k default) ((growL nextE l a k).getD (l.getD k default).na.toNat default) ((growL nextE l a k).getD (secN (l.getD k default)).toNat default)).fst.x (shapeE (l.getD k default) ((growL nextE l a k).getD (l.getD k default).na.toNat default) ((growL nextE l a k).getD (secN (l.getD k default)).toNat default)).fst.c]) = (growL nextE l a (k + 1)) from (by (rw [growL, c3])))))) <| .n)
set_option maxRecDepth 100000 in
set_option maxHeartbeats 2000000 in
theorem rshapes_ly_e (l : List Nod) (a : Shp) (okl : ∀ n ∈ l, n.Ok) (wl : ∀ n ∈ l, n.w.length ≤ 100000 ∧ n.b.length ≤ 100000) (i : a.Ok) (f8 : l.length ≤ 8) (h : ∀ k, k < l.length → errL nextE l a k = 0) : VT Try.prog (fnC Try.f71 [1, 1, 1, 1, 1, 0, 1, 0, 0]) (rshapes_ly_I l a (l.length)) (.exit 0) (rshapes_ly_Z l a) := by
  exact VT.run (W := [.r [] [], .br false]) (G := [.any (rg [(24, 4)]), .sort]) (by kernel_rfl) (.c (show decide ((↑l.length : Int) < (↑(List.map nodC l).length : Int)) = false by (simp; done)) <| .n)
theorem rshapes_ly (l : List Nod) (a : Shp) (okl : ∀ n ∈ l, n.Ok) (wl : ∀ n ∈ l, n.w.length ≤ 100000 ∧ n.b.length ≤ 100000) (i : a.Ok) (f8 : l.length ≤ 8) (h : ∀ k, k < l.length → errL nextE l a k = 0) : VT Try.prog (fnC Try.f71 [1, 1, 1, 1, 1, 0, 1, 0]) (rshapes_ly_I l a 0) (.exit 0) (rshapes_ly_Z l a) :=
  VT.loop (fun k => rshapes_ly_I l a k) (l.length) (fun k hk => rshapes_ly_s l a okl wl i f8 h k hk) (rshapes_ly_e l a okl wl i f8 h) (by intro h; cases h)

noncomputable def rshapes_ln_I (l : List Nod) (a : Shp) (m : Nat) (k : Nat) : VS := stt 72 [(0, .sl 19 (l.map nodC)), (7, .own 900), (8, i64 k)] [(900, .slc 24 3 ((growL nextE l a k).map shpC))]
noncomputable def rshapes_ln_Z (l : List Nod) (a : Shp) (m : Nat) : VS := stt 72 [(4, nilv), (5, i64 m), (6, i64 (errL nextE l a m))] []
set_option maxRecDepth 100000 in
set_option maxHeartbeats 2000000 in
theorem rshapes_ln_s (l : List Nod) (a : Shp) (m : Nat) (okl : ∀ n ∈ l, n.Ok) (wl : ∀ n ∈ l, n.w.length ≤ 100000 ∧ n.b.length ≤ 100000) (i : a.Ok) (f8 : l.length ≤ 8) (hm : m < l.length) (hf : errL nextE l a m ≠ 0) (h : ∀ k, k < m → errL nextE l a k = 0) (k : Nat) (hk : k < m) : VT Try.prog (fnC Try.f71 [1, 1, 1, 1, 1, 0, 1, 0, 0]) (rshapes_ln_I l a m k) .normal (rshapes_ln_I l a m (k + 1)) := by
  have q := h k hk
  have q1 := growL_len nextE l a k
  have q2 := grow_ok (l := l) i k
  have q3 := getD_in okl (show k < l.length by omega)
  have qz := q3.kd
  have q4 := getD_in wl (show k < l.length by omega)
  obtain ⟨q5, q6⟩ := q4
  have q8 : (List.map shpC (growL nextE l a k)).length = (growL nextE l a k).length := List.length_map _
  unfold errL at q
  obtain ⟨c1, c2, c3⟩ := nextE_ok q
  obtain ⟨c4, c5, c6⟩ := there_at q2 c2
  rw [c3] at q
  have oz2 := (map_at (nodC) (default) (l := l) (i := k) (by omega))
  have oz3 := @refCheck_v (l.getD k default) q5 q6 qz
  have oz5 := @refThere_v (l.getD k default) ((↑(List.map shpC (growL nextE l a k)).length : Int))
  have oz9 := (map_at (shpC) (default) (l := growL nextE l a k) (i := (l.getD k default).na.toNat) (by omega))
  have oz10 := @refSecond_v (l.getD k default)
  have oz13 := (map_at (shpC) (default) (l := growL nextE l a k) (i := (secN (l.getD k default)).toNat) (by omega))
  have oz14 := @refKshape_v (l.getD k default) ((growL nextE l a k).getD (l.getD k default).na.toNat default) ((growL nextE l a k).getD (secN (l.getD k default)).toNat default) c5 c6 q3
  exact VT.run (W := [.r [] [], .br true, .r [] [.row (sO oz2)], .r [] [.callr (rO oz3)], .r [] [], .br false, .r [] [.callr (rO oz5)], .br false, .r [] [.row (sO oz9), .callr (rO oz10), .row (sO oz13), .callr (rO oz14)], .r [] [], .br false, .r [] [], .r [] [.n ((↑k : Int) + 1)]]) (G := [.any (rg [(9, 4), (24, 14), (40, 5), (46, 17), (65, 4)]), .drop [9, 11, 67], .ren 68 900, .weak 8 (i64 (↑(k + 1) : Int)), .blk 900 (Blk.slc 24 3 (List.map shpC (growL nextE l a (k + 1)))), .sort]) (by kernel_rfl) (.c (show decide ((↑k : Int) < (↑(List.map nodC l).length : Int)) = true by (simp; omega)) <| .c (show 0 ≤ (↑k : Int) by omega) <| .c oz2 <| .c oz3 <| .c (show (checkE (l.getD k default) != 0) = false by (rw [c1]; rfl)) <| .c oz5 <| .c (show (!thereB (l.getD k default) (↑(List.map shpC (growL nextE l a k)).length : Int)) = false by (rw [c2]; rfl)) <| .c (show 0 ≤ (l.getD k default).na by omega) <| .c (show (l.getD k default).na < (↑(List.map shpC (growL nextE l a k)).length : Int) by omega) <| .c oz9 <| .c oz10 <| .c (show 0 ≤ secN (l.getD k default) by omega) <| .c (show secN (l.getD k default) < (↑(List.map shpC (growL nextE l a k)).length : Int) by omega) <| .c oz13 <| .c oz14 <| .c (show ((shapeE (l.getD k default) ((growL nextE l a k).getD (l.getD k default).na.toNat default) ((growL nextE l a k).getD (secN (l.getD k default)).toNat default)).snd != 0) = false by (rw [q]; rfl)) <| .c (show ((List.map shpC (growL nextE l a k)).length + 1) * 24 ≤ 140737488355328 by omega) <| .c (show (List.map shpC (growL nextE l a k)).length + 1 ≤ 9223372036854775807 by omega) <| .c (IntWalk.i64_in ((↑k : Int) + 1) (by omega)) <| .c (Weak.int (k := .i64) (show (((↑k : Int) + 1) : Int) = ((↑(k + 1) : Int)) from (by omega))) <| .c (show BlkW (Blk.slc 24 3 (List.map shpC (growL nextE l a k) ++ [[i64 (shapeE (l.getD k default) ((growL nextE l a k).getD (l.getD k default).na.toNat default) ((growL nextE l a k).getD (secN (l.getD k default)).toNat default)).fst.h, i64 (shapeE (l.getD k default) ((growL nextE l a k).getD (l.getD k default).na.toNat default) ((growL nextE l a k).getD (secN (l.getD k default)).toNat default)).fst.x, i64 (shapeE (l.getD k default) ((growL nextE l a k).getD (l.getD k default).na.toNat default) ((growL nextE l a k).getD (secN (l.getD k default)).toNat default)).fst.c]])) (Blk.slc 24 3 (List.map shpC (growL nextE l a (k + 1)))) from (BlkW.rows (rows_to (shpC) (r := List.map shpC (growL nextE l a k) ++ [[i64 (shapeE (l.getD k default) ((growL nextE l a k).getD (l.getD k default).na.toNat default) ((growL nextE l a k).getD (secN (l.getD k default)).toNat default)).fst.h, i64 (shapeE (l.getD k default) ((growL nextE l a k).getD (l.getD k default).na.toNat default) ((growL nextE l a k).getD (secN (l.getD k default)).toNat default)).fst.x, i64 (shapeE (l.getD k default) ((growL nextE l a k).getD (l.getD k default).na.toNat default) ((growL nextE l a k).getD (secN (l.getD k default)).toNat default)).fst.c]]) (l := growL nextE l a k ++ [Shp.mk (shapeE (l.getD k default) ((growL nextE l a k).getD (l.getD k default).na.toNat default) ((growL nextE l a k).getD (secN (l.getD k default)).toNat default)).fst.h (shapeE (l.getD k default) ((growL nextE l a k).getD (l.getD k default).na.toNat default) ((growL nextE l a k).getD (secN (l.getD k default)).toNat default)).fst.x (shapeE (l.getD k default) ((growL nextE l a k).getD (l.getD k default).na.toNat default) ((growL nextE l a k).getD (secN (l.getD k default)).toNat default)).fst.c]) (m := growL nextE l a (k + 1)) (by first | (simp only [List.map_append, List.map_cons, List.map_nil, List.map_set, List.map_replicate, List.map_take, List.map_drop]; done) | rfl | (simp only [List.map_append, List.map_cons, List.map_nil, List.map_set, List.map_replicate, List.map_take, List.map_drop]; rfl) | (simp only [List.map_append, List.map_cons, List.map_nil, List.map_set, List.map_replicate, List.map_take, List.map_drop, shpC, ints]; done)) (show (growL nextE l a k ++ [Shp.mk (shapeE (l.getD k default) ((growL nextE l a k).getD (l.getD k default).na.toNat default) ((growL nextE l a k).getD (secN (l.getD k default)).toNat default)).fst.h (shapeE (l.getD k default) ((growL nextE l a k).getD (l.getD k default).na.toNat default) ((growL nextE l a k).getD (secN (l.getD k default)).toNat default)).fst.x (shapeE (l.getD k default) ((growL nextE l a k).getD (l.getD k default).na.toNat default) ((growL nextE l a k).getD (secN (l.getD k default)).toNat default)).fst.c]) = (growL nextE l a (k + 1)) from (by (rw [growL, c3])))))) <| .n)
set_option maxRecDepth 100000 in
set_option maxHeartbeats 2000000 in
theorem rshapes_ln_e (l : List Nod) (a : Shp) (m : Nat) (okl : ∀ n ∈ l, n.Ok) (wl : ∀ n ∈ l, n.w.length ≤ 100000 ∧ n.b.length ≤ 100000) (i : a.Ok) (f8 : l.length ≤ 8) (hm : m < l.length) (hf : errL nextE l a m ≠ 0) (h : ∀ k, k < m → errL nextE l a k = 0) : VT Try.prog (fnC Try.f71 [1, 1, 1, 1, 1, 0, 1, 0, 0]) (rshapes_ln_I l a m (m)) (.ret) (rshapes_ln_Z l a m) := by
  have q1 := growL_len nextE l a m
  have q2 := grow_ok (l := l) i m
  have q3 := getD_in okl hm
  have qz := q3.kd
  have q4 := getD_in wl hm
  obtain ⟨q5, q6⟩ := q4
  have q8 : (List.map shpC (growL nextE l a m)).length = (growL nextE l a m).length := List.length_map _
  have qa := fun h => there_at (n := l.getD m default) q2 h
  have e0 := @nextE_c (l.getD m default) (growL nextE l a m)
  have e1 := @nextE_0 (l.getD m default) (growL nextE l a m)
  have e2 := @nextE_6 (l.getD m default) (growL nextE l a m)
  have q : errL nextE l a m = (nextE (l.getD m default) (growL nextE l a m)).2 := rfl
  unfold errL at hf
  have oz0 := (show decide ((↑m : Int) < (↑(List.map nodC l).length : Int)) = true by (simp; omega))
  have oz1 := (show 0 ≤ (↑m : Int) by omega)
  have oz2 := (map_at (nodC) (default) (l := l) (i := m) hm)
  have oz3 := @refCheck_v (l.getD m default) q5 q6 qz
  rcases Bool.eq_false_or_eq_true (checkE (l.getD m default) != 0) with hc0 | hc0
  · have gc0 : ¬checkE (l.getD m default) = 0 := bdt hc0
    exact VT.run (W := [.r [] [], .br true, .r [] [.row (sO oz2)], .r [] [.callr (rO oz3)], .r [] [], .br true, .r [] []]) (G := [.any (rg [(0, 1), (7, 4), (24, 4), (30, 10)]), .drop [900, 9], .weak 6 (i64 (errL nextE l a m)), .sort]) (by kernel_rfl) (.c oz0 <| .c oz1 <| .c oz2 <| .c oz3 <| .c hc0 <| .c (Weak.int (k := .i64) (show ((checkE (l.getD m default)) : Int) = (errL nextE l a m) from (by (rw [q, e0 (by omega)])))) <| .n)
  · have gc0 : checkE (l.getD m default) = 0 := bdf hc0
    have oz5 := @refThere_v (l.getD m default) ((↑(List.map shpC (growL nextE l a m)).length : Int))
    rcases Bool.eq_false_or_eq_true (!thereB (l.getD m default) (↑(List.map shpC (growL nextE l a m)).length : Int)) with hc1 | hc1
    · have gc1 : thereB (l.getD m default) (↑(List.map shpC (growL nextE l a m)).length : Int) = false := by first | exact hc1 | exact of_decide_eq_true hc1 | exact of_decide_eq_false hc1 | simpa [eqNums] using hc1 | (simp [eqNums] at hc1 ⊢; first | done | assumption | omega)
      exact VT.run (W := [.r [] [], .br true, .r [] [.row (sO oz2)], .r [] [.callr (rO oz3)], .r [] [], .br false, .r [] [.callr (rO oz5)], .br true, .r [] []]) (G := [.any (rg [(0, 1), (7, 4), (24, 4), (30, 8), (40, 6)]), .drop [900, 9], .weak 6 (i64 (errL nextE l a m)), .sort]) (by kernel_rfl) (.c oz0 <| .c oz1 <| .c oz2 <| .c oz3 <| .c hc0 <| .c oz5 <| .c hc1 <| .c (Weak.int (k := .i64) (show ((8) : Int) = (errL nextE l a m) from (by (rw [q, e1 (by omega) (by simp_all)])))) <| .n)
    · have gc1 : thereB (l.getD m default) (↑(List.map shpC (growL nextE l a m)).length : Int) = true := by first | exact hc1 | exact of_decide_eq_true hc1 | exact of_decide_eq_false hc1 | simpa [eqNums] using hc1 | (simp [eqNums] at hc1 ⊢; first | done | assumption | omega)
      have oz9 := (map_at (shpC) (default) (l := growL nextE l a m) (i := (l.getD m default).na.toNat) (by (have := qa (by assumption); omega)))
      have oz10 := @refSecond_v (l.getD m default)
      have oz13 := (map_at (shpC) (default) (l := growL nextE l a m) (i := (secN (l.getD m default)).toNat) (by (have := qa (by assumption); omega)))
      have oz14 := @refKshape_v (l.getD m default) ((growL nextE l a m).getD (l.getD m default).na.toNat default) ((growL nextE l a m).getD (secN (l.getD m default)).toNat default) (by (have := qa (by assumption); exact this.2.1)) (by (have := qa (by assumption); exact this.2.2)) q3
      have oz16 := (Weak.int (k := .i64) (show (((shapeE (l.getD m default) ((growL nextE l a m).getD (l.getD m default).na.toNat default) ((growL nextE l a m).getD (secN (l.getD m default)).toNat default)).snd) : Int) = (errL nextE l a m) from (by (rw [q, e2 (by omega) (by assumption)]))))
      exact VT.run (W := [.r [] [], .br true, .r [] [.row (sO oz2)], .r [] [.callr (rO oz3)], .r [] [], .br false, .r [] [.callr (rO oz5)], .br false, .r [] [.row (sO oz9), .callr (rO oz10), .row (sO oz13), .callr (rO oz14)], .r [] [], .br true, .r [] []]) (G := [.any (rg [(0, 1), (7, 6), (24, 4), (30, 8), (40, 5), (46, 19)]), .drop [900, 9, 11], .weak 6 (wO oz16), .sort]) (by kernel_rfl) (.c oz0 <| .c oz1 <| .c oz2 <| .c oz3 <| .c hc0 <| .c oz5 <| .c hc1 <| .c (show 0 ≤ (l.getD m default).na by (have := qa (by assumption); omega)) <| .c (show (l.getD m default).na < (↑(List.map shpC (growL nextE l a m)).length : Int) by (have := qa (by assumption); omega)) <| .c oz9 <| .c oz10 <| .c (show 0 ≤ secN (l.getD m default) by (have := qa (by assumption); omega)) <| .c (show secN (l.getD m default) < (↑(List.map shpC (growL nextE l a m)).length : Int) by (have := qa (by assumption); omega)) <| .c oz13 <| .c oz14 <| .c (show ((shapeE (l.getD m default) ((growL nextE l a m).getD (l.getD m default).na.toNat default) ((growL nextE l a m).getD (secN (l.getD m default)).toNat default)).snd != 0) = true by (rw [e2 (by omega) (by assumption)] at hf; rw [bne_iff_ne]; exact hf)) <| .c oz16 <| .n)
theorem rshapes_ln (l : List Nod) (a : Shp) (m : Nat) (okl : ∀ n ∈ l, n.Ok) (wl : ∀ n ∈ l, n.w.length ≤ 100000 ∧ n.b.length ≤ 100000) (i : a.Ok) (f8 : l.length ≤ 8) (hm : m < l.length) (hf : errL nextE l a m ≠ 0) (h : ∀ k, k < m → errL nextE l a k = 0) : VT Try.prog (fnC Try.f71 [1, 1, 1, 1, 1, 0, 1, 0]) (rshapes_ln_I l a m 0) (.ret) (rshapes_ln_Z l a m) :=
  VT.loop (fun k => rshapes_ln_I l a m k) (m) (fun k hk => rshapes_ln_s l a m okl wl i f8 hm hf h k hk) (rshapes_ln_e l a m okl wl i f8 hm hf h) (by intro h; cases h)

set_option maxRecDepth 100000 in
set_option maxHeartbeats 2000000 in
theorem rshapes_y (l : List Nod) (a : Shp) (okl : ∀ n ∈ l, n.Ok) (wl : ∀ n ∈ l, n.w.length ≤ 100000 ∧ n.b.length ≤ 100000) (h : SOK l a) : VC Try.prog 71 ([.sl 19 (l.map nodC), shp a]) (.tup [.sl 3 ((growL nextE l a l.length).map shpC), i64 l.length, i64 0]) := by
  have q1 := h.i
  have q2 := h.e
  have q3 := h.f
  have q4 := h.k
  have q5 := q1.ok
  obtain ⟨p1, p2, p3⟩ := id q5
  unfold Shp.Rt at q1
  have oz0 := @refElems_v (a.h) (a.x) (a.c) p1 p2 p3
  have oz5 := @rshapes_ly (l) (a) okl wl q5 q3 q4
  exact (VC.run (fn := Try.f71) (W := [.r [] [], .r [] [.callr (rO oz0)], .br false, .r [] [], .br false, .r [] [], .br false, .r [] [], .r [] [], .code [.any (rg [(1, 1), (3, 4), (13, 11)]), .drop [3], .ren 23 900, .weak 8 (i64 (↑0 : Int)), .sort] (Exit.exit 0) (zO oz5), .r [] []]) (r := AV.tup [AV.sl 3 (List.map shpC (growL nextE l a l.length)), i64 (↑(List.map nodC l).length : Int), i64 0]) Try.func71 (by kernel_rfl) (.c oz0 <| .c (show (elems a.h a.x a.c == 0) = false by (refine decide_eq_false ?_; omega)) <| .c (show ((↑(List.map nodC l).length : Int) == 0) = false by (simp only [decide_eq_true_eq, decide_eq_false_iff_not, beq_iff_eq, bne_iff_ne, ne_eq, beq_eq_false_iff_ne, bne_eq_false_iff_eq, Bool.not_eq_true', Bool.not_eq_false', Bool.not_eq_eq_eq_not, Bool.not_true, Bool.not_false, Classical.not_not, Int.not_lt, Int.not_le, Bool.and_eq_true, Bool.and_eq_false_iff, Bool.or_eq_true, Bool.or_eq_false_iff, Bool.and_true, Bool.true_and, Bool.and_false, Bool.false_and, Bool.or_false, Bool.false_or, eqNums, List.length_map, List.length_append, List.length_cons, List.length_nil, List.length_set, List.length_replicate, List.length_take, List.length_drop, List.length_range, Int.toNat_natCast, Nat.zero_add, List.map_eq_nil_iff]; (first | done | with_reducible assumption | omega | contradiction))) <| .c (show decide ((↑(List.map nodC l).length : Int) > 8) = false by (simp; omega)) <| .c (Weak.int (k := .i64) (show ((0) : Int) = ((↑0 : Int)) from (by omega))) <| .c oz5 <| .n)).weak (WeakL.refl _) (Weak.tup (.cons (.refl _) (.cons (Weak.int (show (((↑(List.map nodC l).length : Int)) : Int) = ((↑l.length : Int)) from (by (simp; done)))) (.cons (.refl _) .nil))))

set_option maxRecDepth 100000 in
set_option maxHeartbeats 2000000 in
theorem rshapes_a (l : List Nod) (a : Shp) (i : a.Ok) (hl : l.length ≤ 1000) (h : ¬ 0 < elems a.h a.x a.c ∨ l.length = 0 ∨ 8 < l.length) : VC Try.prog 71 ([.sl 19 (l.map nodC), shp a]) (.tup [nilv, i64 (shapesE l a).1, i64 (shapesE l a).2]) := by
  have q := elems_in a.h a.x a.c
  obtain ⟨p1, p2, p3⟩ := id i
  have oz0 := @refElems_v (a.h) (a.x) (a.c) p1 p2 p3
  rcases Bool.eq_false_or_eq_true (elems a.h a.x a.c == 0) with hc0 | hc0
  · have gc0 : elems a.h a.x a.c = 0 := bet hc0
    exact (VC.run (fn := Try.f71) (W := [.r [] [], .r [] [.callr (rO oz0)], .br true, .r [] []]) (r := AV.tup [AV.lit (Value.slice none 0 0), i64 (-1), i64 5]) Try.func71 (by kernel_rfl) (.c oz0 <| .c hc0 <| .n)).weak (WeakL.refl _) (Weak.tup (.cons (.refl _) (.cons (Weak.int (show ((-1) : Int) = ((shapesE l a).fst) from (by (unfold shapesE; (try simp only [List.length_map] at *); (repeat first | rw [if_pos (by omega)] | rw [if_neg (by omega)]))))) (.cons (Weak.int (show ((5) : Int) = ((shapesE l a).snd) from (by (unfold shapesE; (try simp only [List.length_map] at *); (repeat first | rw [if_pos (by omega)] | rw [if_neg (by omega)]))))) .nil))))
  · have gc0 : ¬elems a.h a.x a.c = 0 := bef hc0
    rcases Bool.eq_false_or_eq_true ((↑(List.map nodC l).length : Int) == 0) with hc1 | hc1
    · have gc1 : (↑(List.map nodC l).length : Int) = 0 := bet hc1
      exact (VC.run (fn := Try.f71) (W := [.r [] [], .r [] [.callr (rO oz0)], .br false, .r [] [], .br true, .r [] []]) (r := AV.tup [AV.lit (Value.slice none 0 0), i64 (-1), i64 12]) Try.func71 (by kernel_rfl) (.c oz0 <| .c hc0 <| .c hc1 <| .n)).weak (WeakL.refl _) (Weak.tup (.cons (.refl _) (.cons (Weak.int (show ((-1) : Int) = ((shapesE l a).fst) from (by (unfold shapesE; (try simp only [List.length_map] at *); (repeat first | rw [if_pos (by omega)] | rw [if_neg (by omega)]))))) (.cons (Weak.int (show ((12) : Int) = ((shapesE l a).snd) from (by (unfold shapesE; (try simp only [List.length_map] at *); (repeat first | rw [if_pos (by omega)] | rw [if_neg (by omega)]))))) .nil))))
    · have gc1 : ¬(↑(List.map nodC l).length : Int) = 0 := bef hc1
      exact (VC.run (fn := Try.f71) (W := [.r [] [], .r [] [.callr (rO oz0)], .br false, .r [] [], .br false, .r [] [], .br true, .r [] []]) (r := AV.tup [AV.lit (Value.slice none 0 0), i64 (-1), i64 4]) Try.func71 (by kernel_rfl) (.c oz0 <| .c hc0 <| .c hc1 <| .c (show decide ((↑(List.map nodC l).length : Int) > 8) = true by (simp only [decide_eq_true_eq, decide_eq_false_iff_not, beq_iff_eq, bne_iff_ne, ne_eq, beq_eq_false_iff_ne, bne_eq_false_iff_eq, Bool.not_eq_true', Bool.not_eq_false', Bool.not_eq_eq_eq_not, Bool.not_true, Bool.not_false, Classical.not_not, Int.not_lt, Int.not_le, Bool.and_eq_true, Bool.and_eq_false_iff, Bool.or_eq_true, Bool.or_eq_false_iff, Bool.and_true, Bool.true_and, Bool.and_false, Bool.false_and, Bool.or_false, Bool.false_or, eqNums, List.length_map, List.length_append, List.length_cons, List.length_nil, List.length_set, List.length_replicate, List.length_take, List.length_drop, List.length_range, Int.toNat_natCast, Nat.zero_add, List.map_eq_nil_iff] at *; (first | done | with_reducible assumption | omega | contradiction))) <| .n)).weak (WeakL.refl _) (Weak.tup (.cons (.refl _) (.cons (Weak.int (show ((-1) : Int) = ((shapesE l a).fst) from (by (unfold shapesE; (try simp only [List.length_map] at *); (repeat first | rw [if_pos (by omega)] | rw [if_neg (by omega)]))))) (.cons (Weak.int (show ((4) : Int) = ((shapesE l a).snd) from (by (unfold shapesE; (try simp only [List.length_map] at *); (repeat first | rw [if_pos (by omega)] | rw [if_neg (by omega)]))))) .nil))))

set_option maxRecDepth 100000 in
set_option maxHeartbeats 2000000 in
theorem rshapes_m (l : List Nod) (a : Shp) (m : Nat) (okl : ∀ n ∈ l, n.Ok) (wl : ∀ n ∈ l, n.w.length ≤ 100000 ∧ n.b.length ≤ 100000) (i : 0 < elems a.h a.x a.c) (f8 : l.length ≤ 8) (hm : m < l.length) (hf : errL nextE l a m ≠ 0) (h : ∀ k, k < m → errL nextE l a k = 0) : VC Try.prog 71 ([.sl 19 (l.map nodC), shp a]) (.tup [nilv, i64 m, i64 (errL nextE l a m)]) := by
  have q := Shp.Rt.ok i
  obtain ⟨p1, p2, p3⟩ := id q
  have oz0 := @refElems_v (a.h) (a.x) (a.c) p1 p2 p3
  have oz5 := @rshapes_ln (l) (a) (m) okl wl q f8 hm hf h
  exact VC.run (fn := Try.f71) (W := [.r [] [], .r [] [.callr (rO oz0)], .br false, .r [] [], .br false, .r [] [], .br false, .r [] [], .r [] [], .code [.any (rg [(1, 1), (3, 4), (13, 11)]), .drop [3], .ren 23 900, .weak 8 (i64 (↑0 : Int)), .sort] (Exit.ret) (zO oz5)]) Try.func71 (by kernel_rfl) (.c oz0 <| .c (show (elems a.h a.x a.c == 0) = false by (refine decide_eq_false ?_; omega)) <| .c (show ((↑(List.map nodC l).length : Int) == 0) = false by (simp only [decide_eq_true_eq, decide_eq_false_iff_not, beq_iff_eq, bne_iff_ne, ne_eq, beq_eq_false_iff_ne, bne_eq_false_iff_eq, Bool.not_eq_true', Bool.not_eq_false', Bool.not_eq_eq_eq_not, Bool.not_true, Bool.not_false, Classical.not_not, Int.not_lt, Int.not_le, Bool.and_eq_true, Bool.and_eq_false_iff, Bool.or_eq_true, Bool.or_eq_false_iff, Bool.and_true, Bool.true_and, Bool.and_false, Bool.false_and, Bool.or_false, Bool.false_or, eqNums, List.length_map, List.length_append, List.length_cons, List.length_nil, List.length_set, List.length_replicate, List.length_take, List.length_drop, List.length_range, Int.toNat_natCast, Nat.zero_add, List.map_eq_nil_iff]; (first | done | with_reducible assumption | omega | contradiction))) <| .c (show decide ((↑(List.map nodC l).length : Int) > 8) = false by (simp; omega)) <| .c (Weak.int (k := .i64) (show ((0) : Int) = ((↑0 : Int)) from (by omega))) <| .c oz5 <| .n)
theorem rshapes_n (l : List Nod) (a : Shp) (okl : ∀ n ∈ l, n.Ok) (wl : ∀ n ∈ l, n.w.length ≤ 100000 ∧ n.b.length ≤ 100000) (i : a.Ok) (hl : l.length ≤ 1000) (h : ¬ SOK l a) : VC Try.prog 71 [.sl 19 (l.map nodC), shp a] (.tup [nilv, i64 (shapesE l a).1, i64 (shapesE l a).2]) := by
  rcases SOK.cases l a with q | q | q | q | ⟨i', e, f, m, h1, h2, h3⟩
  · exact absurd q h
  · exact rshapes_a l a i hl (.inl q)
  · exact rshapes_a l a i hl (.inr (.inl q))
  · exact rshapes_a l a i hl (.inr (.inr q))
  · rw [shapesE_at i' e f h1 h2 h3]; exact rshapes_m l a m okl wl i' f h1 h2 h3
end Go.Proofs.Ytgecmooedhnenaa

/- All values of a block, by the document. No condition. -/
namespace Go.Proofs.Ytgecmooedhnenaa
open Go.RowKit
set_option linter.unusedSimpArgs false
set_option linter.unusedVariables false
set_option linter.unnecessarySimpa false

instance : Inhabited Ten := ⟨ten0⟩
abbrev tnC (T : Ten) : List AV := [i64 T.h, i64 T.x, i64 T.c, ints .i8 T.d]
theorem ten0_ok : (ten0 : Ten).Ok := ⟨by decide, by decide, by decide, by simp⟩
theorem heldQ8 (v m s z : Int) {lo hi : Int} (h1 : In8 lo) (h2 : In8 hi) : In8 (heldQ v m s z lo hi) := by
  unfold heldQ; split
  · exact clamp_in _ h1 h2
  · decide
theorem joinE8 (x y : Int) {n : Nod} (ok : n.Ok) : In8 (joinE x y n) := by
  unfold joinE; split
  · exact clamp_in _ ok.lo ok.hi
  · decide
theorem map8 {α : Type} {f : α → Int} (hf : ∀ a, In8 (f a)) (l : List α) : ∀ v ∈ l.map f, In8 v := by
  intro v hv
  obtain ⟨a, _, rfl⟩ := List.mem_map.1 hv
  exact hf a
theorem meanE8 (l : List Int) : In8 (meanE l) := by unfold meanE In8 IntKind.wrap; simp [IntKind.bits, IntKind.signed]; omega
theorem poolF8 {T : Ten} (ok : T.Ok) (n : Nod) (s : Shp) (m : Bool) (i : Nat) : In8 (poolF T n s m i) := by
  unfold poolF; split
  · exact (reach8 (winI_8 ok _ _ _ _ _) _).2
  · exact meanE8 _
theorem poolOf_ok {T : Ten} {n : Nod} (ok : T.Ok) (okn : n.Ok) (m : Bool) : (poolOf T n m).1.Ok := by
  unfold poolOf
  split
  · split
    · rename_i h1 h2
      obtain ⟨r, _, _, _, _, _, _, _, _, _, _, _, sc, h3, h4, h5, h6, _, _⟩ := PlOk.n ⟨ok, okn, h1, h2⟩
      have r1 := r.c1; have r2 := r.c2
      exact ⟨by dsimp only; omega, by dsimp only; omega, by dsimp only; omega, map8 (poolF8 ok n _ m) _⟩
    · exact ten0_ok
  · exact ten0_ok
theorem actOf_ok {T : Ten} {n : Nod} (ok : T.Ok) (okn : n.Ok) : (actOf T n).1.Ok := by
  unfold actOf
  split
  · exact ten0_ok
  · split
    · exact ten0_ok
    · exact ⟨ok.h, ok.x, ok.c, map8 (fun v => heldQ8 _ _ _ _ okn.lo okn.hi) _⟩
theorem joinOf_ok {T U : Ten} {n : Nod} (ok : T.Ok) (okn : n.Ok) : (joinOf T U n).1.Ok := by
  unfold joinOf
  split
  · exact ten0_ok
  · split
    · exact ten0_ok
    · exact ⟨ok.h, ok.x, ok.c, map8 (fun i => joinE8 _ _ okn) _⟩
theorem padOf_ok {T : Ten} (ok : T.Ok) {p z : Int} (hz : In8 z) : (padOf T p z).1.Ok := by
  unfold padOf
  split
  · exact ten0_ok
  · rename_i h
    have c := elems_ok (h := T.h + 2 * p) (x := T.x + 2 * p) (c := T.c) (by have := elems_in (T.h + 2 * p) (T.x + 2 * p) T.c; omega)
    exact ⟨by dsimp only; omega, by dsimp only; omega, by dsimp only; omega, gH_in8 (fun h w c => pix8 ok hz _ _ _) _ _ _⟩
theorem putOf_ok {A : Ten} {n : Nod} (ok : A.Ok32) (okn : n.Ok) : (putOf A n).1.Ok := by
  unfold putOf
  split
  · exact ten0_ok
  · split
    · exact ten0_ok
    · exact ⟨ok.h, ok.x, ok.c, map8 (fun v => heldQ8 _ _ _ _ okn.lo okn.hi) _⟩
theorem nodeOf_ok {n : Nod} {A B : Ten} (okn : n.Ok) (okA : A.Ok) : (nodeOf n A B).1.Ok := by
  unfold nodeOf
  split
  · exact ten0_ok
  · split
    · exact ten0_ok
    · rename_i h1 h2
      split
      · exact poolOf_ok okA okn true
      · split
        · exact poolOf_ok okA okn false
        · split
          · exact joinOf_ok okA okn
          · split
            · exact actOf_ok okA okn
            · split
              · split
                · exact ten0_ok
                · exact padOf_ok okA okn.za
              · split
                · have r := tenRight.rt (T := A) (by simpa using h2)
                  have r1 := r.dl; have r2 := r.el
                  exact ⟨by dsimp only; omega, by dsimp only; omega, by dsimp only; omega, okA.d⟩
                · split
                  · exact ten0_ok
                  · exact putOf_ok (sumOf_ok okA okn) okn
/-- The next value of a block, or what is wrong with it. -/
def valE (n : Nod) (L : List Ten) : Ten × Int := nodeOf n (L.getD n.na.toNat default) (L.getD (secN n).toNat default)
theorem valE_eq (n : Nod) (L : List Ten) : nodeOf n (L.getD n.na.toNat default) (L.getD (secN n).toNat default) = valE n L := rfl
theorem getD_all {α : Type} [Inhabited α] {p : α → Prop} (h0 : p default) {l : List α} (h : ∀ y ∈ l, p y) (i : Nat) : p (l.getD i default) := by
  rw [List.getD_eq_getElem?_getD]
  cases e : l[i]? with
  | none => exact h0
  | some y => exact h y (List.mem_of_getElem? e)
theorem val_ok {l : List Nod} (okl : ∀ n ∈ l, n.Ok) {x : Ten} (ok : x.Ok) {k : Nat} (hk : k ≤ l.length) : ∀ T ∈ growL valE l x k, T.Ok :=
  growL_all (n := l.length) ok (fun j hj h => nodeOf_ok (getD_in okl hj) (getD_all (p := Ten.Ok) ten0_ok h _)) k hk
structure VOK (l : List Nod) (x : Ten) : Prop where
  okl : ∀ n ∈ l, n.Ok
  wl : ∀ n ∈ l, n.w.length ≤ 100000 ∧ n.b.length ≤ 100000
  ok : x.Ok
  s : SOK l ⟨x.h, x.x, x.c⟩
theorem VOK.takes {l : List Nod} {x : Ten} (h : VOK l x) {k : Nat} (hk : k < l.length) : 0 ≤ (l.getD k default).na ∧ (l.getD k default).na ≤ k ∧ 0 ≤ secN (l.getD k default) ∧ secN (l.getD k default) ≤ k := by
  have q := h.s.k k hk
  unfold errL at q
  have c := (nextE_ok q).2.1
  rw [List.length_map, growL_len] at c
  have := there_iff.1 c
  omega
noncomputable def rvals_ly_I (l : List Nod) (x : Ten) (k : Nat) : VS := stt 72 [(0, .sl 19 (l.map nodC)), (10, .own 900), (11, i64 k)] [(900, .slc 27 4 ((growL valE l x k).map tnC))]
noncomputable def rvals_ly_Z (l : List Nod) (x : Ten) : VS := rvals_ly_I l x (l.length)
set_option maxRecDepth 100000 in
set_option maxHeartbeats 2000000 in
theorem rvals_ly_s (l : List Nod) (x : Ten) (v : VOK l x) (h : ∀ k, k < l.length → errL valE l x k = 0) (k : Nat) (hk : k < l.length) : VT Try.prog (fnC Try.f17 [1, 1, 1, 1, 1, 0, 1, 0, 0]) (rvals_ly_I l x k) .normal (rvals_ly_I l x (k + 1)) := by
  have q := h k hk
  have f8 := v.s.f
  have q1 := growL_len valE l x k
  have q2 := val_ok v.okl v.ok (Nat.le_of_lt hk)
  have q3 := getD_in v.okl hk
  have q4 := getD_in v.wl hk
  obtain ⟨q5, q6⟩ := q4
  obtain ⟨t1, t2, t3, t4⟩ := v.takes hk
  have q8 : (List.map tnC (growL valE l x k)).length = k + 1 := by rw [List.length_map, q1]
  have q9 := getD_all (p := Ten.Ok) ten0_ok q2 (l.getD k default).na.toNat
  have qa := getD_all (p := Ten.Ok) ten0_ok q2 (secN (l.getD k default)).toNat
  unfold errL at q
  have oz1 := (show 0 ≤ (↑k : Int) by omega)
  have oz2 := (map_at (nodC) (default) (l := l) (i := k) hk)
  have oz7 := (map_at (tnC) (default) (l := growL valE l x k) (i := (l.getD k default).na.toNat) (by omega))
  have oz10 := @refSecond_v (l.getD k default)
  have oz13 := (map_at (tnC) (default) (l := growL valE l x k) (i := (secN (l.getD k default)).toNat) (by omega))
  have oz14 := @rnode_v (l.getD k default) ((growL valE l x k).getD (l.getD k default).na.toNat default) ((growL valE l x k).getD (secN (l.getD k default)).toNat default) q3 q5 q6 q9 qa
  exact VT.run (W := [.r [] [], .br true, .r [] [.row (sO oz2), .row (sO oz2), .row (sO oz7), .row (sO oz2), .callr (rO oz10), .row (sO oz13), .callr (rO oz14)], .r [] [], .br false, .r [] [], .r [] [.n ((↑k : Int) + 1)]]) (G := [.any (rg [(12, 2), (31, 32), (65, 4)]), .drop [12, 67], .ren 68 900, .weak 11 (i64 (↑(k + 1) : Int)), .blk 900 (Blk.slc 27 4 (List.map tnC (growL valE l x (k + 1)))), .sort]) (by kernel_rfl) (.c (show decide ((↑k : Int) < (↑(List.map nodC l).length : Int)) = true by (simp; omega)) <| .c oz1 <| .c oz2 <| .c oz1 <| .c oz2 <| .c t1 <| .c (show (l.getD k default).na < (↑(List.map tnC (growL valE l x k)).length : Int) by omega) <| .c oz7 <| .c oz1 <| .c oz2 <| .c oz10 <| .c t3 <| .c (show secN (l.getD k default) < (↑(List.map tnC (growL valE l x k)).length : Int) by omega) <| .c oz13 <| .c oz14 <| .c (show ((nodeOf (l.getD k default) ((growL valE l x k).getD (l.getD k default).na.toNat default) ((growL valE l x k).getD (secN (l.getD k default)).toNat default)).snd != 0) = false by (rw [valE_eq, q]; rfl)) <| .c (show ((List.map tnC (growL valE l x k)).length + 1) * 48 ≤ 140737488355328 by omega) <| .c (show (List.map tnC (growL valE l x k)).length + 1 ≤ 9223372036854775807 by omega) <| .c (IntWalk.i64_in ((↑k : Int) + 1) (by omega)) <| .c (Weak.int (k := .i64) (show (((↑k : Int) + 1) : Int) = ((↑(k + 1) : Int)) from (by omega))) <| .c (show BlkW (Blk.slc 27 4 (List.map tnC (growL valE l x k) ++ [[i64 (nodeOf (l.getD k default) ((growL valE l x k).getD (l.getD k default).na.toNat default) ((growL valE l x k).getD (secN (l.getD k default)).toNat default)).fst.h, i64 (nodeOf (l.getD k default) ((growL valE l x k).getD (l.getD k default).na.toNat default) ((growL valE l x k).getD (secN (l.getD k default)).toNat default)).fst.x, i64 (nodeOf (l.getD k default) ((growL valE l x k).getD (l.getD k default).na.toNat default) ((growL valE l x k).getD (secN (l.getD k default)).toNat default)).fst.c, AV.sl 1 (List.map (row1 IntKind.i8) (nodeOf (l.getD k default) ((growL valE l x k).getD (l.getD k default).na.toNat default) ((growL valE l x k).getD (secN (l.getD k default)).toNat default)).fst.d)]])) (Blk.slc 27 4 (List.map tnC (growL valE l x (k + 1)))) from (BlkW.rows (rows_to (tnC) (r := List.map tnC (growL valE l x k) ++ [[i64 (nodeOf (l.getD k default) ((growL valE l x k).getD (l.getD k default).na.toNat default) ((growL valE l x k).getD (secN (l.getD k default)).toNat default)).fst.h, i64 (nodeOf (l.getD k default) ((growL valE l x k).getD (l.getD k default).na.toNat default) ((growL valE l x k).getD (secN (l.getD k default)).toNat default)).fst.x, i64 (nodeOf (l.getD k default) ((growL valE l x k).getD (l.getD k default).na.toNat default) ((growL valE l x k).getD (secN (l.getD k default)).toNat default)).fst.c, AV.sl 1 (List.map (row1 IntKind.i8) (nodeOf (l.getD k default) ((growL valE l x k).getD (l.getD k default).na.toNat default) ((growL valE l x k).getD (secN (l.getD k default)).toNat default)).fst.d)]]) (l := growL valE l x k ++ [Ten.mk (nodeOf (l.getD k default) ((growL valE l x k).getD (l.getD k default).na.toNat default) ((growL valE l x k).getD (secN (l.getD k default)).toNat default)).fst.h (nodeOf (l.getD k default) ((growL valE l x k).getD (l.getD k default).na.toNat default) ((growL valE l x k).getD (secN (l.getD k default)).toNat default)).fst.x (nodeOf (l.getD k default) ((growL valE l x k).getD (l.getD k default).na.toNat default) ((growL valE l x k).getD (secN (l.getD k default)).toNat default)).fst.c (nodeOf (l.getD k default) ((growL valE l x k).getD (l.getD k default).na.toNat default) ((growL valE l x k).getD (secN (l.getD k default)).toNat default)).fst.d]) (m := growL valE l x (k + 1)) (by first | (simp only [List.map_append, List.map_cons, List.map_nil, List.map_set, List.map_replicate, List.map_take, List.map_drop]; done) | rfl | (simp only [List.map_append, List.map_cons, List.map_nil, List.map_set, List.map_replicate, List.map_take, List.map_drop]; rfl) | (simp only [List.map_append, List.map_cons, List.map_nil, List.map_set, List.map_replicate, List.map_take, List.map_drop, tnC, ints]; done)) (show (growL valE l x k ++ [Ten.mk (nodeOf (l.getD k default) ((growL valE l x k).getD (l.getD k default).na.toNat default) ((growL valE l x k).getD (secN (l.getD k default)).toNat default)).fst.h (nodeOf (l.getD k default) ((growL valE l x k).getD (l.getD k default).na.toNat default) ((growL valE l x k).getD (secN (l.getD k default)).toNat default)).fst.x (nodeOf (l.getD k default) ((growL valE l x k).getD (l.getD k default).na.toNat default) ((growL valE l x k).getD (secN (l.getD k default)).toNat default)).fst.c (nodeOf (l.getD k default) ((growL valE l x k).getD (l.getD k default).na.toNat default) ((growL valE l x k).getD (secN (l.getD k default)).toNat default)).fst.d]) = (growL valE l x (k + 1)) from (by (rw [growL, valE])))))) <| .n)
set_option maxRecDepth 100000 in
set_option maxHeartbeats 2000000 in
theorem rvals_ly_e (l : List Nod) (x : Ten) (v : VOK l x) (h : ∀ k, k < l.length → errL valE l x k = 0) : VT Try.prog (fnC Try.f17 [1, 1, 1, 1, 1, 0, 1, 0, 0]) (rvals_ly_I l x (l.length)) (.exit 0) (rvals_ly_Z l x) := by
  exact VT.run (W := [.r [] [], .br false]) (G := [.any (rg [(31, 4)]), .sort]) (by kernel_rfl) (.c (show decide ((↑l.length : Int) < (↑(List.map nodC l).length : Int)) = false by (simp; done)) <| .n)
theorem rvals_ly (l : List Nod) (x : Ten) (v : VOK l x) (h : ∀ k, k < l.length → errL valE l x k = 0) : VT Try.prog (fnC Try.f17 [1, 1, 1, 1, 1, 0, 1, 0]) (rvals_ly_I l x 0) (.exit 0) (rvals_ly_Z l x) :=
  VT.loop (fun k => rvals_ly_I l x k) (l.length) (fun k hk => rvals_ly_s l x v h k hk) (rvals_ly_e l x v h) (by intro h; cases h)

noncomputable def rvals_ln_I (l : List Nod) (x : Ten) (m : Nat) (k : Nat) : VS := stt 72 [(0, .sl 19 (l.map nodC)), (10, .own 900), (11, i64 k)] [(900, .slc 27 4 ((growL valE l x k).map tnC))]
noncomputable def rvals_ln_Z (l : List Nod) (x : Ten) (m : Nat) : VS := stt 72 [(4, nilv), (5, i64 m), (6, i64 (errL valE l x m))] []
set_option maxRecDepth 100000 in
set_option maxHeartbeats 2000000 in
theorem rvals_ln_s (l : List Nod) (x : Ten) (m : Nat) (v : VOK l x) (hm : m < l.length) (hf : errL valE l x m ≠ 0) (h : ∀ k, k < m → errL valE l x k = 0) (k : Nat) (hk : k < m) : VT Try.prog (fnC Try.f17 [1, 1, 1, 1, 1, 0, 1, 0, 0]) (rvals_ln_I l x m k) .normal (rvals_ln_I l x m (k + 1)) := by
  have q := h k hk
  have f8 := v.s.f
  have q0 : k < l.length := by omega
  have q1 := growL_len valE l x k
  have q2 := val_ok v.okl v.ok (Nat.le_of_lt q0)
  have q3 := getD_in v.okl q0
  have q4 := getD_in v.wl q0
  obtain ⟨q5, q6⟩ := q4
  obtain ⟨t1, t2, t3, t4⟩ := v.takes q0
  have q8 : (List.map tnC (growL valE l x k)).length = k + 1 := by rw [List.length_map, q1]
  have q9 := getD_all (p := Ten.Ok) ten0_ok q2 (l.getD k default).na.toNat
  have qa := getD_all (p := Ten.Ok) ten0_ok q2 (secN (l.getD k default)).toNat
  unfold errL at q
  have oz1 := (show 0 ≤ (↑k : Int) by omega)
  have oz2 := (map_at (nodC) (default) (l := l) (i := k) q0)
  have oz7 := (map_at (tnC) (default) (l := growL valE l x k) (i := (l.getD k default).na.toNat) (by omega))
  have oz10 := @refSecond_v (l.getD k default)
  have oz13 := (map_at (tnC) (default) (l := growL valE l x k) (i := (secN (l.getD k default)).toNat) (by omega))
  have oz14 := @rnode_v (l.getD k default) ((growL valE l x k).getD (l.getD k default).na.toNat default) ((growL valE l x k).getD (secN (l.getD k default)).toNat default) q3 q5 q6 q9 qa
  exact VT.run (W := [.r [] [], .br true, .r [] [.row (sO oz2), .row (sO oz2), .row (sO oz7), .row (sO oz2), .callr (rO oz10), .row (sO oz13), .callr (rO oz14)], .r [] [], .br false, .r [] [], .r [] [.n ((↑k : Int) + 1)]]) (G := [.any (rg [(12, 2), (31, 32), (65, 4)]), .drop [12, 67], .ren 68 900, .weak 11 (i64 (↑(k + 1) : Int)), .blk 900 (Blk.slc 27 4 (List.map tnC (growL valE l x (k + 1)))), .sort]) (by kernel_rfl) (.c (show decide ((↑k : Int) < (↑(List.map nodC l).length : Int)) = true by (simp; omega)) <| .c oz1 <| .c oz2 <| .c oz1 <| .c oz2 <| .c t1 <| .c (show (l.getD k default).na < (↑(List.map tnC (growL valE l x k)).length : Int) by omega) <| .c oz7 <| .c oz1 <| .c oz2 <| .c oz10 <| .c t3 <| .c (show secN (l.getD k default) < (↑(List.map tnC (growL valE l x k)).length : Int) by omega) <| .c oz13 <| .c oz14 <| .c (show ((nodeOf (l.getD k default) ((growL valE l x k).getD (l.getD k default).na.toNat default) ((growL valE l x k).getD (secN (l.getD k default)).toNat default)).snd != 0) = false by (rw [valE_eq, q]; rfl)) <| .c (show ((List.map tnC (growL valE l x k)).length + 1) * 48 ≤ 140737488355328 by omega) <| .c (show (List.map tnC (growL valE l x k)).length + 1 ≤ 9223372036854775807 by omega) <| .c (IntWalk.i64_in ((↑k : Int) + 1) (by omega)) <| .c (Weak.int (k := .i64) (show (((↑k : Int) + 1) : Int) = ((↑(k + 1) : Int)) from (by omega))) <| .c (show BlkW (Blk.slc 27 4 (List.map tnC (growL valE l x k) ++ [[i64 (nodeOf (l.getD k default) ((growL valE l x k).getD (l.getD k default).na.toNat default) ((growL valE l x k).getD (secN (l.getD k default)).toNat default)).fst.h, i64 (nodeOf (l.getD k default) ((growL valE l x k).getD (l.getD k default).na.toNat default) ((growL valE l x k).getD (secN (l.getD k default)).toNat default)).fst.x, i64 (nodeOf (l.getD k default) ((growL valE l x k).getD (l.getD k default).na.toNat default) ((growL valE l x k).getD (secN (l.getD k default)).toNat default)).fst.c, AV.sl 1 (List.map (row1 IntKind.i8) (nodeOf (l.getD k default) ((growL valE l x k).getD (l.getD k default).na.toNat default) ((growL valE l x k).getD (secN (l.getD k default)).toNat default)).fst.d)]])) (Blk.slc 27 4 (List.map tnC (growL valE l x (k + 1)))) from (BlkW.rows (rows_to (tnC) (r := List.map tnC (growL valE l x k) ++ [[i64 (nodeOf (l.getD k default) ((growL valE l x k).getD (l.getD k default).na.toNat default) ((growL valE l x k).getD (secN (l.getD k default)).toNat default)).fst.h, i64 (nodeOf (l.getD k default) ((growL valE l x k).getD (l.getD k default).na.toNat default) ((growL valE l x k).getD (secN (l.getD k default)).toNat default)).fst.x, i64 (nodeOf (l.getD k default) ((growL valE l x k).getD (l.getD k default).na.toNat default) ((growL valE l x k).getD (secN (l.getD k default)).toNat default)).fst.c, AV.sl 1 (List.map (row1 IntKind.i8) (nodeOf (l.getD k default) ((growL valE l x k).getD (l.getD k default).na.toNat default) ((growL valE l x k).getD (secN (l.getD k default)).toNat default)).fst.d)]]) (l := growL valE l x k ++ [Ten.mk (nodeOf (l.getD k default) ((growL valE l x k).getD (l.getD k default).na.toNat default) ((growL valE l x k).getD (secN (l.getD k default)).toNat default)).fst.h (nodeOf (l.getD k default) ((growL valE l x k).getD (l.getD k default).na.toNat default) ((growL valE l x k).getD (secN (l.getD k default)).toNat default)).fst.x (nodeOf (l.getD k default) ((growL valE l x k).getD (l.getD k default).na.toNat default) ((growL valE l x k).getD (secN (l.getD k default)).toNat default)).fst.c (nodeOf (l.getD k default) ((growL valE l x k).getD (l.getD k default).na.toNat default) ((growL valE l x k).getD (secN (l.getD k default)).toNat default)).fst.d]) (m := growL valE l x (k + 1)) (by first | (simp only [List.map_append, List.map_cons, List.map_nil, List.map_set, List.map_replicate, List.map_take, List.map_drop]; done) | rfl | (simp only [List.map_append, List.map_cons, List.map_nil, List.map_set, List.map_replicate, List.map_take, List.map_drop]; rfl) | (simp only [List.map_append, List.map_cons, List.map_nil, List.map_set, List.map_replicate, List.map_take, List.map_drop, tnC, ints]; done)) (show (growL valE l x k ++ [Ten.mk (nodeOf (l.getD k default) ((growL valE l x k).getD (l.getD k default).na.toNat default) ((growL valE l x k).getD (secN (l.getD k default)).toNat default)).fst.h (nodeOf (l.getD k default) ((growL valE l x k).getD (l.getD k default).na.toNat default) ((growL valE l x k).getD (secN (l.getD k default)).toNat default)).fst.x (nodeOf (l.getD k default) ((growL valE l x k).getD (l.getD k default).na.toNat default) ((growL valE l x k).getD (secN (l.getD k default)).toNat default)).fst.c (nodeOf (l.getD k default) ((growL valE l x k).getD (l.getD k default).na.toNat default) ((growL valE l x k).getD (secN (l.getD k default)).toNat default)).fst.d]) = (growL valE l x (k + 1)) from (by (rw [growL, valE])))))) <| .n)
set_option maxRecDepth 100000 in
set_option maxHeartbeats 2000000 in
theorem rvals_ln_e (l : List Nod) (x : Ten) (m : Nat) (v : VOK l x) (hm : m < l.length) (hf : errL valE l x m ≠ 0) (h : ∀ k, k < m → errL valE l x k = 0) : VT Try.prog (fnC Try.f17 [1, 1, 1, 1, 1, 0, 1, 0, 0]) (rvals_ln_I l x m (m)) (.ret) (rvals_ln_Z l x m) := by
  have f8 := v.s.f
  have q1 := growL_len valE l x m
  have q2 := val_ok v.okl v.ok (Nat.le_of_lt hm)
  have q3 := getD_in v.okl hm
  have q4 := getD_in v.wl hm
  obtain ⟨q5, q6⟩ := q4
  obtain ⟨t1, t2, t3, t4⟩ := v.takes hm
  have q8 : (List.map tnC (growL valE l x m)).length = m + 1 := by rw [List.length_map, q1]
  have q9 := getD_all (p := Ten.Ok) ten0_ok q2 (l.getD m default).na.toNat
  have qa := getD_all (p := Ten.Ok) ten0_ok q2 (secN (l.getD m default)).toNat
  unfold errL at hf
  have oz1 := (show 0 ≤ (↑m : Int) by omega)
  have oz2 := (map_at (nodC) (default) (l := l) (i := m) hm)
  have oz7 := (map_at (tnC) (default) (l := growL valE l x m) (i := (l.getD m default).na.toNat) (by omega))
  have oz10 := @refSecond_v (l.getD m default)
  have oz13 := (map_at (tnC) (default) (l := growL valE l x m) (i := (secN (l.getD m default)).toNat) (by omega))
  have oz14 := @rnode_v (l.getD m default) ((growL valE l x m).getD (l.getD m default).na.toNat default) ((growL valE l x m).getD (secN (l.getD m default)).toNat default) q3 q5 q6 q9 qa
  have oz16 := (Weak.int (k := .i64) (show (((nodeOf (l.getD m default) ((growL valE l x m).getD (l.getD m default).na.toNat default) ((growL valE l x m).getD (secN (l.getD m default)).toNat default)).snd) : Int) = (errL valE l x m) from (by (unfold errL; rw [valE_eq]))))
  exact VT.run (W := [.r [] [], .br true, .r [] [.row (sO oz2), .row (sO oz2), .row (sO oz7), .row (sO oz2), .callr (rO oz10), .row (sO oz13), .callr (rO oz14)], .r [] [], .br true, .r [] []]) (G := [.any (rg [(0, 1), (10, 4), (31, 4), (37, 28)]), .drop [900, 12], .weak 6 (wO oz16), .sort]) (by kernel_rfl) (.c (show decide ((↑m : Int) < (↑(List.map nodC l).length : Int)) = true by (simp; omega)) <| .c oz1 <| .c oz2 <| .c oz1 <| .c oz2 <| .c t1 <| .c (show (l.getD m default).na < (↑(List.map tnC (growL valE l x m)).length : Int) by omega) <| .c oz7 <| .c oz1 <| .c oz2 <| .c oz10 <| .c t3 <| .c (show secN (l.getD m default) < (↑(List.map tnC (growL valE l x m)).length : Int) by omega) <| .c oz13 <| .c oz14 <| .c (show ((nodeOf (l.getD m default) ((growL valE l x m).getD (l.getD m default).na.toNat default) ((growL valE l x m).getD (secN (l.getD m default)).toNat default)).snd != 0) = true by (rw [valE_eq, bne_iff_ne]; exact hf)) <| .c oz16 <| .n)
theorem rvals_ln (l : List Nod) (x : Ten) (m : Nat) (v : VOK l x) (hm : m < l.length) (hf : errL valE l x m ≠ 0) (h : ∀ k, k < m → errL valE l x k = 0) : VT Try.prog (fnC Try.f17 [1, 1, 1, 1, 1, 0, 1, 0]) (rvals_ln_I l x m 0) (.ret) (rvals_ln_Z l x m) :=
  VT.loop (fun k => rvals_ln_I l x m k) (m) (fun k hk => rvals_ln_s l x m v hm hf h k hk) (rvals_ln_e l x m v hm hf h) (by intro h; cases h)
set_option maxRecDepth 100000 in
set_option maxHeartbeats 2000000 in
theorem rvals_y (l : List Nod) (x : Ten) (v : VOK l x) (r : tenRight x = true) (h : ∀ k, k < l.length → errL valE l x k = 0) : VC Try.prog 17 ([.sl 19 (l.map nodC), ten .i8 x]) (.tup [.sl 4 ((growL valE l x l.length).map tnC), i64 l.length, i64 0]) := by
  obtain ⟨v1, v2, v3, v4⟩ := id v
  have o1 := v3.h
  have o2 := v3.x
  have o3 := v3.c
  have oz0 := @refTRight_v (x) v3
  have oz2 := @rshapes_y (l) (Shp.mk x.h x.x x.c) v1 v2 v4
  have oz5 := @rvals_ly (l) (x) v h
  exact (VC.run (fn := Try.f17) (W := [.r [] [], .r [] [.callr (rO oz0)], .br false, .r [] [.callr (rO oz2)], .r [] [], .br false, .r [] [], .r [] [], .code [.any (rg [(1, 1), (3, 7), (14, 13), (29, 2)]), .drop [3], .ren 30 900, .weak 11 (i64 (↑0 : Int)), .sort] (Exit.exit 0) (zO oz5), .r [] []]) (r := AV.tup [AV.sl 4 (List.map tnC (growL valE l x l.length)), i64 (↑(List.map nodC l).length : Int), i64 0]) Try.func17 (by kernel_rfl) (.c oz0 <| .c (show (!tenRight x) = false by (simp; omega)) <| .c oz2 <| .c (show false = false by with_reducible rfl) <| .c (Weak.int (k := .i64) (show ((0) : Int) = ((↑0 : Int)) from (by omega))) <| .c oz5 <| .n)).weak (WeakL.refl _) (Weak.tup (.cons (.refl _) (.cons (Weak.int (show (((↑(List.map nodC l).length : Int)) : Int) = ((↑l.length : Int)) from (by (simp; done)))) (.cons (.refl _) .nil))))

set_option maxRecDepth 100000 in
set_option maxHeartbeats 2000000 in
theorem rvals_m (l : List Nod) (x : Ten) (m : Nat) (v : VOK l x) (r : tenRight x = true) (hm : m < l.length) (hf : errL valE l x m ≠ 0) (h : ∀ k, k < m → errL valE l x k = 0) : VC Try.prog 17 ([.sl 19 (l.map nodC), ten .i8 x]) (.tup [nilv, i64 m, i64 (errL valE l x m)]) := by
  obtain ⟨v1, v2, v3, v4⟩ := id v
  have o1 := v3.h
  have o2 := v3.x
  have o3 := v3.c
  have oz0 := @refTRight_v (x) v3
  have oz2 := @rshapes_y (l) (Shp.mk x.h x.x x.c) v1 v2 v4
  have oz5 := @rvals_ln (l) (x) (m) v hm hf h
  exact VC.run (fn := Try.f17) (W := [.r [] [], .r [] [.callr (rO oz0)], .br false, .r [] [.callr (rO oz2)], .r [] [], .br false, .r [] [], .r [] [], .code [.any (rg [(1, 1), (3, 7), (14, 13), (29, 2)]), .drop [3], .ren 30 900, .weak 11 (i64 (↑0 : Int)), .sort] (Exit.ret) (zO oz5)]) Try.func17 (by kernel_rfl) (.c oz0 <| .c (show (!tenRight x) = false by (simp; omega)) <| .c oz2 <| .c (show false = false by with_reducible rfl) <| .c (Weak.int (k := .i64) (show ((0) : Int) = ((↑0 : Int)) from (by omega))) <| .c oz5 <| .n)
/-- Where all ends, and what is wrong there. -/
def valsE (l : List Nod) (x : Ten) : Int × Int := if tenRight x = false then (-1, 5) else if (shapesE l ⟨x.h, x.x, x.c⟩).2 ≠ 0 then shapesE l ⟨x.h, x.x, x.c⟩ else
  if firstBad (fun k => errL valE l x k == 0) l.length < l.length then (firstBad (fun k => errL valE l x k == 0) l.length, errL valE l x (firstBad (fun k => errL valE l x k == 0) l.length)) else (l.length, 0)
theorem shapesE_bad {l : List Nod} {a : Shp} (h : ¬ SOK l a) : (shapesE l a).2 ≠ 0 := by
  rcases SOK.cases l a with q | q | q | q | ⟨i', e, f, m, h1, h2, h3⟩
  · exact absurd q h
  · unfold shapesE Shp.Rt at *; rw [if_pos q]; decide
  · unfold shapesE
    by_cases i : 0 < elems a.h a.x a.c
    · rw [if_neg (by omega), if_pos q]; decide
    · rw [if_pos i]; decide
  · unfold shapesE
    by_cases i : 0 < elems a.h a.x a.c
    · rw [if_neg (by omega), if_neg (by omega), if_pos q]; decide
    · rw [if_pos i]; decide
  · rw [shapesE_at i' e f h1 h2 h3]; exact h2
set_option maxRecDepth 100000 in
set_option maxHeartbeats 2000000 in
theorem rvals_n (l : List Nod) (x : Ten) (okl : ∀ n ∈ l, n.Ok) (wl : ∀ n ∈ l, n.w.length ≤ 100000 ∧ n.b.length ≤ 100000) (ok : x.Ok) (hl : l.length ≤ 1000) (hn : tenRight x = false ∨ ¬ SOK l ⟨x.h, x.x, x.c⟩) : VC Try.prog 17 ([.sl 19 (l.map nodC), ten .i8 x]) (.tup [nilv, i64 (valsE l x).1, i64 (valsE l x).2]) := by
  have o1 := ok.h
  have o2 := ok.x
  have o3 := ok.c
  have g1 := @shapesE_bad l ⟨x.h, x.x, x.c⟩
  have g2 : (!tenRight x) = false → ¬ SOK l ⟨x.h, x.x, x.c⟩ := fun h => by
    rcases hn with hn | hn
    · rw [hn] at h; cases h
    · exact hn
  have g3 : (!tenRight x) = false → (shapesE l ⟨x.h, x.x, x.c⟩).2 ≠ 0 := fun h => g1 (g2 h)
  have oz0 := @refTRight_v (x) ok
  rcases Bool.eq_false_or_eq_true (!tenRight x) with hc0 | hc0
  · have gc0 : tenRight x = false := by first | exact hc0 | exact of_decide_eq_true hc0 | exact of_decide_eq_false hc0 | simpa [eqNums] using hc0 | (simp [eqNums] at hc0 ⊢; first | done | assumption | omega)
    exact (VC.run (fn := Try.f17) (W := [.r [] [], .r [] [.callr (rO oz0)], .br true, .r [] []]) (r := AV.tup [AV.lit (Value.slice none 0 0), i64 (-1), i64 5]) Try.func17 (by kernel_rfl) (.c oz0 <| .c hc0 <| .n)).weak (WeakL.refl _) (Weak.tup (.cons (.refl _) (.cons (Weak.int (show ((-1) : Int) = ((valsE l x).fst) from (by (unfold valsE; rw [if_pos (by assumption)])))) (.cons (Weak.int (show ((5) : Int) = ((valsE l x).snd) from (by (unfold valsE; rw [if_pos (by assumption)])))) .nil))))
  · have gc0 : tenRight x = true := by first | exact hc0 | exact of_decide_eq_true hc0 | exact of_decide_eq_false hc0 | simpa [eqNums] using hc0 | (simp [eqNums] at hc0 ⊢; first | done | assumption | omega)
    have oz2 := @rshapes_n (l) (Shp.mk x.h x.x x.c) okl wl (by (exact Shp.mk_ok o1 o2 o3)) hl (by (exact g2 (by assumption)))
    exact (VC.run (fn := Try.f17) (W := [.r [] [], .r [] [.callr (rO oz0)], .br false, .r [] [.callr (rO oz2)], .r [] [], .br true, .r [] []]) (r := AV.tup [AV.lit (Value.slice none 0 0), i64 (shapesE l (Shp.mk x.h x.x x.c)).fst, i64 (shapesE l (Shp.mk x.h x.x x.c)).snd]) Try.func17 (by kernel_rfl) (.c oz0 <| .c hc0 <| .c oz2 <| .c (show ((shapesE l (Shp.mk x.h x.x x.c)).snd != 0) = true by (rw [bne_iff_ne]; exact g3 (by assumption))) <| .n)).weak (WeakL.refl _) (Weak.tup (.cons (.refl _) (.cons (Weak.int (show (((shapesE l (Shp.mk x.h x.x x.c)).fst) : Int) = ((valsE l x).fst) from (by (unfold valsE; rw [if_neg (by rw [‹tenRight x = true›]; simp), if_pos (g3 (by assumption))])))) (.cons (Weak.int (show (((shapesE l (Shp.mk x.h x.x x.c)).snd) : Int) = ((valsE l x).snd) from (by (unfold valsE; rw [if_neg (by rw [‹tenRight x = true›]; simp), if_pos (g3 (by assumption))])))) .nil))))
end Go.Proofs.Ytgecmooedhnenaa

/- Which nodes of a block are used, and what is left of them: the plain law. No condition. -/
namespace Go.Proofs.Ytgecmooedhnenaa
open Go.RowKit
set_option linter.unusedSimpArgs false
set_option linter.unusedVariables false
set_option linter.unnecessarySimpa false

def takesB (n : Nod) (v : Int) : Bool := decide (n.na = v) || (decide (n.kd = 6) && decide (n.nb = v))
def orderedB (l : List Nod) : Bool := (List.range l.length).all fun i => thereB (l.getD i default) ((i : Int) + 1)
/-- Which values are wanted when k nodes have been looked at, from the last one on. -/
def wt (l : List Nod) : Nat → Int → Bool
  | 0, v => decide (v = l.length)
  | k + 1, v => wt l k v || (wt l k ((l.length : Int) - k) && takesB (l.getD (l.length - 1 - k) default) v)
def usedB (l : List Nod) (i : Nat) : Bool := wt l (l.length - 1 - i) ((i : Int) + 1)
def usedL (l : List Nod) : List Nat := (List.range l.length).filter (usedB l)
def numU (us : List Nat) (v : Int) : Int := ((us.filter fun u : Nat => decide ((u : Int) < v)).length : Int)
def pruneN (us : List Nat) (n : Nod) : Nod := { n with na := numU us n.na, nb := if n.kd = 6 then numU us n.nb else n.nb }
def pruneL (l : List Nod) : List Nod := if orderedB l = true then (usedL l).map fun i => pruneN (usedL l) (l.getD i default) else l

theorem ordered_at {l : List Nod} (h : orderedB l = true) {i : Nat} (hi : i < l.length) : 0 ≤ (l.getD i default).na ∧ (l.getD i default).na ≤ i ∧ 0 ≤ secN (l.getD i default) ∧ secN (l.getD i default) ≤ i := by
  have := List.all_eq_true.1 h i (by simpa using hi)
  have := there_iff.1 this
  omega
theorem ordered_takes {l : List Nod} (h : orderedB l = true) {i : Nat} (hi : i < l.length) {v : Int} (hv : takesB (l.getD i default) v = true) : 0 ≤ v ∧ v ≤ i := by
  have := ordered_at h hi
  unfold takesB at hv
  unfold secN at this
  simp only [Bool.or_eq_true, Bool.and_eq_true, decide_eq_true_eq] at hv
  rcases hv with rfl | ⟨h6, rfl⟩
  · omega
  · rw [if_pos h6] at this; omega
/-- What is wanted so far. -/
theorem wt_iff (l : List Nod) : ∀ k, k ≤ l.length → ∀ v, wt l k v = true ↔ v = l.length ∨ ∃ j, l.length - k ≤ j ∧ j < l.length ∧ usedB l j = true ∧ takesB (l.getD j default) v = true
  | 0, _, v => by
    simp only [wt, decide_eq_true_eq]
    constructor
    · exact .inl
    · rintro (h | ⟨j, h1, h2, _⟩)
      · exact h
      · omega
  | k + 1, hk, v => by
    have hu : wt l k ((l.length : Int) - k) = usedB l (l.length - 1 - k) := by
      unfold usedB
      rw [show l.length - 1 - (l.length - 1 - k) = k by omega, show (((l.length - 1 - k : Nat) : Int)) + 1 = (l.length : Int) - k by omega]
    simp only [wt, Bool.or_eq_true, Bool.and_eq_true, wt_iff l k (by omega) v, hu]
    constructor
    · rintro ((h | ⟨j, h1, h2, h3⟩) | ⟨h1, h2⟩)
      · exact .inl h
      · exact .inr ⟨j, by omega, h2, h3⟩
      · exact .inr ⟨l.length - 1 - k, by omega, by omega, h1, h2⟩
    · rintro (h | ⟨j, h1, h2, h3, h4⟩)
      · exact .inl (.inl h)
      · by_cases e : j = l.length - 1 - k
        · subst e; exact .inr ⟨h3, h4⟩
        · exact .inl (.inr ⟨j, by omega, h2, h3, h4⟩)
theorem used_iff {l : List Nod} {i : Nat} (hi : i < l.length) : usedB l i = true ↔ i + 1 = l.length ∨ ∃ j, i < j ∧ j < l.length ∧ usedB l j = true ∧ takesB (l.getD j default) ((i : Int) + 1) = true := by
  unfold usedB
  rw [wt_iff l _ (by omega)]
  constructor
  · rintro (h | ⟨j, h1, h2, h3, h4⟩)
    · exact .inl (by omega)
    · exact .inr ⟨j, by omega, h2, h3, h4⟩
  · rintro (h | ⟨j, h1, h2, h3, h4⟩)
    · exact .inl (by omega)
    · exact .inr ⟨j, by omega, h2, h3, h4⟩
theorem mem_used {l : List Nod} {i : Nat} : i ∈ usedL l ↔ i < l.length ∧ usedB l i = true := by
  unfold usedL; rw [List.mem_filter, List.mem_range]
/-- Used nodes take what used nodes make, or what came in. -/
theorem used_takes {l : List Nod} (h : orderedB l = true) {i : Nat} (hi : i ∈ usedL l) {v : Int} (hv : takesB (l.getD i default) v = true) : 0 ≤ v ∧ v ≤ i ∧ (v = 0 ∨ (v - 1).toNat ∈ usedL l) := by
  obtain ⟨h1, h2⟩ := mem_used.1 hi
  have h3 := ordered_takes h h1 hv
  refine ⟨h3.1, h3.2, ?_⟩
  by_cases e : v = 0
  · exact .inl e
  · refine .inr (mem_used.2 ⟨by omega, (used_iff (by omega)).2 (.inr ⟨i, by omega, h1, h2, ?_⟩)⟩)
    rw [show (((v - 1).toNat : Nat) : Int) + 1 = v by omega]; exact hv
theorem takes_na (n : Nod) : takesB n n.na = true := by unfold takesB; simp
theorem takes_nb {n : Nod} (h : n.kd = 6) : takesB n n.nb = true := by unfold takesB; simp [h]
/-! Numbers in order. -/
theorem numU_mono (us : List Nat) {a b : Int} (h : a ≤ b) : numU us a ≤ numU us b := by
  unfold numU
  have : (us.filter fun u : Nat => decide ((u : Int) < a)).Sublist (us.filter fun u : Nat => decide ((u : Int) < b)) := by
    have e : us.filter (fun u : Nat => decide ((u : Int) < a)) = (us.filter fun u : Nat => decide ((u : Int) < b)).filter (fun u : Nat => decide ((u : Int) < a)) := by
      rw [List.filter_filter]
      congr 1; funext u
      by_cases h1 : (u : Int) < a
      · have : (u : Int) < b := by omega
        simp [h1, this]
      · simp [h1]
    rw [e]; exact List.filter_sublist
  have := this.length_le
  omega
theorem numU_0 (us : List Nat) {v : Int} (h : v ≤ 0) : numU us v = 0 := by
  unfold numU
  rw [List.filter_eq_nil_iff.2 (fun u _ => by simp; omega)]; rfl
theorem numU_nn (us : List Nat) (v : Int) : 0 ≤ numU us v := by unfold numU; omega
/-- How many of an increasing list lie below one that is at the place j, or behind it. -/
theorem filter_take {us : List Nat} (h : us.Pairwise (· < ·)) : ∀ {j : Nat}, j < us.length → us.filter (fun u : Nat => decide ((u : Int) < us.getD j 0)) = us.take j := by
  induction us with
  | nil => intro j hj; simp at hj
  | cons a us ih =>
    intro j hj
    obtain ⟨h1, h2⟩ := List.pairwise_cons.1 h
    cases j with
    | zero =>
      simp only [List.getD_cons_zero, List.take_zero]
      rw [List.filter_eq_nil_iff]
      intro u hu
      rcases List.mem_cons.1 hu with rfl | hu
      · simp
      · have := h1 u hu; simp; omega
    | succ j =>
      have hj' : j < us.length := by simpa using hj
      have hm : us.getD j 0 ∈ us := by rw [List.getD_eq_getElem?_getD, List.getElem?_eq_getElem hj']; exact List.getElem_mem hj'
      have := h1 _ hm
      rw [List.getD_cons_succ, List.take_succ_cons, List.filter_cons, if_pos (by rw [decide_eq_true_eq]; omega), ih h2 hj']
theorem numU_at {us : List Nat} (h : us.Pairwise (· < ·)) {j : Nat} (hj : j < us.length) : numU us (us.getD j 0 : Nat) = j := by
  unfold numU; rw [filter_take h hj, List.length_take]; omega
theorem numU_up {us : List Nat} (h : us.Pairwise (· < ·)) {j : Nat} (hj : j < us.length) : numU us ((us.getD j 0 : Nat) + 1) = j + 1 := by
  have h1 := numU_at h hj
  have hm : us.getD j 0 ∈ us := by rw [List.getD_eq_getElem?_getD, List.getElem?_eq_getElem hj]; exact List.getElem_mem hj
  unfold numU at h1 ⊢
  have : (us.filter fun u : Nat => decide ((u : Int) < ((us.getD j 0 : Nat) : Int) + 1)) = us.take (j + 1) := by
    by_cases hj2 : j + 1 < us.length
    · rw [← filter_take h hj2]
      apply List.filter_congr
      intro u hu
      have hp := List.pairwise_iff_getElem.1 h
      obtain ⟨i, hi, rfl⟩ := List.mem_iff_getElem.1 hu
      rw [List.getD_eq_getElem?_getD, List.getElem?_eq_getElem hj, List.getD_eq_getElem?_getD, List.getElem?_eq_getElem hj2]
      simp only [Option.getD_some]
      rw [decide_eq_decide]
      constructor
      · intro hlt
        have h3 := hp j (j + 1) hj hj2 (by omega)
        omega
      · intro hlt
        by_cases h4 : i ≤ j
        · by_cases h5 : i = j
          · subst h5; omega
          · have := hp i j hi hj (by omega); omega
        · by_cases h6 : i = j + 1
          · subst h6; omega
          · have := hp (j + 1) i hj2 hi (by omega); omega
    · rw [List.take_of_length_le (by omega)]
      rw [List.filter_eq_self]
      intro u hu
      have hp := List.pairwise_iff_getElem.1 h
      obtain ⟨i, hi, rfl⟩ := List.mem_iff_getElem.1 hu
      rw [List.getD_eq_getElem?_getD, List.getElem?_eq_getElem hj]
      simp only [Option.getD_some, decide_eq_true_eq]
      by_cases h5 : i = j
      · subst h5; omega
      · have := hp i j hi hj (by omega); omega
  rw [this, List.length_take]; omega
theorem used_sorted (l : List Nod) : (usedL l).Pairwise (· < ·) := by
  unfold usedL; exact List.Pairwise.filter _ List.pairwise_lt_range
theorem idx_used {l : List Nod} {i : Nat} (h : i ∈ usedL l) : ∃ j, j < (usedL l).length ∧ (usedL l).getD j 0 = i := by
  obtain ⟨j, hj, rfl⟩ := List.mem_iff_getElem.1 h
  exact ⟨j, hj, by rw [List.getD_eq_getElem?_getD, List.getElem?_eq_getElem hj]; rfl⟩
theorem pruneL_len {l : List Nod} (h : orderedB l = true) : (pruneL l).length = (usedL l).length := by unfold pruneL; rw [if_pos h, List.length_map]
theorem pruneL_at {l : List Nod} (h : orderedB l = true) {j : Nat} (hj : j < (usedL l).length) : (pruneL l).getD j default = pruneN (usedL l) (l.getD ((usedL l).getD j 0) default) := by
  unfold pruneL
  rw [if_pos h, List.getD_eq_getElem?_getD, List.getElem?_map, List.getElem?_eq_getElem hj, List.getD_eq_getElem?_getD (l := usedL l), List.getElem?_eq_getElem hj]; rfl
theorem used_at {l : List Nod} {j : Nat} (hj : j < (usedL l).length) : (usedL l).getD j 0 ∈ usedL l := by
  rw [List.getD_eq_getElem?_getD, List.getElem?_eq_getElem hj]; exact List.getElem_mem hj
/-- What a pruned node takes lies ahead of it. -/
theorem pruned_there {l : List Nod} (h : orderedB l = true) {j : Nat} (hj : j < (usedL l).length) {v : Int} (hv : takesB (l.getD ((usedL l).getD j 0) default) v = true) : 0 ≤ numU (usedL l) v ∧ numU (usedL l) v ≤ j := by
  obtain ⟨h1, h2, _⟩ := used_takes h (used_at hj) hv
  refine ⟨numU_nn _ _, ?_⟩
  have := numU_mono (usedL l) h2
  rw [numU_at (used_sorted l) hj] at this; exact this
theorem pruned_ordered {l : List Nod} (h : orderedB l = true) : orderedB (pruneL l) = true := by
  unfold orderedB
  rw [List.all_eq_true]
  intro j hj
  rw [List.mem_range, pruneL_len h] at hj
  rw [pruneL_at h hj, there_iff]
  have h1 := pruned_there h hj (takes_na _)
  have h2 := pruned_there h hj (v := (l.getD ((usedL l).getD j 0) default).nb)
  unfold secN pruneN
  dsimp only
  split
  · rename_i h6
    have h2 := h2 (takes_nb h6)
    omega
  · omega
end Go.Proofs.Ytgecmooedhnenaa

/- Values one behind the other: of nodes that take two of those ahead; of nodes that are used alone. The plain law. No condition. -/
namespace Go.Proofs.Ytgecmooedhnenaa
open Go.RowKit
set_option linter.unusedSimpArgs false
set_option linter.unusedVariables false
set_option linter.unnecessarySimpa false

/-- What comes next is made of a node and of the two values that it takes, and not of their numbers. -/
structure Loc {α : Type} [Inhabited α] (f : Nod → List α → α × Int) (g : Nod → α → α → α × Int) : Prop where
  eq : ∀ (n : Nod) (L : List α), thereB n L.length = true → f n L = g n (L.getD n.na.toNat default) (L.getD (secN n).toNat default)
  ren : ∀ (n : Nod) (u v : Int) (a b : α), (n.kd = 6 ∨ v = n.nb) → g { n with na := u, nb := v } a b = g n a b
/-- The value v. -/
def gv {α : Type} [Inhabited α] (f : Nod → List α → α × Int) (l : List Nod) (x : α) (v : Nat) : α := (growL f l x v).getD v default
section
variable {α : Type} [Inhabited α] {f : Nod → List α → α × Int} {g : Nod → α → α → α × Int} {l : List Nod} {x : α}
theorem growL_at : ∀ (k : Nat) {v : Nat}, v ≤ k → (growL f l x k).getD v default = gv f l x v
  | 0, v, h => by have : v = 0 := by omega
                  subst this; rfl
  | k + 1, v, h => by
    by_cases e : v = k + 1
    · subst e; rfl
    · rw [growL, List.getD_eq_getElem?_getD, List.getElem?_append_left (by rw [growL_len]; omega), ← List.getD_eq_getElem?_getD]
      exact growL_at k (by omega)
theorem gv_next (k : Nat) : gv f l x (k + 1) = (f (l.getD k default) (growL f l x k)).1 := by
  unfold gv
  rw [growL, List.getD_eq_getElem?_getD, List.getElem?_append_right (by rw [growL_len]; omega), growL_len]; simp
theorem gv_step (hf : Loc f g) {k : Nat} (h : thereB (l.getD k default) ((k : Int) + 1) = true) :
    f (l.getD k default) (growL f l x k) = g (l.getD k default) (gv f l x (l.getD k default).na.toNat) (gv f l x (secN (l.getD k default)).toNat) := by
  have t := there_iff.1 h
  rw [hf.eq _ _ (by rw [growL_len, Int.natCast_add]; exact h), growL_at k (by omega), growL_at k (by omega)]
theorem ordered_there (h : orderedB l = true) {k : Nat} (hk : k < l.length) : thereB (l.getD k default) ((k : Int) + 1) = true := List.all_eq_true.1 h k (by simpa using hk)
/-- The value that a pruned node takes is the one that the node took. -/
theorem pruned_gv (hf : Loc f g) (h : orderedB l = true) : ∀ (d j : Nat), j = d → j < (usedL l).length →
    gv f (pruneL l) x (j + 1) = gv f l x ((usedL l).getD j 0 + 1) ∧ errL f (pruneL l) x j = errL f l x ((usedL l).getD j 0) := by
  intro d
  induction d using Nat.strongRecOn with
  | _ d ih =>
    intro j hd hj
    subst hd
    have hu := (mem_used.1 (used_at hj)).1
    have key : ∀ v, takesB (l.getD ((usedL l).getD j 0) default) v = true → gv f (pruneL l) x (numU (usedL l) v).toNat = gv f l x v.toNat := by
      intro v hv
      obtain ⟨h1, h2, h3⟩ := used_takes h (used_at hj) hv
      rcases h3 with h3 | h3
      · subst h3; rw [numU_0 _ (by omega)]; rfl
      · by_cases e : v = 0
        · subst e; rw [numU_0 _ (by omega)]; rfl
        · obtain ⟨j', hj', e'⟩ := idx_used h3
          have ev : v = ((usedL l).getD j' 0 : Nat) + 1 := by omega
          have lt : j' < j := by
            rcases Nat.lt_trichotomy j' j with c | c | c
            · exact c
            · subst c; omega
            · have := List.pairwise_iff_getElem.1 (used_sorted l) j j' hj hj' c
              rw [List.getD_eq_getElem?_getD, List.getElem?_eq_getElem hj] at h2
              rw [List.getD_eq_getElem?_getD, List.getElem?_eq_getElem hj'] at ev
              simp only [Option.getD_some] at h2 ev
              omega
          have := (ih j' lt j' rfl hj').1
          rw [ev, numU_up (used_sorted l) hj']
          rw [show ((j' : Int) + 1).toNat = j' + 1 by omega, this]; congr 1
    have ht := ordered_there h hu
    have hp := ordered_there (pruned_ordered h) (k := j) (by rw [pruneL_len h]; exact hj)
    have e1 : (pruneL l).getD j default = pruneN (usedL l) (l.getD ((usedL l).getD j 0) default) := pruneL_at h hj
    have ga := key _ (takes_na _)
    have gs : gv f (pruneL l) x (secN (pruneN (usedL l) (l.getD ((usedL l).getD j 0) default))).toNat = gv f l x (secN (l.getD ((usedL l).getD j 0) default)).toNat := by
      unfold secN pruneN
      dsimp only
      by_cases h6 : (l.getD ((usedL l).getD j 0) default).kd = 6
      · rw [if_pos h6, if_pos h6, if_pos h6]; exact key _ (takes_nb h6)
      · rw [if_neg h6, if_neg h6]; exact ga
    have step : f ((pruneL l).getD j default) (growL f (pruneL l) x j) = f (l.getD ((usedL l).getD j 0) default) (growL f l x ((usedL l).getD j 0)) := by
      rw [gv_step hf hp, gv_step hf ht, e1, gs]
      have : (pruneN (usedL l) (l.getD ((usedL l).getD j 0) default)).na = numU (usedL l) (l.getD ((usedL l).getD j 0) default).na := rfl
      rw [this, ga]
      exact hf.ren _ _ _ _ _ (by
        by_cases h6 : (l.getD ((usedL l).getD j 0) default).kd = 6
        · exact .inl h6
        · exact .inr (if_neg h6))
    exact ⟨by rw [gv_next, gv_next, step], by unfold errL; rw [step]⟩
theorem used_last (h : l ≠ []) : (usedL l).length ≠ 0 ∧ (usedL l).getD ((usedL l).length - 1) 0 + 1 = l.length := by
  have l0 : 0 < l.length := List.length_pos_iff.2 h
  have hm : l.length - 1 ∈ usedL l := mem_used.2 ⟨by omega, (used_iff (by omega)).2 (.inl (by omega))⟩
  obtain ⟨j, hj, e⟩ := idx_used hm
  refine ⟨by omega, ?_⟩
  have hl := (mem_used.1 (used_at (l := l) (j := (usedL l).length - 1) (by omega))).1
  by_cases c : j = (usedL l).length - 1
  · rw [← c, e]; omega
  · have := List.pairwise_iff_getElem.1 (used_sorted l) j ((usedL l).length - 1) hj (by omega) (by omega)
    rw [List.getD_eq_getElem?_getD, List.getElem?_eq_getElem hj] at e
    rw [List.getD_eq_getElem?_getD, List.getElem?_eq_getElem (by omega)] at hl
    simp only [Option.getD_some] at e hl
    omega
/-- What goes out is the same without what is not used. -/
theorem pruned_last (hf : Loc f g) (h : orderedB l = true) (h0 : l ≠ []) : gv f (pruneL l) x (pruneL l).length = gv f l x l.length := by
  obtain ⟨u0, u1⟩ := used_last h0
  have := (pruned_gv (x := x) hf h _ ((usedL l).length - 1) rfl (by omega)).1
  rw [pruneL_len h, ← u1, ← this]; congr 1; omega
theorem pruned_err (hf : Loc f g) (h : orderedB l = true) (he : ∀ k, k < l.length → errL f l x k = 0) : ∀ k, k < (pruneL l).length → errL f (pruneL l) x k = 0 := by
  intro k hk
  rw [pruneL_len h] at hk
  rw [(pruned_gv (x := x) hf h _ k rfl hk).2]
  exact he _ (mem_used.1 (used_at hk)).1
end
theorem pruneL_ne {l : List Nod} (h0 : l ≠ []) : 0 < (pruneL l).length := by
  by_cases h : orderedB l = true
  · rw [pruneL_len h]; have := used_last h0; omega
  · unfold pruneL; rw [if_neg h]; exact List.length_pos_iff.2 h0
theorem pruneL_mem {l : List Nod} {p : Nod → Prop} (h : ∀ n ∈ l, p n) (hp : ∀ n u v, n.kd = 6 ∨ v = n.nb → p n → p { n with na := u, nb := v }) : ∀ n ∈ pruneL l, p n := by
  intro n hn
  unfold pruneL at hn
  split at hn
  · obtain ⟨i, hi, rfl⟩ := List.mem_map.1 hn
    exact hp _ _ _ (by
      by_cases h6 : (l.getD i default).kd = 6
      · exact .inl h6
      · exact .inr (if_neg h6)) (getD_in h (mem_used.1 hi).1)
  · exact h n hn
theorem checkE_ren (n : Nod) (u v : Int) (h : n.kd = 6 ∨ v = n.nb) : checkE { n with na := u, nb := v } = checkE n := by
  unfold checkE moreE
  rcases h with h | h
  · simp [h]
  · subst h; rfl
theorem shapeE_ren (n : Nod) (u v : Int) (a b : Shp) : shapeE { n with na := u, nb := v } a b = shapeE n a b := rfl
theorem nextE_loc : Loc nextE fun n a b => if checkE n ≠ 0 then (⟨0, 0, 0⟩, checkE n) else shapeE n a b where
  eq := fun n L h => by
    unfold nextE
    by_cases c : checkE n ≠ 0
    · rw [if_pos c, if_pos c]
    · rw [if_neg c, if_neg c, if_pos h]
  ren := fun n u v a b h => by
    rw [checkE_ren n u v h, shapeE_ren]
end Go.Proofs.Ytgecmooedhnenaa

/- Several nodes as one: the plain law. No condition. -/
namespace Go.Proofs.Ytgecmooedhnenaa
open Go.RowKit
set_option linter.unusedSimpArgs false
set_option linter.unusedVariables false
set_option linter.unnecessarySimpa false

theorem ord_iff {l : List Nod} : orderedB l = true ↔ ∀ i, i < l.length → 0 ≤ (l.getD i default).na ∧ (l.getD i default).na ≤ i ∧ ((l.getD i default).kd = 6 → 0 ≤ (l.getD i default).nb ∧ (l.getD i default).nb ≤ i) := by
  constructor
  · intro h i hi
    have := ordered_at h hi
    unfold secN at this
    refine ⟨by omega, by omega, fun h6 => ?_⟩
    rw [if_pos h6] at this; omega
  · intro h
    unfold orderedB
    rw [List.all_eq_true]
    intro i hi
    rw [List.mem_range] at hi
    have := h i hi
    rw [there_iff]
    unfold secN
    split
    · have := this.2.2 (by assumption); omega
    · omega
/-! What changes nothing is passed by. -/
/-! How far nodes reach back. -/
end Go.Proofs.Ytgecmooedhnenaa

/- Several nodes as one, again and again: the plain law. No condition. -/
namespace Go.Proofs.Ytgecmooedhnenaa
open Go.RowKit
set_option linter.unusedSimpArgs false
set_option linter.unusedVariables false
set_option linter.unnecessarySimpa false

/-- What holds of a node apart from what it takes. -/
def OkW (n : Nod) : Prop := ({ n with na := 0, nb := 0 } : Nod).Ok
def OkN (n : Nod) : Prop := OkW n ∧ (n.kd = 6 ∨ In64 n.nb)
theorem in64_0 : In64 0 := by decide
theorem Nod.Ok.n {n : Nod} (h : n.Ok) : OkN n := ⟨⟨h.kd, in64_0, in64_0, h.nk, h.ns, h.np, h.no, h.za, h.zb, h.w, h.b, h.qm, h.qs, h.qz, h.rm, h.rs, h.rz, h.lo, h.hi⟩, .inr h.nb⟩
theorem OkN.ren {n : Nod} (h : OkN n) (u v : Int) (hv : n.kd = 6 ∨ v = n.nb) : OkN { n with na := u, nb := v } := by
  refine ⟨h.1, ?_⟩
  rcases hv with hv | hv
  · exact .inl hv
  · subst hv; exact h.2
theorem OkN.ok {n : Nod} (h : OkN n) (a : In64 n.na) (b : n.kd = 6 → In64 n.nb) : n.Ok := by
  obtain ⟨⟨h1, _, _, h4, h5, h6, h7, h8, h9, h10, h11, h12, h13, h14, h15, h16, h17, h18, h19⟩, hb⟩ := h
  exact ⟨h1, a, hb.elim b id, h4, h5, h6, h7, h8, h9, h10, h11, h12, h13, h14, h15, h16, h17, h18, h19⟩
theorem ok_of {l : List Nod} (h : orderedB l = true) (hl : l.length ≤ 1000) (ok : ∀ n ∈ l, OkN n) : ∀ n ∈ l, n.Ok := by
  intro n hn
  obtain ⟨i, hi, rfl⟩ := List.mem_iff_getElem.1 hn
  have o := (ord_iff.1 h) i hi
  rw [List.getD_eq_getElem?_getD, List.getElem?_eq_getElem hi] at o
  simp only [Option.getD_some] at o
  exact (ok _ hn).ok (by unfold In64; omega) fun h6 => by have := o.2.2 h6; unfold In64; omega
/-! What goes out. -/
section
variable {α : Type} [Inhabited α] {f : Nod → List α → α × Int} {g : Nod → α → α → α × Int} {D : α → Prop} {l : List Nod} {x : α}
end
end Go.Proofs.Ytgecmooedhnenaa

/- A Pad and a window are one window; what changes nothing changes nothing: the plain law. No condition. -/
namespace Go.Proofs.Ytgecmooedhnenaa
open Go.RowKit
set_option linter.unusedSimpArgs false
set_option linter.unusedVariables false
set_option linter.unnecessarySimpa false

/-! Tensors. -/
theorem elems_eq {h x c : Int} (e : 0 < elems h x c) : elems h x c = h * x * c := by
  unfold elems at e ⊢
  split
  · rfl
  · rename_i hn; rw [if_neg hn] at e; omega
theorem pad_right {T : Ten} (r : TRt T) {q z : Int} (he : elems (T.h + 2 * q) (T.x + 2 * q) T.c ≠ 0) : tenRight (padOf T q z).1 = true := by
  have b := elems_bd (T.h + 2 * q) (T.x + 2 * q) T.c
  have c := elems_ok (h := T.h + 2 * q) (x := T.x + 2 * q) (c := T.c) (by omega)
  unfold padOf
  rw [if_neg he]
  unfold tenRight
  dsimp only
  rw [gH_len]
  have e2 := elems_eq (h := T.h + 2 * q) (x := T.x + 2 * q) (c := T.c) (by omega)
  rw [decide_eq_true (show 0 < elems (T.h + 2 * q) (T.x + 2 * q) T.c by omega), Bool.true_and]
  refine decide_eq_true ?_
  rw [e2, Int.natCast_mul, Int.natCast_mul, Int.toNat_of_nonneg (by omega), Int.toNat_of_nonneg (by omega), Int.toNat_of_nonneg (by omega), Int.mul_assoc]
theorem rowAcc_ren (T : Ten) (n : Nod) (u v a h w : Int) : ∀ j, rowAcc T { n with na := u, nb := v } a h w j = rowAcc T n a h w j
  | 0 => rfl
  | j + 1 => by rw [rowAcc, rowAcc, rowAcc_ren T n u v a h w j]; rfl
theorem sumAcc_ren (T : Ten) (n : Nod) (u v h w o : Int) : ∀ i, sumAcc T { n with na := u, nb := v } h w o i = sumAcc T n h w o i
  | 0 => rfl
  | i + 1 => by rw [sumAcc, sumAcc, sumAcc_ren T n u v h w o i, rowAcc_ren]
theorem outL_ren (T : Ten) (n : Nod) (u v : Int) : ∀ i, outL T { n with na := u, nb := v } i = outL T n i
  | 0 => rfl
  | i + 1 => by
    rw [outL, outL, outL_ren T n u v i]
    congr 1
    exact List.map_congr_left fun o _ => sumAcc_ren T n u v _ _ _ _
theorem dAcc_ren (T : Ten) (n : Nod) (u v h w c : Int) : ∀ i, dAcc T { n with na := u, nb := v } h w c i = dAcc T n h w c i
  | 0 => rfl
  | i + 1 => by rw [dAcc, dAcc, dAcc_ren T n u v h w c i]; rfl
theorem dL_ren (T : Ten) (n : Nod) (u v : Int) : dL T { n with na := u, nb := v } = dL T n := List.map_congr_left fun i _ => dAcc_ren T n u v _ _ _ _
theorem sumOf_ren (T : Ten) (n : Nod) (u v : Int) : sumOf T { n with na := u, nb := v } = sumOf T n := by
  unfold sumOf convOf depthOf
  rw [outL_ren, dL_ren]; rfl
theorem valE_loc : Loc valE nodeOf where
  eq := fun _ _ _ => rfl
  ren := fun n u v a b h => by
    unfold nodeOf
    rw [checkE_ren n u v h, sumOf_ren]; rfl
theorem right_map {T : Ten} (r : tenRight T = true) {d : List Int} (h : d.length = T.d.length) : tenRight ⟨T.h, T.x, T.c, d⟩ = true := by
  unfold tenRight at r ⊢; dsimp only; rw [h]; exact r
theorem pool_right {T : Ten} {n : Nod} {m : Bool} (ok : T.Ok) (okn : n.Ok) (h : (poolOf T n m).2 = 0) : tenRight (poolOf T n m).1 = true := by
  unfold poolOf at h ⊢
  split
  · rename_i hr
    rw [if_pos hr] at h
    split
    · rename_i hs
      have p := PlOk.n ⟨ok, okn, hr, hs⟩
      unfold tenRight
      dsimp only
      rw [poolL_len, p.en]
      have e := p.en
      have h1 := p.h1; have x1 := p.x1; have c1 := p.r.c1; have sc := p.sc
      have m : 1 * 1 * 1 ≤ (plS T n).h * (plS T n).x * (plS T n).c := Int.mul_le_mul (Int.mul_le_mul h1 x1 (by omega) (by omega)) (by omega) (by omega) (Int.mul_nonneg (by omega) (by omega))
      simp only [Bool.and_eq_true, decide_eq_true_eq]; omega
    · rename_i hs; rw [if_neg hs] at h; exact absurd h hs
  · rename_i hr; rw [if_neg hr] at h; exact absurd h (by decide)
theorem put_right {A : Ten} {n : Nod} (h : (putOf A n).2 = 0) : tenRight (putOf A n).1 = true := by
  unfold putOf at h ⊢
  split
  · rename_i c; rw [if_pos c] at h; exact absurd h (by decide)
  · rename_i c
    rw [if_neg c] at h
    split
    · rename_i c2; rw [if_pos c2] at h; exact absurd h (by decide)
    · have b := elems_bd A.h A.x A.c
      unfold tenRight
      dsimp only
      rw [List.length_map]
      simp only [Bool.and_eq_true, decide_eq_true_eq]; omega
theorem act_right {T : Ten} {n : Nod} (h : (actOf T n).2 = 0) : tenRight (actOf T n).1 = true := by
  unfold actOf at h ⊢
  split
  · rename_i c; rw [if_pos c] at h; exact absurd h (by decide)
  · rename_i c
    rw [if_neg c] at h
    split
    · rename_i c2; rw [if_pos c2] at h; exact absurd h (by decide)
    · exact right_map (by simpa using c) (by rw [List.length_map])
theorem join_right {T U : Ten} {n : Nod} (h : (joinOf T U n).2 = 0) : tenRight (joinOf T U n).1 = true := by
  unfold joinOf at h ⊢
  split
  · rename_i c; rw [if_pos c] at h; exact absurd h (by decide)
  · rename_i c
    rw [if_neg c] at h
    split
    · rename_i c2; rw [if_pos c2] at h; exact absurd h (by decide)
    · have r : tenRight T = true := by
        cases e : tenRight T with
        | true => rfl
        | false => rw [e] at c; simp at c
      exact right_map r (by rw [List.length_map, List.length_range])
theorem padOf_right {T : Ten} {q z : Int} (r : tenRight T = true) (h : (padOf T q z).2 = 0) : elems (T.h + 2 * q) (T.x + 2 * q) T.c ≠ 0 ∧ tenRight (padOf T q z).1 = true := by
  by_cases c : elems (T.h + 2 * q) (T.x + 2 * q) T.c = 0
  · unfold padOf at h; rw [if_pos c] at h; exact absurd h (by decide)
  · exact ⟨c, pad_right (tenRight.rt r) c⟩
theorem nodeOf_right {n : Nod} {A B : Ten} (ok : A.Ok) (okn : n.Ok) (h : (nodeOf n A B).2 = 0) : tenRight (nodeOf n A B).1 = true := by
  unfold nodeOf at h ⊢
  split
  · rename_i c; rw [if_pos c] at h; exact absurd h c
  · rename_i c
    rw [if_neg c] at h
    split
    · rename_i c; rw [if_pos c] at h; exact absurd h (by decide)
    · rename_i r
      rw [if_neg r] at h
      have r : tenRight A = true := by simpa using r
      split
      · rename_i c; rw [if_pos c] at h; exact pool_right ok okn h
      · rename_i c; rw [if_neg c] at h
        split
        · rename_i c; rw [if_pos c] at h; exact pool_right ok okn h
        · rename_i c; rw [if_neg c] at h
          split
          · rename_i c; rw [if_pos c] at h; exact join_right h
          · rename_i c; rw [if_neg c] at h
            split
            · rename_i c; rw [if_pos c] at h; exact act_right h
            · rename_i c; rw [if_neg c] at h
              split
              · rename_i c; rw [if_pos c] at h
                split
                · rename_i c; rw [if_pos c] at h; exact absurd h c
                · rename_i c; rw [if_neg c] at h; exact (padOf_right r h).2
              · rename_i c; rw [if_neg c] at h
                split
                · have t := tenRight.rt r
                  have t1 := t.dl; have t2 := t.el; have t3 := t.h1; have t4 := t.x1; have t5 := t.c1
                  have m : 1 * 1 * 1 ≤ A.h * A.x * A.c := Int.mul_le_mul (Int.mul_le_mul t3 t4 (by omega) (by omega)) t5 (by omega) (Int.mul_nonneg (by omega) (by omega))
                  unfold tenRight elems
                  dsimp only
                  rw [if_pos (by omega)]
                  simp only [Bool.and_eq_true, decide_eq_true_eq]; omega
                · rename_i c; rw [if_neg c] at h
                  split
                  · rename_i c; rw [if_pos c] at h; exact absurd h c
                  · rename_i c; rw [if_neg c] at h; exact put_right h
/-! Ranges. -/
end Go.Proofs.Ytgecmooedhnenaa

/- All values of a block, or what is wrong; which blocks have them. No condition. -/
namespace Go.Proofs.Ytgecmooedhnenaa
open Go.RowKit
set_option linter.unusedSimpArgs false
set_option linter.unusedVariables false
set_option linter.unnecessarySimpa false

noncomputable def rtsame_l_I (T : Ten) (k : Nat) : VS := stt 38 [(2, .ptr 2 0 0), (3, .ptr 3 0 0), (5, i64 k)] [(2, .var (tnC T)), (3, .var (tnC T))]
noncomputable def rtsame_l_Z (T : Ten) : VS := rtsame_l_I T (T.d.length)
set_option maxRecDepth 100000 in
set_option maxHeartbeats 2000000 in
theorem rtsame_l_s (T : Ten) (hl : T.d.length ≤ 1000000) (k : Nat) (hk : k < T.d.length) : VT Try.prog (fnC Try.f26 [1, 1, 0, 1, 0, 0]) (rtsame_l_I T k) .normal (rtsame_l_I T (k + 1)) := by
  have oz1 := (show 0 ≤ (↑k : Int) by omega)
  have oz2 := (map_at (row1 IntKind.i8) (0) (l := T.d) (i := k) hk)
  exact VT.run (W := [.r [] [], .br true, .r [] [.row (sO oz2), .row (sO oz2)], .br false, .r [] [.n ((↑k : Int) + 1)]]) (G := [.any (rg [(20, 18)]), .weak 5 (i64 (↑(k + 1) : Int)), .sort]) (by kernel_rfl) (.c (show decide ((↑k : Int) < (↑(List.map (row1 IntKind.i8) T.d).length : Int)) = true by (simp; omega)) <| .c oz1 <| .c oz2 <| .c oz1 <| .c oz2 <| .c (show (T.d.getD k 0 != T.d.getD k 0) = false by (simp; done)) <| .c (IntWalk.i64_in ((↑k : Int) + 1) (by omega)) <| .c (Weak.int (k := .i64) (show (((↑k : Int) + 1) : Int) = ((↑(k + 1) : Int)) from (by omega))) <| .n)
set_option maxRecDepth 100000 in
set_option maxHeartbeats 2000000 in
theorem rtsame_l_e (T : Ten) (hl : T.d.length ≤ 1000000) : VT Try.prog (fnC Try.f26 [1, 1, 0, 1, 0, 0]) (rtsame_l_I T (T.d.length)) (.exit 0) (rtsame_l_Z T) := by
  exact VT.run (W := [.r [] [], .br false]) (G := [.any (rg [(20, 5)]), .sort]) (by kernel_rfl) (.c (show decide ((↑T.d.length : Int) < (↑(List.map (row1 IntKind.i8) T.d).length : Int)) = false by (simp; done)) <| .n)
theorem rtsame_l (T : Ten) (hl : T.d.length ≤ 1000000) : VT Try.prog (fnC Try.f26 [1, 1, 0, 1, 0]) (rtsame_l_I T 0) (.exit 0) (rtsame_l_Z T) :=
  VT.loop (fun k => rtsame_l_I T k) (T.d.length) (fun k hk => rtsame_l_s T hl k hk) (rtsame_l_e T hl) (by intro h; cases h)

set_option maxRecDepth 100000 in
set_option maxHeartbeats 2000000 in
theorem rtsame_v (T : Ten) (hl : T.d.length ≤ 1000000) : VC Try.prog 26 ([ten .i8 T, ten .i8 T]) (bv true) := by
  have oz3 := @rtsame_l (T) hl
  exact VC.run (fn := Try.f26) (W := [.r [] [], .r [] [.v (Value.bool !eqNums [(IntKind.i64, T.h, T.h), (IntKind.i64, T.x, T.x), (IntKind.i64, T.c, T.c)]), .op false, .op false, .op false, .op false, .op false, .op false, .op false, .sel 1], .br false, .r [] [], .code [.any [0, 1, 4, 6, 7, 8, 9, 10, 11, 19], .weak 5 (i64 (↑0 : Int)), .sort] (Exit.exit 0) (zO oz3), .r [] []]) Try.func26 (by kernel_rfl) (.c (show BinTo Try.prog BinOp.neq 24 (Operand.tmp 7) (Operand.tmp 9) (Value.agg #[Value.int IntKind.i64 T.h, Value.int IntKind.i64 T.x, Value.int IntKind.i64 T.c]) (Value.agg #[Value.int IntKind.i64 T.h, Value.int IntKind.i64 T.x, Value.int IntKind.i64 T.c]) (Value.bool !eqNums [(IntKind.i64, T.h, T.h), (IntKind.i64, T.x, T.x), (IntKind.i64, T.c, T.c)]) from ((bin_nums (l := [(IntKind.i64, T.h, T.h), (IntKind.i64, T.x, T.x), (IntKind.i64, T.c, T.c)]) (by kernel_rfl) (by kernel_rfl) (by kernel_rfl) (by kernel_rfl) _ _).2)) <| .c (show (!eqNums [(IntKind.i64, T.h, T.h), (IntKind.i64, T.x, T.x), (IntKind.i64, T.c, T.c)] || (↑(List.map (row1 IntKind.i8) T.d).length : Int) != (↑(List.map (row1 IntKind.i8) T.d).length : Int)) = false by (simp [eqNums])) <| .c (Weak.int (k := .i64) (show ((0) : Int) = ((↑0 : Int)) from (by omega))) <| .c oz3 <| .n)
theorem VOK.o {l : List Nod} {x : Ten} (h : VOK l x) : orderedB l = true := by
  unfold orderedB
  rw [List.all_eq_true]
  intro k hk
  rw [List.mem_range] at hk
  have t := h.takes hk
  rw [there_iff]; omega
theorem VOK.ne {l : List Nod} {x : Ten} (h : VOK l x) : l ≠ [] := List.length_pos_iff.1 h.s.e
/-- A block all of whose values are there. -/
structure Vals (l : List Nod) (x : Ten) : Prop where
  v : VOK l x
  r : tenRight x = true
  e : ∀ k, k < l.length → errL valE l x k = 0
theorem Vals.d {l : List Nod} {x : Ten} (h : Vals l x) {v : Nat} (hv : v ≤ l.length) : (gv valE l x v).Ok ∧ tenRight (gv valE l x v) = true := by
  cases v with
  | zero => exact ⟨h.v.ok, h.r⟩
  | succ k =>
    have q := val_ok h.v.okl h.v.ok (Nat.le_of_lt hv)
    have ek := h.e k hv
    unfold errL at ek
    rw [gv_next]
    have okn := getD_in h.v.okl hv
    have okA := getD_all (p := Ten.Ok) ten0_ok q (l.getD k default).na.toNat
    exact ⟨nodeOf_ok okn okA, nodeOf_right okA okn ek⟩
/-- Either all values are there, or it is told why not. -/
theorem rvals_cases (l : List Nod) (x : Ten) (okl : ∀ n ∈ l, n.Ok) (wl : ∀ n ∈ l, n.w.length ≤ 100000 ∧ n.b.length ≤ 100000) (ok : x.Ok) (hl : l.length ≤ 1000) :
    Vals l x ∨ ∃ p c : Int, (c != 0) = true ∧ (c == 0) = false ∧ VC Try.prog 17 [.sl 19 (l.map nodC), ten .i8 x] (.tup [nilv, i64 p, i64 c]) := by
  by_cases hn : tenRight x = false ∨ ¬ SOK l ⟨x.h, x.x, x.c⟩
  · right
    refine ⟨_, (valsE l x).2, ?_, ?_, rvals_n l x okl wl ok hl hn⟩
    all_goals
      have : (valsE l x).2 ≠ 0 := by
        unfold valsE
        split
        · decide
        · rename_i hr
          rcases hn with hn | hn
          · exact absurd hn hr
          · rw [if_pos (shapesE_bad hn)]; exact shapesE_bad hn
      simpa using this
  · have r : tenRight x = true := by
      cases e : tenRight x with
      | true => rfl
      | false => exact absurd (.inl e) hn
    have s : SOK l ⟨x.h, x.x, x.c⟩ := Classical.byContradiction fun q => hn (.inr q)
    have v : VOK l x := ⟨okl, wl, ok, s⟩
    rcases all_or (fun k => errL valE l x k == 0) l.length with h | ⟨m, h1, h2, h3⟩
    · exact .inl ⟨v, r, fun k hk => by simpa using h k hk⟩
    · right
      have hm : errL valE l x m ≠ 0 := by simpa using h2
      exact ⟨_, _, by simpa using hm, by simpa using hm, rvals_m l x m v r h1 hm fun k hk => by simpa using h3 k hk⟩
end Go.Proofs.Ytgecmooedhnenaa

/- Which nodes of a block are in order, and used, by the program and by the document. No condition. -/
namespace Go.Proofs.Ytgecmooedhnenaa
open Go.RowKit
set_option linter.unusedSimpArgs false
set_option linter.unusedVariables false
set_option linter.unnecessarySimpa false

set_option maxRecDepth 100000 in
set_option maxHeartbeats 2000000 in
theorem pvalues_v (n : Nod)  : VC Try.prog 84 ([nod n]) (ints .i64 (takesL n)) := by
  rcases Bool.eq_false_or_eq_true (n.kd == 6) with hc0 | hc0
  · have gc0 : n.kd = 6 := bet hc0
    exact (VC.run (fn := Try.f84) (W := [.r [] [], .r [] [], .br true, .r [] []]) (r := AV.sl 1 [[i64 n.na], [i64 n.nb]]) Try.func84 (by kernel_rfl) (.c hc0 <| .n)).weak (WeakL.refl _) (Weak.rows (rows_to (row1 IntKind.i64) (r := [[i64 n.na], [i64 n.nb]]) (l := [n.na, n.nb]) (m := takesL n) (by first | (simp only [List.map_append, List.map_cons, List.map_nil, List.map_set, List.map_replicate, List.map_take, List.map_drop]; done) | rfl | (simp only [List.map_append, List.map_cons, List.map_nil, List.map_set, List.map_replicate, List.map_take, List.map_drop]; rfl)) (show ([n.na, n.nb]) = (takesL n) from (by (unfold takesL; rw [if_pos (by simp_all)])))))
  · have gc0 : ¬n.kd = 6 := bef hc0
    exact (VC.run (fn := Try.f84) (W := [.r [] [], .r [] [], .br false, .r [] []]) (r := AV.sl 1 [[i64 n.na]]) Try.func84 (by kernel_rfl) (.c hc0 <| .n)).weak (WeakL.refl _) (Weak.rows (rows_to (row1 IntKind.i64) (r := [[i64 n.na]]) (l := [n.na]) (m := takesL n) (by first | (simp only [List.map_append, List.map_cons, List.map_nil, List.map_set, List.map_replicate, List.map_take, List.map_drop]; done) | rfl | (simp only [List.map_append, List.map_cons, List.map_nil, List.map_set, List.map_replicate, List.map_take, List.map_drop]; rfl)) (show ([n.na]) = (takesL n) from (by (unfold takesL; rw [if_neg (by simp_all)])))))
theorem takes_in (n : Nod) (m : Int) : (∀ k, k < (takesL n).length → 0 ≤ (takesL n).getD k 0 ∧ (takesL n).getD k 0 < m) ↔ thereB n m = true := by
  rw [← takes_there]; simp only [decide_eq_true_eq]
noncomputable def pord_iy_I (l : List Nod) (u : Nat) (L : List Int) (k : Nat) : VS := stt 30 [(3, i64 u), (7, .sl 19 (l.map nodC)), (8, i64 l.length), (9, i64 u), (15, ints .i64 L), (16, i64 L.length), (17, i64 k)] []
noncomputable def pord_iy_Z (l : List Nod) (u : Nat) (L : List Int) : VS := pord_iy_I l u L (L.length)
set_option maxRecDepth 100000 in
set_option maxHeartbeats 2000000 in
theorem pord_iy_s (l : List Nod) (u : Nat) (L : List Int) (hl : L.length ≤ 2) (h : ∀ k, k < L.length → 0 ≤ L.getD k 0 ∧ L.getD k 0 < (u : Int) + 1) (k : Nat) (hk : k < L.length) : VT Try.prog (fnC Try.f80 [1, 0, 1, 0, 0, 1, 1, 0, 0, 1, 1, 0, 0]) (pord_iy_I l u L k) .normal (pord_iy_I l u L (k + 1)) := by
  have q := h k hk
  have oz3 := (decide_eq_false (p := (L.getD k 0 < 0)) (by omega))
  exact VT.run (W := [.r [] [], .br true, .r [] [.row [i64 (L.getD k 0)]], .r [] [.br true, .br true, .br true, .br false], .br false, .r [] [.n ((↑k : Int) + 1)]]) (G := [.any (rg [(6, 1), (18, 11)]), .weak 17 (i64 (↑(k + 1) : Int)), .sort]) (by kernel_rfl) (.c (decide_eq_true (p := ((↑k : Int) < (↑L.length : Int))) (by omega)) <| .c (show 0 ≤ (↑k : Int) by omega) <| .c (map_at (row1 IntKind.i64) (0) (l := L) (i := k) hk) <| .c oz3 <| .c oz3 <| .c oz3 <| .c oz3 <| .c (decide_eq_false (p := (L.getD k 0 > (↑u : Int))) (by omega)) <| .c (IntWalk.i64_in ((↑k : Int) + 1) (by omega)) <| .c (Weak.int (k := .i64) (show (((↑k : Int) + 1) : Int) = ((↑(k + 1) : Int)) from (by omega))) <| .n)
set_option maxRecDepth 100000 in
set_option maxHeartbeats 2000000 in
theorem pord_iy_e (l : List Nod) (u : Nat) (L : List Int) (hl : L.length ≤ 2) (h : ∀ k, k < L.length → 0 ≤ L.getD k 0 ∧ L.getD k 0 < (u : Int) + 1) : VT Try.prog (fnC Try.f80 [1, 0, 1, 0, 0, 1, 1, 0, 0, 1, 1, 0, 0]) (pord_iy_I l u L (L.length)) (.exit 2) (pord_iy_Z l u L) := by
  exact VT.run (W := [.r [] [], .br false]) (G := [.any [18], .sort]) (by kernel_rfl) (.c (decide_eq_false (p := ((↑L.length : Int) < (↑L.length : Int))) (by omega)) <| .n)
theorem pord_iy (l : List Nod) (u : Nat) (L : List Int) (hl : L.length ≤ 2) (h : ∀ k, k < L.length → 0 ≤ L.getD k 0 ∧ L.getD k 0 < (u : Int) + 1) : VT Try.prog (fnC Try.f80 [1, 0, 1, 0, 0, 1, 1, 0, 0, 1, 1, 0]) (pord_iy_I l u L 0) (.exit 2) (pord_iy_Z l u L) :=
  VT.loop (fun k => pord_iy_I l u L k) (L.length) (fun k hk => pord_iy_s l u L hl h k hk) (pord_iy_e l u L hl h) (by intro h; cases h)

noncomputable def pord_in_I (l : List Nod) (u : Nat) (L : List Int) (j : Nat) (k : Nat) : VS := stt 30 [(3, i64 u), (7, .sl 19 (l.map nodC)), (8, i64 l.length), (9, i64 u), (15, ints .i64 L), (16, i64 L.length), (17, i64 k)] []
noncomputable def pord_in_Z (l : List Nod) (u : Nat) (L : List Int) (j : Nat) : VS := stt 30 [(2, bv false)] []
set_option maxRecDepth 100000 in
set_option maxHeartbeats 2000000 in
theorem pord_in_s (l : List Nod) (u : Nat) (L : List Int) (j : Nat) (hl : L.length ≤ 2) (hj : j < L.length) (hf : ¬ (0 ≤ L.getD j 0 ∧ L.getD j 0 < (u : Int) + 1)) (h : ∀ k, k < j → 0 ≤ L.getD k 0 ∧ L.getD k 0 < (u : Int) + 1) (k : Nat) (hk : k < j) : VT Try.prog (fnC Try.f80 [1, 0, 1, 0, 0, 1, 1, 0, 0, 1, 1, 0, 0]) (pord_in_I l u L j k) .normal (pord_in_I l u L j (k + 1)) := by
  have q := h k hk
  have oz3 := (decide_eq_false (p := (L.getD k 0 < 0)) (by omega))
  exact VT.run (W := [.r [] [], .br true, .r [] [.row [i64 (L.getD k 0)]], .r [] [.br true, .br true, .br true, .br false], .br false, .r [] [.n ((↑k : Int) + 1)]]) (G := [.any (rg [(6, 1), (18, 11)]), .weak 17 (i64 (↑(k + 1) : Int)), .sort]) (by kernel_rfl) (.c (decide_eq_true (p := ((↑k : Int) < (↑L.length : Int))) (by omega)) <| .c (show 0 ≤ (↑k : Int) by omega) <| .c (map_at (row1 IntKind.i64) (0) (l := L) (i := k) (by omega)) <| .c oz3 <| .c oz3 <| .c oz3 <| .c oz3 <| .c (decide_eq_false (p := (L.getD k 0 > (↑u : Int))) (by omega)) <| .c (IntWalk.i64_in ((↑k : Int) + 1) (by omega)) <| .c (Weak.int (k := .i64) (show (((↑k : Int) + 1) : Int) = ((↑(k + 1) : Int)) from (by omega))) <| .n)
set_option maxRecDepth 100000 in
set_option maxHeartbeats 2000000 in
theorem pord_in_e (l : List Nod) (u : Nat) (L : List Int) (j : Nat) (hl : L.length ≤ 2) (hj : j < L.length) (hf : ¬ (0 ≤ L.getD j 0 ∧ L.getD j 0 < (u : Int) + 1)) (h : ∀ k, k < j → 0 ≤ L.getD k 0 ∧ L.getD k 0 < (u : Int) + 1) : VT Try.prog (fnC Try.f80 [1, 0, 1, 0, 0, 1, 1, 0, 0, 1, 1, 0, 0]) (pord_in_I l u L j (j)) (.ret) (pord_in_Z l u L j) := by
  exact VT.run (W := [.r [] [], .br true, .r [] [.row [i64 (L.getD j 0)]], .r [] [.op false, .op false, .op false, .sel 1], .br true, .r [] []]) (G := [.any (rg [(3, 1), (6, 4), (15, 9), (27, 1)]), .sort]) (by kernel_rfl) (.c (decide_eq_true (p := ((↑j : Int) < (↑L.length : Int))) (by omega)) <| .c (show 0 ≤ (↑j : Int) by omega) <| .c (map_at (row1 IntKind.i64) (0) (l := L) (i := j) hj) <| .c (show (decide (L.getD j 0 < 0) || decide (L.getD j 0 > (↑u : Int))) = true by (simp at *; omega)) <| .n)
theorem pord_in (l : List Nod) (u : Nat) (L : List Int) (j : Nat) (hl : L.length ≤ 2) (hj : j < L.length) (hf : ¬ (0 ≤ L.getD j 0 ∧ L.getD j 0 < (u : Int) + 1)) (h : ∀ k, k < j → 0 ≤ L.getD k 0 ∧ L.getD k 0 < (u : Int) + 1) : VT Try.prog (fnC Try.f80 [1, 0, 1, 0, 0, 1, 1, 0, 0, 1, 1, 0]) (pord_in_I l u L j 0) (.ret) (pord_in_Z l u L j) :=
  VT.loop (fun k => pord_in_I l u L j k) (j) (fun k hk => pord_in_s l u L j hl hj hf h k hk) (pord_in_e l u L j hl hj hf h) (by intro h; cases h)

noncomputable def pord_oy_I (l : List Nod) (k : Nat) : VS := stt 30 [(7, .sl 19 (l.map nodC)), (8, i64 l.length), (9, i64 k)] []
noncomputable def pord_oy_Z (l : List Nod) : VS := pord_oy_I l (l.length)
set_option maxRecDepth 100000 in
set_option maxHeartbeats 2000000 in
theorem pord_oy_s (l : List Nod) (hl : l.length ≤ 1000) (h : ∀ k : Nat, k < l.length → thereB (l.getD k default) ((k : Int) + 1) = true) (k : Nat) (hk : k < l.length) : VT Try.prog (fnC Try.f80 [1, 0, 1, 0, 0]) (pord_oy_I l k) .normal (pord_oy_I l (k + 1)) := by
  have q := (takes_in _ _).2 (h k hk)
  have q2 := takes_len (l.getD k default)
  have oz2 := (map_at (nodC) (default) (l := l) (i := k) hk)
  have oz3 := @pvalues_v (l.getD k default)
  have oz4 := (Weak.int (k := .i64) (show (((↑(List.map (row1 IntKind.i64) (takesL (l.getD k default))).length : Int)) : Int) = ((↑(takesL (l.getD k default)).length : Int)) from (by (simp; done))))
  have oz6 := @pord_iy (l) (k) (takesL (l.getD k default)) (by omega) q
  exact VT.run (W := [.r [] [], .br true, .r [] [.row (sO oz2)], .r [] [.callr (rO oz3)], .code [.any (rg [(4, 1), (10, 5)]), .drop [4], .weak 16 (wO oz4), .weak 17 (i64 (↑0 : Int)), .sort] (Exit.exit 2) (zO oz6), .r [] [.n ((↑k : Int) + 1)]]) (G := [.any [3, 15, 16, 17, 29], .weak 9 (i64 (↑(k + 1) : Int)), .sort]) (by kernel_rfl) (.c (decide_eq_true (p := ((↑k : Int) < (↑l.length : Int))) (by omega)) <| .c (show 0 ≤ (↑k : Int) by omega) <| .c oz2 <| .c oz3 <| .c oz4 <| .c (Weak.int (k := .i64) (show ((0) : Int) = ((↑0 : Int)) from (by omega))) <| .c oz6 <| .c (IntWalk.i64_in ((↑k : Int) + 1) (by omega)) <| .c (Weak.int (k := .i64) (show (((↑k : Int) + 1) : Int) = ((↑(k + 1) : Int)) from (by omega))) <| .n)
set_option maxRecDepth 100000 in
set_option maxHeartbeats 2000000 in
theorem pord_oy_e (l : List Nod) (hl : l.length ≤ 1000) (h : ∀ k : Nat, k < l.length → thereB (l.getD k default) ((k : Int) + 1) = true) : VT Try.prog (fnC Try.f80 [1, 0, 1, 0, 0]) (pord_oy_I l (l.length)) (.exit 0) (pord_oy_Z l) := by
  exact VT.run (W := [.r [] [], .br false]) (G := [.any [10], .sort]) (by kernel_rfl) (.c (decide_eq_false (p := ((↑l.length : Int) < (↑l.length : Int))) (by omega)) <| .n)
theorem pord_oy (l : List Nod) (hl : l.length ≤ 1000) (h : ∀ k : Nat, k < l.length → thereB (l.getD k default) ((k : Int) + 1) = true) : VT Try.prog (fnC Try.f80 [1, 0, 1, 0]) (pord_oy_I l 0) (.exit 0) (pord_oy_Z l) :=
  VT.loop (fun k => pord_oy_I l k) (l.length) (fun k hk => pord_oy_s l hl h k hk) (pord_oy_e l hl h) (by intro h; cases h)

noncomputable def pord_on_I (l : List Nod) (m i : Nat) (k : Nat) : VS := stt 30 [(7, .sl 19 (l.map nodC)), (8, i64 l.length), (9, i64 k)] []
noncomputable def pord_on_Z (l : List Nod) (m i : Nat) : VS := stt 30 [(2, bv false)] []
set_option maxRecDepth 100000 in
set_option maxHeartbeats 2000000 in
theorem pord_on_s (l : List Nod) (m i : Nat) (hl : l.length ≤ 1000) (hm : m < l.length) (hj : i < (takesL (l.getD m default)).length) (hf : ¬ (0 ≤ (takesL (l.getD m default)).getD i 0 ∧ (takesL (l.getD m default)).getD i 0 < (m : Int) + 1)) (hi : ∀ k, k < i → 0 ≤ (takesL (l.getD m default)).getD k 0 ∧ (takesL (l.getD m default)).getD k 0 < (m : Int) + 1) (h : ∀ k : Nat, k < m → thereB (l.getD k default) ((k : Int) + 1) = true) (k : Nat) (hk : k < m) : VT Try.prog (fnC Try.f80 [1, 0, 1, 0, 0]) (pord_on_I l m i k) .normal (pord_on_I l m i (k + 1)) := by
  have q := (takes_in _ _).2 (h k hk)
  have q2 := takes_len (l.getD k default)
  have q3 : k < l.length := by omega
  have oz2 := (map_at (nodC) (default) (l := l) (i := k) q3)
  have oz3 := @pvalues_v (l.getD k default)
  have oz4 := (Weak.int (k := .i64) (show (((↑(List.map (row1 IntKind.i64) (takesL (l.getD k default))).length : Int)) : Int) = ((↑(takesL (l.getD k default)).length : Int)) from (by (simp; done))))
  have oz6 := @pord_iy (l) (k) (takesL (l.getD k default)) (by omega) q
  exact VT.run (W := [.r [] [], .br true, .r [] [.row (sO oz2)], .r [] [.callr (rO oz3)], .code [.any (rg [(4, 1), (10, 5)]), .drop [4], .weak 16 (wO oz4), .weak 17 (i64 (↑0 : Int)), .sort] (Exit.exit 2) (zO oz6), .r [] [.n ((↑k : Int) + 1)]]) (G := [.any [3, 15, 16, 17, 29], .weak 9 (i64 (↑(k + 1) : Int)), .sort]) (by kernel_rfl) (.c (decide_eq_true (p := ((↑k : Int) < (↑l.length : Int))) (by omega)) <| .c (show 0 ≤ (↑k : Int) by omega) <| .c oz2 <| .c oz3 <| .c oz4 <| .c (Weak.int (k := .i64) (show ((0) : Int) = ((↑0 : Int)) from (by omega))) <| .c oz6 <| .c (IntWalk.i64_in ((↑k : Int) + 1) (by omega)) <| .c (Weak.int (k := .i64) (show (((↑k : Int) + 1) : Int) = ((↑(k + 1) : Int)) from (by omega))) <| .n)
set_option maxRecDepth 100000 in
set_option maxHeartbeats 2000000 in
theorem pord_on_e (l : List Nod) (m i : Nat) (hl : l.length ≤ 1000) (hm : m < l.length) (hj : i < (takesL (l.getD m default)).length) (hf : ¬ (0 ≤ (takesL (l.getD m default)).getD i 0 ∧ (takesL (l.getD m default)).getD i 0 < (m : Int) + 1)) (hi : ∀ k, k < i → 0 ≤ (takesL (l.getD m default)).getD k 0 ∧ (takesL (l.getD m default)).getD k 0 < (m : Int) + 1) (h : ∀ k : Nat, k < m → thereB (l.getD k default) ((k : Int) + 1) = true) : VT Try.prog (fnC Try.f80 [1, 0, 1, 0, 0]) (pord_on_I l m i (m)) (.ret) (pord_on_Z l m i) := by
  have q2 := takes_len (l.getD m default)
  have oz2 := (map_at (nodC) (default) (l := l) (i := m) hm)
  have oz3 := @pvalues_v (l.getD m default)
  have oz4 := (Weak.int (k := .i64) (show (((↑(List.map (row1 IntKind.i64) (takesL (l.getD m default))).length : Int)) : Int) = ((↑(takesL (l.getD m default)).length : Int)) from (by (simp; done))))
  have oz6 := @pord_in (l) (m) (takesL (l.getD m default)) (i) (by omega) hj hf hi
  exact VT.run (W := [.r [] [], .br true, .r [] [.row (sO oz2)], .r [] [.callr (rO oz3)], .code [.any (rg [(4, 1), (10, 5)]), .drop [4], .weak 16 (wO oz4), .weak 17 (i64 (↑0 : Int)), .sort] (Exit.ret) (zO oz6)]) (G := [.sort]) (by kernel_rfl) (.c (decide_eq_true (p := ((↑m : Int) < (↑l.length : Int))) (by omega)) <| .c (show 0 ≤ (↑m : Int) by omega) <| .c oz2 <| .c oz3 <| .c oz4 <| .c (Weak.int (k := .i64) (show ((0) : Int) = ((↑0 : Int)) from (by omega))) <| .c oz6 <| .n)
theorem pord_on (l : List Nod) (m i : Nat) (hl : l.length ≤ 1000) (hm : m < l.length) (hj : i < (takesL (l.getD m default)).length) (hf : ¬ (0 ≤ (takesL (l.getD m default)).getD i 0 ∧ (takesL (l.getD m default)).getD i 0 < (m : Int) + 1)) (hi : ∀ k, k < i → 0 ≤ (takesL (l.getD m default)).getD k 0 ∧ (takesL (l.getD m default)).getD k 0 < (m : Int) + 1) (h : ∀ k : Nat, k < m → thereB (l.getD k default) ((k : Int) + 1) = true) : VT Try.prog (fnC Try.f80 [1, 0, 1, 0]) (pord_on_I l m i 0) (.ret) (pord_on_Z l m i) :=
  VT.loop (fun k => pord_on_I l m i k) (m) (fun k hk => pord_on_s l m i hl hm hj hf hi h k hk) (pord_on_e l m i hl hm hj hf hi h) (by intro h; cases h)

set_option maxRecDepth 100000 in
set_option maxHeartbeats 2000000 in
theorem pord_y (l : List Nod) (hl : l.length ≤ 1000) (h : ∀ k : Nat, k < l.length → thereB (l.getD k default) ((k : Int) + 1) = true) : VC Try.prog 80 ([.sl 19 (l.map nodC)]) (bv true) := by
  have oz2 := @pord_oy (l) hl h
  exact VC.run (fn := Try.f80) (W := [.r [] [], .r [] [], .code [.any [0, 2], .weak 8 (i64 (↑l.length : Int)), .weak 9 (i64 (↑0 : Int)), .sort] (Exit.exit 0) (zO oz2), .r [] []]) Try.func80 (by kernel_rfl) (.c (Weak.int (k := .i64) (show (((↑(List.map nodC l).length : Int)) : Int) = ((↑l.length : Int)) from (by (simp; done)))) <| .c (Weak.int (k := .i64) (show ((0) : Int) = ((↑0 : Int)) from (by omega))) <| .c oz2 <| .n)

set_option maxRecDepth 100000 in
set_option maxHeartbeats 2000000 in
theorem pord_n (l : List Nod) (m i : Nat) (hl : l.length ≤ 1000) (hm : m < l.length) (hj : i < (takesL (l.getD m default)).length) (hf : ¬ (0 ≤ (takesL (l.getD m default)).getD i 0 ∧ (takesL (l.getD m default)).getD i 0 < (m : Int) + 1)) (hi : ∀ k, k < i → 0 ≤ (takesL (l.getD m default)).getD k 0 ∧ (takesL (l.getD m default)).getD k 0 < (m : Int) + 1) (h : ∀ k : Nat, k < m → thereB (l.getD k default) ((k : Int) + 1) = true) : VC Try.prog 80 ([.sl 19 (l.map nodC)]) (bv false) := by
  have oz2 := @pord_on (l) (m) (i) hl hm hj hf hi h
  exact VC.run (fn := Try.f80) (W := [.r [] [], .r [] [], .code [.any [0, 2], .weak 8 (i64 (↑l.length : Int)), .weak 9 (i64 (↑0 : Int)), .sort] (Exit.ret) (zO oz2)]) Try.func80 (by kernel_rfl) (.c (Weak.int (k := .i64) (show (((↑(List.map nodC l).length : Int)) : Int) = ((↑l.length : Int)) from (by (simp; done)))) <| .c (Weak.int (k := .i64) (show ((0) : Int) = ((↑0 : Int)) from (by omega))) <| .c oz2 <| .n)
theorem ordered_iff (l : List Nod) : orderedB l = true ↔ ∀ k : Nat, k < l.length → thereB (l.getD k default) ((k : Int) + 1) = true := by
  unfold orderedB; rw [List.all_eq_true]; simp only [List.mem_range]
theorem pord_v (l : List Nod) (hl : l.length ≤ 1000) : VC Try.prog 80 [.sl 19 (l.map nodC)] (bv (orderedB l)) := by
  rcases all_or (fun k => thereB (l.getD k default) ((k : Int) + 1)) l.length with h | ⟨m, h1, h2, h3⟩
  · rw [(ordered_iff l).2 h]; exact pord_y l hl h
  · have : orderedB l = false := by
      cases e : orderedB l with
      | false => rfl
      | true => have := (ordered_iff l).1 e m h1; rw [h2] at this; cases this
    rw [this]
    rcases all_or (fun k => decide (0 ≤ (takesL (l.getD m default)).getD k 0 ∧ (takesL (l.getD m default)).getD k 0 < (m : Int) + 1)) (takesL (l.getD m default)).length with g | ⟨i, g1, g2, g3⟩
    · have := (takes_there (l.getD m default) ((m : Int) + 1)).1 g; rw [h2] at this; cases this
    · exact pord_n l m i hl h1 g1 (of_decide_eq_false g2) (fun k hk => of_decide_eq_true (g3 k hk)) h3
end Go.Proofs.Ytgecmooedhnenaa

/- What is left of a block without what nobody takes, by the program and by the document. No condition. -/
namespace Go.Proofs.Ytgecmooedhnenaa
open Go.RowKit
set_option linter.unusedSimpArgs false
set_option linter.unusedVariables false
set_option linter.unnecessarySimpa false

abbrev usI (us : List Nat) : List Int := us.map fun u : Nat => (u : Int)
/-- The first k of the nodes that are left. -/
def prunK (l : List Nod) (k : Nat) : List Nod := ((usedL l).take k).map fun i => pruneN (usedL l) (l.getD i default)
theorem prunK_len (l : List Nod) (k : Nat) : (prunK l k).length ≤ k := by unfold prunK; rw [List.length_map, List.length_take]; omega
theorem prunK_step {l : List Nod} {k : Nat} (hk : k < (usedL l).length) : prunK l (k + 1) = prunK l k ++ [pruneN (usedL l) (l.getD ((usedL l).getD k 0) default)] := by
  unfold prunK
  rw [List.take_add_one, List.getElem?_eq_getElem hk, List.getD_eq_getElem?_getD (l := usedL l), List.getElem?_eq_getElem hk]
  simp only [Option.toList_some, List.map_append, List.map_cons, List.map_nil, Option.getD_some]
theorem prunK_all {l : List Nod} (h : orderedB l = true) : prunK l (usedL l).length = pruneL l := by unfold prunK pruneL; rw [List.take_length, if_pos h]
theorem used_len (l : List Nod) : (usedL l).length ≤ l.length := by
  unfold usedL; have := List.length_filter_le (usedB l) (List.range l.length); rw [List.length_range] at this; exact this
theorem usI_at {us : List Nat} {k : Nat} (hk : k < us.length) : (usI us).getD k 0 = ((us.getD k 0 : Nat) : Int) := by
  unfold usI; rw [List.getD_eq_getElem?_getD, List.getElem?_map, List.getElem?_eq_getElem hk, List.getD_eq_getElem?_getD, List.getElem?_eq_getElem hk]; rfl
end Go.Proofs.Ytgecmooedhnenaa

/- Which nodes of a block are used, by the program: numbers the other way round; what is wanted. No condition. -/
namespace Go.Proofs.Ytgecmooedhnenaa
open Go.RowKit
set_option linter.unusedSimpArgs false
set_option linter.unusedVariables false
set_option linter.unnecessarySimpa false

/-- The first and the last k numbers exchanged. -/
def revS (L : List Int) : Nat → List Int
  | 0 => L
  | k + 1 => ((revS L k).set k ((revS L k).getD (L.length - 1 - k) 0)).set (L.length - 1 - k) ((revS L k).getD k 0)
theorem revS_len (L : List Int) : ∀ k, (revS L k).length = L.length
  | 0 => rfl
  | k + 1 => by rw [revS, List.length_set, List.length_set, revS_len L k]
theorem getD_set (L : List Int) (i j : Nat) (x : Int) (hi : i < L.length) : (L.set i x).getD j 0 = if i = j then x else L.getD j 0 := by
  rw [List.getD_eq_getElem?_getD, List.getElem?_set, List.getD_eq_getElem?_getD]
  by_cases e : i = j
  · subst e; simp [hi]
  · simp [e]
theorem revS_get (L : List Int) : ∀ k, k ≤ L.length / 2 → ∀ i, i < L.length → (revS L k).getD i 0 = if i < k ∨ L.length - k ≤ i then L.getD (L.length - 1 - i) 0 else L.getD i 0
  | 0, _, i, hi => by rw [revS, if_neg (by omega)]
  | k + 1, hk, i, hi => by
    have ih := revS_get L k (by omega)
    rw [revS, getD_set _ _ _ _ (by rw [List.length_set, revS_len]; omega), getD_set _ _ _ _ (by rw [revS_len]; omega)]
    by_cases e1 : L.length - 1 - k = i
    · rw [if_pos e1, ih k (by omega), if_neg (by omega), if_pos (by omega)]; congr 1; omega
    · rw [if_neg e1]
      by_cases e2 : k = i
      · rw [if_pos e2, ih (L.length - 1 - k) (by omega), if_neg (by omega), if_pos (by omega)]; congr 1; omega
      · rw [if_neg e2, ih i hi]
        by_cases e3 : i < k ∨ L.length - k ≤ i
        · rw [if_pos e3, if_pos (by omega)]
        · rw [if_neg e3, if_neg (by omega)]
theorem revS_all (L : List Int) : revS L (L.length / 2) = L.reverse := by
  apply List.ext_getElem?
  intro i
  by_cases hi : i < L.length
  · have h1 := revS_get L (L.length / 2) (Nat.le_refl _) i hi
    have h2 : (revS L (L.length / 2))[i]? = some ((revS L (L.length / 2)).getD i 0) := by
      rw [List.getD_eq_getElem?_getD, List.getElem?_eq_getElem (by rw [revS_len]; exact hi)]; rfl
    rw [h2, h1, List.getElem?_reverse hi]
    have h3 : ∀ j, j < L.length → L[j]? = some (L.getD j 0) := fun j hj => by rw [List.getD_eq_getElem?_getD, List.getElem?_eq_getElem hj]; rfl
    rw [h3 _ (by omega)]
    split
    · rfl
    · congr 2; omega
  · rw [List.getElem?_eq_none (by rw [revS_len]; omega), List.getElem?_eq_none (by rw [List.length_reverse]; omega)]
noncomputable def reverse_l_I (L : List Int) (k : Nat) : VS := stt 28 [(0, .own 100000), (2, i64 k), (3, i64 ((L.length : Int) - 1 - k))] [(100000, .slc 3 1 ((revS L k).map (row1 .i64)))]
noncomputable def reverse_l_Z (L : List Int) : VS := reverse_l_I L (L.length / 2)
set_option maxRecDepth 100000 in
set_option maxHeartbeats 2000000 in
theorem reverse_l_s (L : List Int) (hl : L.length ≤ 1000) (k : Nat) (hk : k < L.length / 2) : VT Try.prog (fnC Try.f85 [1, 0, 0]) (reverse_l_I L k) .normal (reverse_l_I L (k + 1)) := by
  have q0 : (List.map (row1 .i64) L).length = L.length := List.length_map _
  have q := revS_len L k
  have q9 : L.length = (L.length : Nat) := rfl
  have q2 : (List.map (row1 .i64) (revS L k)).length = (revS L k).length := List.length_map _
  have q3 : ((L.length : Int) - 1 - k).toNat = L.length - 1 - k := by omega
  have oz1 := (show 0 ≤ (↑L.length : Int) - 1 - (↑k : Int) by omega)
  have oz3 := (map_at (row1 IntKind.i64) (0) (l := revS L k) (i := ((↑L.length : Int) - 1 - (↑k : Int)).toNat) (by omega))
  have oz4 := (show 0 ≤ (↑k : Int) by omega)
  have oz5 := (show (↑k : Int) < (↑(List.map (row1 IntKind.i64) (revS L k)).length : Int) by omega)
  have oz6 := (map_at (row1 IntKind.i64) (0) (l := revS L k) (i := k) (by omega))
  have oz14 := (IntWalk.i64_in ((↑L.length : Int) - 1 - (↑k : Int) - 1) (by omega))
  have oz16 := (Weak.int (k := .i64) (show (((↑L.length : Int) - 1 - (↑k : Int) - 1) : Int) = ((↑L.length : Int) - 1 - (↑(k + 1) : Int)) from (by omega)))
  exact VT.run (W := [.r [] [], .br true, .r [] [.row (sO oz3), .row (sO oz6), .nat 0, .nat 0], .r [] [.n ((↑k : Int) + 1), .n (nO oz14)]]) (G := [.any (rg [(7, 21)]), .weak 2 (i64 (↑(k + 1) : Int)), .weak 3 (wO oz16), .blk 100000 (Blk.slc 3 1 (List.map (row1 IntKind.i64) (revS L (k + 1)))), .sort]) (by kernel_rfl) (.c (decide_eq_true (p := ((↑k : Int) < (↑L.length : Int) - 1 - (↑k : Int))) (by omega)) <| .c oz1 <| .c (show (↑L.length : Int) - 1 - (↑k : Int) < (↑(List.map (row1 IntKind.i64) (revS L k)).length : Int) by omega) <| .c oz3 <| .c oz4 <| .c oz5 <| .c oz6 <| .c oz4 <| .c oz5 <| .c (show (↑k : Int).toNat < (List.map (row1 IntKind.i64) (revS L k)).length by omega) <| .c oz1 <| .c (show (↑L.length : Int) - 1 - (↑k : Int) < (↑((List.map (row1 IntKind.i64) (revS L k)).set (↑k : Int).toNat [i64 ((revS L k).getD ((↑L.length : Int) - 1 - (↑k : Int)).toNat 0)]).length : Int) by (simp; omega)) <| .c (show ((↑L.length : Int) - 1 - (↑k : Int)).toNat < ((List.map (row1 IntKind.i64) (revS L k)).set (↑k : Int).toNat [i64 ((revS L k).getD ((↑L.length : Int) - 1 - (↑k : Int)).toNat 0)]).length by (simp; omega)) <| .c (IntWalk.i64_in ((↑k : Int) + 1) (by omega)) <| .c oz14 <| .c (Weak.int (k := .i64) (show (((↑k : Int) + 1) : Int) = ((↑(k + 1) : Int)) from (by omega))) <| .c oz16 <| .c (show BlkW (Blk.slc 3 1 (((List.map (row1 IntKind.i64) (revS L k)).set (↑k : Int).toNat [i64 ((revS L k).getD ((↑L.length : Int) - 1 - (↑k : Int)).toNat 0)]).set ((↑L.length : Int) - 1 - (↑k : Int)).toNat [i64 ((revS L k).getD k 0)])) (Blk.slc 3 1 (List.map (row1 IntKind.i64) (revS L (k + 1)))) from (BlkW.rows (rows_to (row1 IntKind.i64) (r := ((List.map (row1 IntKind.i64) (revS L k)).set (↑k : Int).toNat [i64 ((revS L k).getD ((↑L.length : Int) - 1 - (↑k : Int)).toNat 0)]).set ((↑L.length : Int) - 1 - (↑k : Int)).toNat [i64 ((revS L k).getD k 0)]) (l := ((revS L k).set (↑k : Int).toNat ((revS L k).getD ((↑L.length : Int) - 1 - (↑k : Int)).toNat 0)).set ((↑L.length : Int) - 1 - (↑k : Int)).toNat ((revS L k).getD k 0)) (m := revS L (k + 1)) (by first | (simp only [List.map_append, List.map_cons, List.map_nil, List.map_set, List.map_replicate, List.map_take, List.map_drop]; done) | rfl | (simp only [List.map_append, List.map_cons, List.map_nil, List.map_set, List.map_replicate, List.map_take, List.map_drop]; rfl)) (show (((revS L k).set (↑k : Int).toNat ((revS L k).getD ((↑L.length : Int) - 1 - (↑k : Int)).toNat 0)).set ((↑L.length : Int) - 1 - (↑k : Int)).toNat ((revS L k).getD k 0)) = (revS L (k + 1)) from (by (rw [revS, q3, Int.toNat_natCast])))))) <| .n)
set_option maxRecDepth 100000 in
set_option maxHeartbeats 2000000 in
theorem reverse_l_e (L : List Int) (hl : L.length ≤ 1000) : VT Try.prog (fnC Try.f85 [1, 0, 0]) (reverse_l_I L (L.length / 2)) (.exit 0) (reverse_l_Z L) := by
  have q := revS_len L (L.length / 2)
  have q2 : (List.map (row1 .i64) (revS L (L.length / 2))).length = (revS L (L.length / 2)).length := List.length_map _
  exact VT.run (W := [.r [] [], .br false]) (G := [.any [7, 8, 9], .sort]) (by kernel_rfl) (.c (decide_eq_false (p := ((↑(L.length / 2) : Int) < (↑L.length : Int) - 1 - (↑(L.length / 2) : Int))) (by omega)) <| .n)
theorem reverse_l (L : List Int) (hl : L.length ≤ 1000) : VT Try.prog (fnC Try.f85 [1, 0]) (reverse_l_I L 0) (.exit 0) (reverse_l_Z L) :=
  VT.loop (fun k => reverse_l_I L k) (L.length / 2) (fun k hk => reverse_l_s L hl k hk) (reverse_l_e L hl) (by intro h; cases h)

set_option maxRecDepth 100000 in
set_option maxHeartbeats 2000000 in
theorem reverse_v (L : List Int) (hl : L.length ≤ 1000) : VM Try.prog 85 ([.own 100000]) ([(100000, .slc 3 1 (L.map (row1 .i64)))]) (.tup []) ([(100000, .slc 3 1 (L.reverse.map (row1 .i64)))]) := by
  have q0 : (List.map (row1 .i64) L).length = L.length := List.length_map _
  have oz0 := (IntWalk.i64_in ((↑(List.map (row1 IntKind.i64) L).length : Int) - 1) (by omega))
  have oz2 := (Weak.int (k := .i64) (show (((↑(List.map (row1 IntKind.i64) L).length : Int) - 1) : Int) = ((↑L.length : Int) - 1 - (↑0 : Int)) from (by omega)))
  have oz4 := @reverse_l (L) hl
  exact VM.run (fn := Try.f85) (W := [.r [] [.n (nO oz0)], .code [.any [4, 5, 6], .weak 2 (i64 (↑0 : Int)), .weak 3 (wO oz2), .blk 100000 (Blk.slc 3 1 (List.map (row1 IntKind.i64) (revS L 0))), .sort] (Exit.exit 0) (zO oz4)]) (G := [.blk 100000 (Blk.slc 3 1 (List.map (row1 IntKind.i64) L.reverse)), .sort]) Try.func85 (by kernel_rfl) (.c oz0 <| .c (Weak.int (k := .i64) (show ((0) : Int) = ((↑0 : Int)) from (by omega))) <| .c oz2 <| .c (show BlkW (Blk.slc 3 1 (List.map (row1 IntKind.i64) L)) (Blk.slc 3 1 (List.map (row1 IntKind.i64) (revS L 0))) from (BlkW.rows (rows_to (row1 IntKind.i64) (r := List.map (row1 IntKind.i64) L) (l := L) (m := revS L 0) rfl (show (L) = (revS L 0) from (by rfl))))) <| .c oz4 <| .c (show BlkW (Blk.slc 3 1 (List.map (row1 IntKind.i64) (revS L (L.length / 2)))) (Blk.slc 3 1 (List.map (row1 IntKind.i64) L.reverse)) from (BlkW.rows (rows_to (row1 IntKind.i64) (r := List.map (row1 IntKind.i64) (revS L (L.length / 2))) (l := revS L (L.length / 2)) (m := L.reverse) rfl (show (revS L (L.length / 2)) = (L.reverse) from (by (rw [← revS_all])))))) <| .n)
abbrev rowB (b : Bool) : List AV := [bv b]
/-- So many values are wanted besides. -/
def setW (w : List Bool) (L : List Int) : Nat → List Bool
  | 0 => w
  | k + 1 => (setW w L k).set (L.getD k 0).toNat true
theorem setW_len (w : List Bool) (L : List Int) : ∀ k, (setW w L k).length = w.length
  | 0 => rfl
  | k + 1 => by rw [setW, List.length_set, setW_len w L k]
theorem getD_setB (L : List Bool) (i j : Nat) (x : Bool) (hi : i < L.length) : (L.set i x).getD j false = if i = j then x else L.getD j false := by
  rw [List.getD_eq_getElem?_getD, List.getElem?_set, List.getD_eq_getElem?_getD]
  by_cases e : i = j
  · subst e; simp [hi]
  · simp [e]
def wL (l : List Nod) (k : Nat) : List Bool := (List.range (l.length + 1)).map fun v : Nat => wt l k (v : Int)
theorem wL_len (l : List Nod) (k : Nat) : (wL l k).length = l.length + 1 := by unfold wL; rw [List.length_map, List.length_range]
theorem wL_at (l : List Nod) (k : Nat) {v : Nat} (hv : v < l.length + 1) : (wL l k).getD v false = wt l k (v : Int) := by
  unfold wL; rw [List.getD_eq_getElem?_getD, List.getElem?_map, List.getElem?_range hv]; rfl
theorem bools_ext {a b : List Bool} (h : a.length = b.length) (g : ∀ v, v < b.length → a.getD v false = b.getD v false) : a = b := by
  apply List.ext_getElem?
  intro i
  by_cases hi : i < b.length
  · have := g i hi
    rw [List.getD_eq_getElem?_getD, List.getD_eq_getElem?_getD, List.getElem?_eq_getElem hi, List.getElem?_eq_getElem (by omega)] at this
    rw [List.getElem?_eq_getElem hi, List.getElem?_eq_getElem (by omega)]; simpa using this
  · rw [List.getElem?_eq_none (by omega), List.getElem?_eq_none (by omega)]
theorem wL_no {l : List Nod} {k : Nat} (h : wt l k ((l.length : Int) - k) = false) : wL l (k + 1) = wL l k := by
  unfold wL; congr 1; funext v; rw [wt, h]; simp
theorem setW_at {w : List Bool} {L : List Int} {k : Nat} (hk : k ≤ L.length) (h : ∀ j, j < L.length → 0 ≤ L.getD j 0 ∧ (L.getD j 0).toNat < w.length) (v : Nat) : (setW w L k).getD v false = (w.getD v false || (List.range k).any fun j => decide (L.getD j 0 = (v : Int))) := by
  induction k with
  | zero => simp [setW]
  | succ k ih =>
    rw [setW, getD_setB _ _ _ _ (by rw [setW_len]; exact (h k (by omega)).2), ih (by omega), List.range_succ, List.any_append]
    simp only [List.any_cons, List.any_nil, Bool.or_false]
    have := h k (by omega)
    by_cases e : (L.getD k 0).toNat = v
    · have e2 : L.getD k 0 = (v : Int) := by omega
      rw [if_pos e, e2]; simp
    · have e2 : ¬ L.getD k 0 = (v : Int) := by omega
      rw [if_neg e]; simp only [decide_eq_false e2, Bool.or_false]
theorem takes_any (n : Nod) (v : Int) : ((List.range (takesL n).length).any fun j => decide ((takesL n).getD j 0 = v)) = takesB n v := by
  unfold takesL takesB
  by_cases h : n.kd = 6
  · rw [if_pos h]; simp [h, List.range_succ]
  · rw [if_neg h]; simp [h, List.range_succ]
theorem wL_yes {l : List Nod} {k : Nat} (hk : k < l.length) (ho : orderedB l = true) (h : wt l k ((l.length : Int) - k) = true) : setW (wL l k) (takesL (l.getD (l.length - 1 - k) default)) (takesL (l.getD (l.length - 1 - k) default)).length = wL l (k + 1) := by
  have ht := (takes_in _ _).2 ((ordered_iff l).1 ho (l.length - 1 - k) (by omega))
  refine bools_ext (by rw [setW_len, wL_len, wL_len]) fun v hv => ?_
  rw [wL_len] at hv
  rw [setW_at (Nat.le_refl _) (fun j hj => by have := ht j hj; rw [wL_len]; omega), takes_any, wL_at l k hv, wL_at l (k + 1) hv, wt, h]; simp
theorem wL_0 (l : List Nod) : ((List.replicate (l.length + 1) false).set l.length true) = wL l 0 := by
  refine bools_ext (by rw [List.length_set, List.length_replicate, wL_len]) fun v hv => ?_
  rw [wL_len] at hv
  rw [getD_setB _ _ _ _ (by simp), wL_at l 0 hv, wt]
  by_cases e : l.length = v
  · subst e; simp
  · rw [if_neg e, List.getD_eq_getElem?_getD, List.getElem?_replicate, if_pos hv]
    simp; omega
/-- The places of the used nodes among the last k, from the last one on. -/
def revK (l : List Nod) : Nat → List Int
  | 0 => []
  | k + 1 => if usedB l (l.length - 1 - k) = true then revK l k ++ [((l.length - 1 - k : Nat) : Int)] else revK l k
theorem revK_len (l : List Nod) : ∀ k, (revK l k).length ≤ k
  | 0 => Nat.le_refl _
  | k + 1 => by have := revK_len l k; rw [revK]; split <;> simp <;> omega
theorem revK_eq (l : List Nod) : ∀ k, k ≤ l.length → (revK l k).reverse = usI (((List.range l.length).drop (l.length - k)).filter (usedB l))
  | 0, _ => by rw [Nat.sub_zero, List.drop_of_length_le (by simp)]; rfl
  | k + 1, hk => by
    have hd : (List.range l.length).drop (l.length - (k + 1)) = (l.length - 1 - k) :: (List.range l.length).drop (l.length - k) := by
      rw [List.drop_eq_getElem_cons (by simp; omega), List.getElem_range, show l.length - (k + 1) + 1 = l.length - k by omega, show l.length - (k + 1) = l.length - 1 - k by omega]
    rw [hd, revK, List.filter_cons]
    split
    · rw [List.reverse_append, revK_eq l k (by omega)]; rfl
    · exact revK_eq l k (by omega)
theorem revK_all (l : List Nod) : (revK l l.length).reverse = usI (usedL l) := by
  rw [revK_eq l l.length (Nat.le_refl _)]; simp [usedL]
theorem revK_yes {l : List Nod} {k : Nat} (h : usedB l (l.length - 1 - k) = true) : revK l (k + 1) = revK l k ++ [((l.length - 1 - k : Nat) : Int)] := by rw [revK, if_pos h]
theorem revK_no {l : List Nod} {k : Nat} (h : usedB l (l.length - 1 - k) = false) : revK l (k + 1) = revK l k := by rw [revK, if_neg (by simp [h])]
theorem wt_used {l : List Nod} {k : Nat} (hk : k < l.length) : wt l k ((l.length : Int) - k) = usedB l (l.length - 1 - k) := by
  unfold usedB
  rw [show l.length - 1 - (l.length - 1 - k) = k by omega, show (((l.length - 1 - k : Nat) : Int)) + 1 = (l.length : Int) - k by omega]
noncomputable def pused_i_I (l : List Nod) (u : Int) (O L : List Int) (w : List Bool) (k : Nat) : VS := stt 58 [(0, .sl 19 (l.map nodC)), (3, .own 901), (4, .own 900), (5, i64 u), (45, ints .i64 L), (46, i64 L.length), (47, i64 k)] [(900, .slc 3 1 (O.map (row1 .i64))), (901, .slc 4 1 ((setW w L k).map rowB))]
noncomputable def pused_i_Z (l : List Nod) (u : Int) (O L : List Int) (w : List Bool) : VS := pused_i_I l u O L w (L.length)
set_option maxRecDepth 100000 in
set_option maxHeartbeats 2000000 in
theorem pused_i_s (l : List Nod) (u : Int) (O L : List Int) (w : List Bool) (hl : L.length ≤ 2) (ho : O.length ≤ 1000) (hw : ∀ k, k < L.length → 0 ≤ L.getD k 0 ∧ L.getD k 0 < w.length) (k : Nat) (hk : k < L.length) : VT Try.prog (fnC Try.f23 [1, 0, 1, 1, 1, 1, 1, 0, 1, 0, 0, 1, 0, 0, 1, 1, 1, 0, 0]) (pused_i_I l u O L w k) .normal (pused_i_I l u O L w (k + 1)) := by
  have q := hw k hk
  have q1 := setW_len w L k
  have q2 : (List.map rowB (setW w L k)).length = (setW w L k).length := List.length_map _
  exact VT.run (W := [.r [] [], .br true, .r [] [.row [i64 (L.getD k 0)]], .r [] [.nat 0], .r [] [.n ((↑k : Int) + 1)]]) (G := [.any (rg [(7, 1), (48, 7)]), .weak 47 (i64 (↑(k + 1) : Int)), .blk 901 (Blk.slc 4 1 (List.map rowB (setW w L (k + 1)))), .sort]) (by kernel_rfl) (.c (decide_eq_true (p := ((↑k : Int) < (↑L.length : Int))) (by omega)) <| .c (show 0 ≤ (↑k : Int) by omega) <| .c (map_at (row1 IntKind.i64) (0) (l := L) (i := k) hk) <| .c (show 0 ≤ L.getD k 0 by omega) <| .c (show L.getD k 0 < (↑(List.map rowB (setW w L k)).length : Int) by omega) <| .c (show (L.getD k 0).toNat < (List.map rowB (setW w L k)).length by omega) <| .c (IntWalk.i64_in ((↑k : Int) + 1) (by omega)) <| .c (Weak.int (k := .i64) (show (((↑k : Int) + 1) : Int) = ((↑(k + 1) : Int)) from (by omega))) <| .c (show BlkW (Blk.slc 4 1 ((List.map rowB (setW w L k)).set (L.getD k 0).toNat [bv true])) (Blk.slc 4 1 (List.map rowB (setW w L (k + 1)))) from (BlkW.rows (rows_to (rowB) (r := (List.map rowB (setW w L k)).set (L.getD k 0).toNat [bv true]) (l := (setW w L k).set (L.getD k 0).toNat true) (m := setW w L (k + 1)) (by first | (simp only [List.map_append, List.map_cons, List.map_nil, List.map_set, List.map_replicate, List.map_take, List.map_drop]; done) | rfl | (simp only [List.map_append, List.map_cons, List.map_nil, List.map_set, List.map_replicate, List.map_take, List.map_drop]; rfl) | (simp only [List.map_append, List.map_cons, List.map_nil, List.map_set, List.map_replicate, List.map_take, List.map_drop, rowB, ints]; done)) (show ((setW w L k).set (L.getD k 0).toNat true) = (setW w L (k + 1)) from (by rfl))))) <| .n)
set_option maxRecDepth 100000 in
set_option maxHeartbeats 2000000 in
theorem pused_i_e (l : List Nod) (u : Int) (O L : List Int) (w : List Bool) (hl : L.length ≤ 2) (ho : O.length ≤ 1000) (hw : ∀ k, k < L.length → 0 ≤ L.getD k 0 ∧ L.getD k 0 < w.length) : VT Try.prog (fnC Try.f23 [1, 0, 1, 1, 1, 1, 1, 0, 1, 0, 0, 1, 0, 0, 1, 1, 1, 0, 0]) (pused_i_I l u O L w (L.length)) (.exit 2) (pused_i_Z l u O L w) := by
  exact VT.run (W := [.r [] [], .br false]) (G := [.any [48], .sort]) (by kernel_rfl) (.c (decide_eq_false (p := ((↑L.length : Int) < (↑L.length : Int))) (by omega)) <| .n)
theorem pused_i (l : List Nod) (u : Int) (O L : List Int) (w : List Bool) (hl : L.length ≤ 2) (ho : O.length ≤ 1000) (hw : ∀ k, k < L.length → 0 ≤ L.getD k 0 ∧ L.getD k 0 < w.length) : VT Try.prog (fnC Try.f23 [1, 0, 1, 1, 1, 1, 1, 0, 1, 0, 0, 1, 0, 0, 1, 1, 1, 0]) (pused_i_I l u O L w 0) (.exit 2) (pused_i_Z l u O L w) :=
  VT.loop (fun k => pused_i_I l u O L w k) (L.length) (fun k hk => pused_i_s l u O L w hl ho hw k hk) (pused_i_e l u O L w hl ho hw) (by intro h; cases h)

noncomputable def pused_o_I (l : List Nod) (k : Nat) : VS := stt 58 [(0, .sl 19 (l.map nodC)), (3, .own 901), (4, .own 900), (5, i64 ((l.length : Int) - 1 - k))] [(900, .slc 3 1 ((revK l k).map (row1 .i64))), (901, .slc 4 1 ((wL l k).map rowB))]
noncomputable def pused_o_Z (l : List Nod) : VS := pused_o_I l (l.length)
set_option maxRecDepth 100000 in
set_option maxHeartbeats 2000000 in
theorem pused_o_s (l : List Nod) (hl : l.length ≤ 1000) (ho : orderedB l = true) (k : Nat) (hk : k < l.length) : VT Try.prog (fnC Try.f23 [1, 0, 1, 1, 1, 1, 1, 0, 1, 0, 0]) (pused_o_I l k) .normal (pused_o_I l (k + 1)) := by
  have q := revK_len l k
  have q1 := wL_len l k
  have q2 : (List.map (row1 .i64) (revK l k)).length = (revK l k).length := List.length_map _
  have q3 : (List.map rowB (wL l k)).length = (wL l k).length := List.length_map _
  have q4 := wt_used hk
  have q5 := @revK_yes l k
  have q6 := @revK_no l k
  have q7 := @wL_yes l k hk ho
  have q8 := @wL_no l k
  have q9 := takes_len (l.getD (l.length - 1 - k) default)
  have qa := (takes_in _ _).2 ((ordered_iff l).1 ho (l.length - 1 - k) (by omega))
  have qb : ((l.length : Int) - 1 - k).toNat = l.length - 1 - k := by omega
  have qc : ((l.length : Int) - 1 - k + 1).toNat = l.length - k := by omega
  have qd := wL_at l k (v := l.length - k) (by omega)
  have qe : (((l.length - k : Nat) : Int)) = (l.length : Int) - k := by omega
  have qf : (!(wL l k).getD ((l.length : Int) - 1 - k + 1).toNat default) = !usedB l (l.length - 1 - k) := by
    rw [qc]; show (!(wL l k).getD (l.length - k) false) = _; rw [qd, qe, q4]
  have qg : (!(wL l k).getD ((l.length : Int) - 1 - k + 1).toNat default) = false → usedB l (l.length - 1 - k) = true := fun h => by rw [qf] at h; simpa using h
  have qn : (!(wL l k).getD ((l.length : Int) - 1 - k + 1).toNat default) = true → usedB l (l.length - 1 - k) = false := fun h => by rw [qf] at h; simpa using h
  have qh : ((l.length - 1 - k : Nat) : Int) = (l.length : Int) - 1 - k := by omega
  have oz0 := (decide_eq_true (p := ((↑l.length : Int) - 1 - (↑k : Int) ≥ 0)) (by omega))
  have oz1 := (IntWalk.i64_in ((↑l.length : Int) - 1 - (↑k : Int) + 1) (by omega))
  have oz2 := (show 0 ≤ (↑l.length : Int) - 1 - (↑k : Int) + 1 by omega)
  have oz3 := (show (↑l.length : Int) - 1 - (↑k : Int) + 1 < (↑(List.map rowB (wL l k)).length : Int) by omega)
  have oz4 := (map_at (rowB) (default) (l := wL l k) (i := ((↑l.length : Int) - 1 - (↑k : Int) + 1).toNat) (by omega))
  rcases Bool.eq_false_or_eq_true (!(wL l k).getD ((↑l.length : Int) - 1 - (↑k : Int) + 1).toNat default) with hc0 | hc0
  · have gc0 : (wL l k).getD ((↑l.length : Int) - 1 - (↑k : Int) + 1).toNat default = false := by first | exact hc0 | exact of_decide_eq_true hc0 | exact of_decide_eq_false hc0 | simpa [eqNums] using hc0 | (simp [eqNums] at hc0 ⊢; first | done | assumption | omega)
    have oz6 := (IntWalk.i64_in ((↑l.length : Int) - 1 - (↑k : Int) - 1) (by omega))
    have oz7 := (Weak.int (k := .i64) (show (((↑l.length : Int) - 1 - (↑k : Int) - 1) : Int) = ((↑l.length : Int) - 1 - (↑(k + 1) : Int)) from (by omega)))
    exact VT.run (W := [.r [] [], .br true, .r [] [.n (nO oz1), .row (sO oz4)], .br true, .r [] [.n (nO oz6)]]) (G := [.any (rg [(27, 10)]), .weak 5 (wO oz7), .blk 900 (Blk.slc 3 1 (List.map (row1 IntKind.i64) (revK l (k + 1)))), .blk 901 (Blk.slc 4 1 (List.map rowB (wL l (k + 1)))), .sort]) (by kernel_rfl) (.c oz0 <| .c oz1 <| .c oz2 <| .c oz3 <| .c oz4 <| .c hc0 <| .c oz6 <| .c oz7 <| .c (show BlkW (Blk.slc 3 1 (List.map (row1 IntKind.i64) (revK l k))) (Blk.slc 3 1 (List.map (row1 IntKind.i64) (revK l (k + 1)))) from (BlkW.rows (rows_to (row1 IntKind.i64) (r := List.map (row1 IntKind.i64) (revK l k)) (l := revK l k) (m := revK l (k + 1)) rfl (show (revK l k) = (revK l (k + 1)) from (by (rw [q6 (qn (by assumption))])))))) <| .c (show BlkW (Blk.slc 4 1 (List.map rowB (wL l k))) (Blk.slc 4 1 (List.map rowB (wL l (k + 1)))) from (BlkW.rows (rows_to (rowB) (r := List.map rowB (wL l k)) (l := wL l k) (m := wL l (k + 1)) rfl (show (wL l k) = (wL l (k + 1)) from (by (rw [q8 (by rw [q4]; exact qn (by assumption))])))))) <| .n)
  · have gc0 : (wL l k).getD ((↑l.length : Int) - 1 - (↑k : Int) + 1).toNat default = true := by first | exact hc0 | exact of_decide_eq_true hc0 | exact of_decide_eq_false hc0 | simpa [eqNums] using hc0 | (simp [eqNums] at hc0 ⊢; first | done | assumption | omega)
    have oz9 := (map_at (nodC) (default) (l := l) (i := ((↑l.length : Int) - 1 - (↑k : Int)).toNat) (by omega))
    have oz10 := @pvalues_v (l.getD ((↑l.length : Int) - 1 - (↑k : Int)).toNat default)
    have oz11 := (Weak.int (k := .i64) (show (((↑(List.map (row1 IntKind.i64) (takesL (l.getD ((↑l.length : Int) - 1 - (↑k : Int)).toNat default))).length : Int)) : Int) = ((↑(takesL (l.getD ((↑l.length : Int) - 1 - (↑k : Int)).toNat default)).length : Int)) from (by (simp; done))))
    have oz15 := @pused_i (l) ((↑l.length : Int) - 1 - (↑k : Int)) (revK l k ++ [(↑l.length : Int) - 1 - (↑k : Int)]) (takesL (l.getD ((↑l.length : Int) - 1 - (↑k : Int)).toNat default)) (List.map (fun (v : Nat) => wt l k (↑v : Int)) (List.range (l.length + 1))) (by (simp at *; omega)) (by (simp; omega)) (by (rw [qb]; intro j hj; have := qa j hj; simp only [List.length_map, List.length_range]; omega))
    have oz16 := (IntWalk.i64_in ((↑l.length : Int) - 1 - (↑k : Int) - 1) (by omega))
    have oz17 := (Weak.int (k := .i64) (show (((↑l.length : Int) - 1 - (↑k : Int) - 1) : Int) = ((↑l.length : Int) - 1 - (↑(k + 1) : Int)) from (by omega)))
    exact VT.run (W := [.r [] [], .br true, .r [] [.n (nO oz1), .row (sO oz4)], .br false, .r [] [], .r [] [.row (sO oz9), .callr (rO oz10)], .code [.any (rg [(27, 2), (31, 14)]), .drop [39], .ren 40 900, .weak 46 (wO oz11), .weak 47 (i64 (↑0 : Int)), .blk 900 (Blk.slc 3 1 (List.map (row1 IntKind.i64) (revK l k ++ [(↑l.length : Int) - 1 - (↑k : Int)]))), .blk 901 (Blk.slc 4 1 (List.map rowB (setW (List.map (fun (v : Nat) => wt l k (↑v : Int)) (List.range (l.length + 1))) (takesL (l.getD ((↑l.length : Int) - 1 - (↑k : Int)).toNat default)) 0))), .sort] (Exit.exit 2) (zO oz15), .r [] [.n (nO oz16)]]) (G := [.any [29, 30, 45, 46, 47], .weak 5 (wO oz17), .blk 900 (Blk.slc 3 1 (List.map (row1 IntKind.i64) (revK l (k + 1)))), .blk 901 (Blk.slc 4 1 (List.map rowB (wL l (k + 1)))), .sort]) (by kernel_rfl) (.c oz0 <| .c oz1 <| .c oz2 <| .c oz3 <| .c oz4 <| .c hc0 <| .c (show ((List.map (row1 IntKind.i64) (revK l k)).length + 1) * 8 ≤ 140737488355328 by omega) <| .c (show (List.map (row1 IntKind.i64) (revK l k)).length + 1 ≤ 9223372036854775807 by omega) <| .c (show 0 ≤ (↑l.length : Int) - 1 - (↑k : Int) by omega) <| .c oz9 <| .c oz10 <| .c oz11 <| .c (Weak.int (k := .i64) (show ((0) : Int) = ((↑0 : Int)) from (by omega))) <| .c (show BlkW (Blk.slc 3 1 (List.map (row1 IntKind.i64) (revK l k) ++ [[i64 ((↑l.length : Int) - 1 - (↑k : Int))]])) (Blk.slc 3 1 (List.map (row1 IntKind.i64) (revK l k ++ [(↑l.length : Int) - 1 - (↑k : Int)]))) from (BlkW.rows (rows_to (row1 IntKind.i64) (r := List.map (row1 IntKind.i64) (revK l k) ++ [[i64 ((↑l.length : Int) - 1 - (↑k : Int))]]) (l := revK l k ++ [(↑l.length : Int) - 1 - (↑k : Int)]) (m := revK l k ++ [(↑l.length : Int) - 1 - (↑k : Int)]) (by first | (simp only [List.map_append, List.map_cons, List.map_nil, List.map_set, List.map_replicate, List.map_take, List.map_drop]; done) | rfl | (simp only [List.map_append, List.map_cons, List.map_nil, List.map_set, List.map_replicate, List.map_take, List.map_drop]; rfl)) rfl))) <| .c (show BlkW (Blk.slc 4 1 (List.map rowB (wL l k))) (Blk.slc 4 1 (List.map rowB (setW (List.map (fun (v : Nat) => wt l k (↑v : Int)) (List.range (l.length + 1))) (takesL (l.getD ((↑l.length : Int) - 1 - (↑k : Int)).toNat default)) 0))) from (BlkW.rows (rows_to (rowB) (r := List.map rowB (wL l k)) (l := wL l k) (m := setW (List.map (fun (v : Nat) => wt l k (↑v : Int)) (List.range (l.length + 1))) (takesL (l.getD ((↑l.length : Int) - 1 - (↑k : Int)).toNat default)) 0) rfl (show (wL l k) = (setW (List.map (fun (v : Nat) => wt l k (↑v : Int)) (List.range (l.length + 1))) (takesL (l.getD ((↑l.length : Int) - 1 - (↑k : Int)).toNat default)) 0) from (by rfl))))) <| .c oz15 <| .c oz16 <| .c oz17 <| .c (show BlkW (Blk.slc 3 1 (List.map (row1 IntKind.i64) (revK l k ++ [(↑l.length : Int) - 1 - (↑k : Int)]))) (Blk.slc 3 1 (List.map (row1 IntKind.i64) (revK l (k + 1)))) from (BlkW.rows (rows_to (row1 IntKind.i64) (r := List.map (row1 IntKind.i64) (revK l k ++ [(↑l.length : Int) - 1 - (↑k : Int)])) (l := revK l k ++ [(↑l.length : Int) - 1 - (↑k : Int)]) (m := revK l (k + 1)) rfl (show (revK l k ++ [(↑l.length : Int) - 1 - (↑k : Int)]) = (revK l (k + 1)) from (by (rw [q5 (qg (by assumption)), qh])))))) <| .c (show BlkW (Blk.slc 4 1 (List.map rowB (setW (List.map (fun (v : Nat) => wt l k (↑v : Int)) (List.range (l.length + 1))) (takesL (l.getD ((↑l.length : Int) - 1 - (↑k : Int)).toNat default)) (takesL (l.getD ((↑l.length : Int) - 1 - (↑k : Int)).toNat default)).length))) (Blk.slc 4 1 (List.map rowB (wL l (k + 1)))) from (BlkW.rows (rows_to (rowB) (r := List.map rowB (setW (List.map (fun (v : Nat) => wt l k (↑v : Int)) (List.range (l.length + 1))) (takesL (l.getD ((↑l.length : Int) - 1 - (↑k : Int)).toNat default)) (takesL (l.getD ((↑l.length : Int) - 1 - (↑k : Int)).toNat default)).length)) (l := setW (List.map (fun (v : Nat) => wt l k (↑v : Int)) (List.range (l.length + 1))) (takesL (l.getD ((↑l.length : Int) - 1 - (↑k : Int)).toNat default)) (takesL (l.getD ((↑l.length : Int) - 1 - (↑k : Int)).toNat default)).length) (m := wL l (k + 1)) rfl (show (setW (List.map (fun (v : Nat) => wt l k (↑v : Int)) (List.range (l.length + 1))) (takesL (l.getD ((↑l.length : Int) - 1 - (↑k : Int)).toNat default)) (takesL (l.getD ((↑l.length : Int) - 1 - (↑k : Int)).toNat default)).length) = (wL l (k + 1)) from (by (rw [qb]; exact q7 (by rw [q4]; exact qg (by assumption)))))))) <| .n)
set_option maxRecDepth 100000 in
set_option maxHeartbeats 2000000 in
theorem pused_o_e (l : List Nod) (hl : l.length ≤ 1000) (ho : orderedB l = true) : VT Try.prog (fnC Try.f23 [1, 0, 1, 1, 1, 1, 1, 0, 1, 0, 0]) (pused_o_I l (l.length)) (.exit 0) (pused_o_Z l) := by
  exact VT.run (W := [.r [] [], .br false]) (G := [.any [27, 28], .sort]) (by kernel_rfl) (.c (decide_eq_false (p := ((↑l.length : Int) - 1 - (↑l.length : Int) ≥ 0)) (by omega)) <| .n)
theorem pused_o (l : List Nod) (hl : l.length ≤ 1000) (ho : orderedB l = true) : VT Try.prog (fnC Try.f23 [1, 0, 1, 1, 1, 1, 1, 0, 1, 0]) (pused_o_I l 0) (.exit 0) (pused_o_Z l) :=
  VT.loop (fun k => pused_o_I l k) (l.length) (fun k hk => pused_o_s l hl ho k hk) (pused_o_e l hl ho) (by intro h; cases h)

set_option maxRecDepth 100000 in
set_option maxHeartbeats 2000000 in
theorem pused_y (l : List Nod) (hl : l.length ≤ 1000) (h0 : l.length ≠ 0) (ho : orderedB l = true) : VC Try.prog 23 ([.sl 19 (l.map nodC)]) (ints .i64 (usI (usedL l))) := by
  have q0 : (List.map nodC l).length = l.length := List.length_map _
  have q1 := revK_len l l.length
  have q2 := wL_len l 0
  have oz0 := (show ((↑(List.map nodC l).length : Int) == 0) = false by (refine decide_eq_false ?_; omega))
  have oz2 := @pord_v (l) hl
  have oz6 := (IntWalk.i64_in ((↑(List.map nodC l).length : Int) + 1) (by omega))
  have oz7 := (show (↑(List.map nodC l).length : Int) + 1 = (↑(wL l 0).length : Int) by omega)
  have oz15 := (IntWalk.i64_in ((↑(List.map nodC l).length : Int) - 1) (by omega))
  have oz16 := (Weak.int (k := .i64) (show (((↑(List.map nodC l).length : Int) - 1) : Int) = ((↑l.length : Int) - 1 - (↑0 : Int)) from (by omega)))
  have oz18 := @pused_o (l) hl ho
  have oz19 := @reverse_v (revK l l.length) (by omega)
  exact (VC.run (fn := Try.f23) (W := [.r [] [], .sc, .r [] [.br true, .br true, .callr (rO oz2), .br true, .br false], .br false, .r [] [.n (nO oz6), .nats (wL l 0).length (wL l 0).length], .r [] [.nat 0], .r [] [], .r [] [.n (nO oz15)], .code [.any (rg [(2, 1), (8, 19)]), .ren 19 901, .weak 5 (wO oz16), .nils 4 900 3 1, .blk 901 (Blk.slc 4 1 (List.map rowB (wL l 0))), .sort] (Exit.exit 0) (zO oz18), .r [] [.callm [(900, 100000)] [] (rM oz19) (oM oz19)], .r [] []]) (r := AV.sl 1 (List.map (row1 IntKind.i64) (revK l l.length).reverse)) Try.func23 (by kernel_rfl) (.c oz0 <| .c oz0 <| .c oz2 <| .c oz0 <| .c oz0 <| .c (show (!orderedB l) = false by (simp; omega)) <| .c oz6 <| .c oz7 <| .c oz7 <| .c (show (wL l 0).length ≤ (wL l 0).length by omega) <| .c (show 1 * (wL l 0).length ≤ 281474976710656 by omega) <| .c (show (wL l 0).length ≤ 9223372036854775807 by omega) <| .c (show 0 ≤ (↑(List.map nodC l).length : Int) by omega) <| .c (show (↑(List.map nodC l).length : Int) < (↑(List.replicate (wL l 0).length [bv false]).length : Int) by (simp; omega)) <| .c (show (↑(List.map nodC l).length : Int).toNat < (List.replicate (wL l 0).length [bv false]).length by (simp; omega)) <| .c oz15 <| .c oz16 <| .c (show BlkW (Blk.slc 4 1 ((List.replicate (wL l 0).length [bv false]).set (↑(List.map nodC l).length : Int).toNat [bv true])) (Blk.slc 4 1 (List.map rowB (wL l 0))) from (BlkW.rows (rows_to (rowB) (r := (List.replicate (wL l 0).length [bv false]).set (↑(List.map nodC l).length : Int).toNat [bv true]) (l := (List.replicate (wL l 0).length false).set (↑(List.map nodC l).length : Int).toNat true) (m := wL l 0) (by first | (simp only [List.map_append, List.map_cons, List.map_nil, List.map_set, List.map_replicate, List.map_take, List.map_drop]; done) | rfl | (simp only [List.map_append, List.map_cons, List.map_nil, List.map_set, List.map_replicate, List.map_take, List.map_drop]; rfl) | (simp only [List.map_append, List.map_cons, List.map_nil, List.map_set, List.map_replicate, List.map_take, List.map_drop, rowB, ints]; done)) (show ((List.replicate (wL l 0).length false).set (↑(List.map nodC l).length : Int).toNat true) = (wL l 0) from (by (rw [wL_len, List.length_map, Int.toNat_natCast, wL_0])))))) <| .c oz18 <| .c oz19 <| .n)).weak (WeakL.refl _) (Weak.rows (rows_to (row1 IntKind.i64) (r := List.map (row1 IntKind.i64) (revK l l.length).reverse) (l := (revK l l.length).reverse) (m := usI (usedL l)) rfl (show ((revK l l.length).reverse) = (usI (usedL l)) from (by (rw [← revK_all])))))

set_option maxRecDepth 100000 in
set_option maxHeartbeats 2000000 in
theorem pused_n (l : List Nod) (hl : l.length ≤ 1000) (h0 : l.length = 0 ∨ orderedB l = false) : VC Try.prog 23 ([.sl 19 (l.map nodC)]) (ints .i64 []) := by
  have q0 : (List.map nodC l).length = l.length := List.length_map _
  have oz0 := @pord_v (l) hl
  exact (VC.run (fn := Try.f23) (W := [.r [] [], .sc, .r [] [.op false, .op false, .callr (rO oz0), .op false, .sel 1], .br true, .r [] []]) (r := AV.lit (Value.slice none 0 0)) Try.func23 (by kernel_rfl) (.c oz0 <| .c (show ((↑(List.map nodC l).length : Int) == 0 || !orderedB l) = true by (rcases h0 with h0 | h0 <;> simp [h0])) <| .n)).weak (WeakL.refl _) (Weak.nil _)
end Go.Proofs.Ytgecmooedhnenaa

