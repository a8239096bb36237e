/- What blocks cost: the laws. No condition. -/
import Derived.Test.YtdmomnaoegkpiaaCo
namespace Go.Proofs.Ytdmomnaoegkpiaa
open Go.RowKit
set_option linter.unusedSimpArgs false
set_option linter.unusedVariables false
set_option linter.unnecessarySimpa false

theorem growL_pre {α : Type} {f : Nod → List α → α × Int} {l m : List Nod} {x : α} : ∀ {k : Nat}, k ≤ l.length → growL f (l ++ m) x k = growL f l x k
  | 0, _ => rfl
  | k + 1, h => by
    rw [growL, growL, growL_pre (show k ≤ l.length by omega)]
    have : (l ++ m).getD k default = l.getD k default := by
      rw [List.getD_eq_getElem?_getD, List.getD_eq_getElem?_getD, List.getElem?_append_left (by omega)]
    rw [this]
abbrev flatN (k : Int) : Nod := ⟨9, k, 0, 0, 0, 0, 0, 0, 0, [], [], 0, 0, 0, 0, 0, 0, 0, 0⟩
theorem flat_next {l : List Nod} {a : Shp} (h : SOK l a) : nextE (flatN l.length) (shpsL l a) = (⟨1, 1, elems (lastS l a).h (lastS l a).x (lastS l a).c⟩, 0) := by
  have hlen := shpsL_len l a
  have hc : checkE (flatN l.length) = 0 := by
    unfold checkE; rfl
  have ht : thereB (flatN l.length) (shpsL l a).length = true := there_iff.2 (by
    have : secN (flatN l.length) = l.length := rfl
    rw [this, hlen]; dsimp only; omega)
  unfold nextE
  rw [if_neg (by rw [hc]; simp), if_pos ht]
  have e1 : (shpsL l a).getD (flatN l.length).na.toNat default = lastS l a := by
    show (shpsL l a).getD ((l.length : Int).toNat) default = _
    rw [Int.toNat_natCast]; rfl
  have e2 : (shpsL l a).getD (secN (flatN l.length)).toNat default = lastS l a := e1
  rw [e1, e2]
  have hrt : (lastS l a).Rt := by
    have q := h.k (l.length - 1) (by have := h.e; omega)
    have hl : lastS l a = (nextE (l.getD (l.length - 1) default) (growL nextE l a (l.length - 1))).1 := by
      have he := h.e
      obtain ⟨m, hm⟩ : ∃ m, l.length = m + 1 := ⟨l.length - 1, by omega⟩
      unfold lastS shpsL
      rw [hm, growL, show m + 1 - 1 = m from rfl, List.getD_eq_getElem?_getD, List.getElem?_append_right (by rw [growL_len]; omega), growL_len]
      simp
    rw [hl]
    rcases nextE_told (l.getD (l.length - 1) default) (growL nextE l a (l.length - 1)) with g | g
    · exact g.2
    · exact absurd q g.1
  unfold Shp.Rt at hrt
  unfold shapeE
  rw [if_neg (by dsimp only; omega), if_neg (by dsimp only; omega), if_neg (by dsimp only; omega), if_neg (by dsimp only; omega), if_neg (by dsimp only; omega), if_neg (by dsimp only; omega), if_pos rfl]
theorem SOK_flat {l : List Nod} {a : Shp} (h : SOK l a) (h7 : l.length ≤ 7) : SOK (l ++ [flatN l.length]) a := by
  refine ⟨h.i, by simp, by simp; omega, fun k hk => ?_⟩
  rw [List.length_append, List.length_singleton] at hk
  by_cases e : k < l.length
  · have := h.k k e
    unfold errL at this ⊢
    rw [growL_pre (by omega)]
    have e1 : (l ++ [flatN l.length]).getD k default = l.getD k default := by
      rw [List.getD_eq_getElem?_getD, List.getD_eq_getElem?_getD, List.getElem?_append_left e]
    rw [e1]; exact this
  · have e : k = l.length := by omega
    subst e
    unfold errL
    rw [growL_pre (Nat.le_refl _)]
    have e1 : (l ++ [flatN l.length]).getD l.length default = flatN l.length := by
      rw [List.getD_eq_getElem?_getD, List.getElem?_append_right (by omega)]; simp
    rw [e1, flat_next h]
theorem shps_flat {l : List Nod} {a : Shp} (h : SOK l a) : shpsL (l ++ [flatN l.length]) a = shpsL l a ++ [⟨1, 1, elems (lastS l a).h (lastS l a).x (lastS l a).c⟩] := by
  unfold shpsL
  rw [List.length_append, List.length_singleton, growL, growL_pre (Nat.le_refl _)]
  have e1 : (l ++ [flatN l.length]).getD l.length default = flatN l.length := by
    rw [List.getD_eq_getElem?_getD, List.getElem?_append_right (by omega)]; simp
  rw [e1, flat_next h]
theorem getD_app {α : Type} [Inhabited α] {l m : List α} {i : Nat} (h : i < l.length) : (l ++ m).getD i default = l.getD i default := by
  rw [List.getD_eq_getElem?_getD, List.getD_eq_getElem?_getD, List.getElem?_append_left h]
theorem costL_flat {l : List Nod} {a : Shp} (h : SOK l a) : ∀ k, k ≤ l.length → costL (l ++ [flatN l.length]) (shpsL (l ++ [flatN l.length]) a) k = costL l (shpsL l a) k
  | 0, _ => rfl
  | k + 1, hk => by
    obtain ⟨c4, _, _⟩ := shps_at h (show k < l.length by omega)
    rw [costL, costL, costL_flat h k (by omega), getD_app (show k < l.length by omega), shps_flat h, getD_app c4.2.1, getD_app c4.2.2.2.1]
theorem lastS_rt {l : List Nod} {a : Shp} (h : SOK l a) : 0 < elems (lastS l a).h (lastS l a).x (lastS l a).c := by
  have q := h.k (l.length - 1) (by have := h.e; omega)
  have hl : lastS l a = (nextE (l.getD (l.length - 1) default) (growL nextE l a (l.length - 1))).1 := by
    have he := h.e
    obtain ⟨m, hm⟩ : ∃ m, l.length = m + 1 := ⟨l.length - 1, by omega⟩
    unfold lastS shpsL
    rw [hm, growL, show m + 1 - 1 = m from rfl, List.getD_eq_getElem?_getD, List.getElem?_append_right (by rw [growL_len]; omega), growL_len]
    simp
  rw [hl]
  rcases nextE_told (l.getD (l.length - 1) default) (growL nextE l a (l.length - 1)) with g | g
  · exact g.2
  · exact absurd q g.1
theorem costL_more {l : List Nod} {a : Shp} (h : SOK l a) : costL (l ++ [flatN l.length]) (shpsL (l ++ [flatN l.length]) a) (l ++ [flatN l.length]).length > costL l (shpsL l a) l.length := by
  rw [List.length_append, List.length_singleton, costL, costL_flat h l.length (Nat.le_refl _)]
  have e1 : (l ++ [flatN l.length]).getD l.length default = flatN l.length := by
    rw [List.getD_eq_getElem?_getD, List.getElem?_append_right (by omega)]; simp
  have hl := shpsL_len l a
  have e2 : (shpsL (l ++ [flatN l.length]) a).getD (flatN l.length).na.toNat default = lastS l a := by
    rw [shps_flat h, show (flatN l.length).na.toNat = l.length from Int.toNat_natCast _, getD_app (by omega)]; rfl
  have e3 : (shpsL (l ++ [flatN l.length]) a).getD (secN (flatN l.length)).toNat default = lastS l a := e2
  rw [e1, e2, e3]
  have hr := lastS_rt h
  have hb := elems_in (lastS l a).h (lastS l a).x (lastS l a).c
  have hs : shapeE (flatN l.length) (lastS l a) (lastS l a) = (⟨1, 1, elems (lastS l a).h (lastS l a).x (lastS l a).c⟩, 0) := by
    unfold shapeE
    rw [if_neg (by dsimp only; omega), if_neg (by dsimp only; omega), if_neg (by dsimp only; omega), if_neg (by dsimp only; omega), if_neg (by dsimp only; omega), if_neg (by dsimp only; omega), if_pos rfl]
  have hf := flat_rt hr hb.2
  unfold costE
  rw [hs, if_neg (by simp), if_neg (by dsimp only; omega), if_neg (by dsimp only; omega), if_neg (by dsimp only; omega)]
  dsimp only
  omega
theorem flat0_ok : (flatN 0).Ok := by constructor <;> first | (constructor <;> (dsimp only; decide)) | (intro v hv; cases hv)
theorem cblock_7 : VC Try.prog 28 [.agg [.sl 19 ([flatN 0].map nodC), bv false, .sl 1 [], .sl 1 [], i32 0], .agg [i64 1, i64 2, i64 3], i64 2] (.tup [i64 7, i64 0]) :=
  VC.to (cblock_y ⟨[flatN 0], false, [], [], 0⟩ ⟨1, 2, 3⟩ 2 ⟨fun d hd => by
    have : d = flatN 0 := by simpa using hd
    subst this; exact flat0_ok, by simp, by simp, by dsimp only; exact ⟨by decide, by decide⟩⟩ (fun n hn => by
    have : n = flatN 0 := by simpa using hn
    subst this; simp) ⟨by show 0 < elems 1 2 3; decide, by simp, by simp, fun k hk => by
    have : k = 0 := by simpa using hk
    subst this; decide⟩) (by kernel_rfl)
set_option maxRecDepth 100000 in
set_option maxHeartbeats 2000000 in
theorem known31_v   : VC Try.prog 27 ([]) (bv true) := by
  have oz1 := @cblock_7
  have oz2 := (show true = true by with_reducible rfl)
  exact VC.run (fn := Try.f27) (W := [.r [] [], .r [] [.call (aO oz1) (rO oz1)], .r [] [.br true, .br true, .br true]]) Try.func27 (by kernel_rfl) (.c (show WeakL [AV.agg [AV.sl 19 [[i64 9, i64 0, i64 0, i64 0, i64 0, i64 0, i64 0, i8 0, i8 0, AV.lit (Value.slice none 0 0), AV.lit (Value.slice none 0 0), i32 0, i64 0, i8 0, i32 0, i64 0, i8 0, i8 0, i8 0]], bv false, AV.lit (Value.slice none 0 0), AV.lit (Value.slice none 0 0), i32 0], AV.agg [i64 1, i64 2, i64 3], i64 2] [AV.agg [AV.sl 19 [[i64 (flatN 0).kd, i64 (flatN 0).na, i64 (flatN 0).nb, i64 (flatN 0).nk, i64 (flatN 0).ns, i64 (flatN 0).np, i64 (flatN 0).no, i8 (flatN 0).za, i8 (flatN 0).zb, AV.sl 1 [], AV.sl 1 [], i32 (flatN 0).qm, i64 (flatN 0).qs, i8 (flatN 0).qz, i32 (flatN 0).rm, i64 (flatN 0).rs, i8 (flatN 0).rz, i8 (flatN 0).lo, i8 (flatN 0).hi]], bv false, AV.sl 1 [], AV.sl 1 [], i32 0], AV.agg [i64 1, i64 2, i64 3], i64 2] from (.cons (Weak.agg (.cons (Weak.rowsW (show RowsW ([[i64 9, i64 0, i64 0, i64 0, i64 0, i64 0, i64 0, i8 0, i8 0, AV.lit (Value.slice none 0 0), AV.lit (Value.slice none 0 0), i32 0, i64 0, i8 0, i32 0, i64 0, i8 0, i8 0, i8 0]]) ([[i64 (flatN 0).kd, i64 (flatN 0).na, i64 (flatN 0).nb, i64 (flatN 0).nk, i64 (flatN 0).ns, i64 (flatN 0).np, i64 (flatN 0).no, i8 (flatN 0).za, i8 (flatN 0).zb, AV.sl 1 [], AV.sl 1 [], i32 (flatN 0).qm, i64 (flatN 0).qs, i8 (flatN 0).qz, i32 (flatN 0).rm, i64 (flatN 0).rs, i8 (flatN 0).rz, i8 (flatN 0).lo, i8 (flatN 0).hi]]) from (RowsW.cons (CW.cons (PW.refl _) (CW.cons (PW.refl _) (CW.cons (PW.refl _) (CW.cons (PW.refl _) (CW.cons (PW.refl _) (CW.cons (PW.refl _) (CW.cons (PW.refl _) (CW.cons (PW.refl _) (CW.cons (PW.refl _) (CW.cons (PW.nil _) (CW.cons (PW.nil _) (CW.cons (PW.refl _) (CW.cons (PW.refl _) (CW.cons (PW.refl _) (CW.cons (PW.refl _) (CW.cons (PW.refl _) (CW.cons (PW.refl _) (CW.cons (PW.refl _) (CW.cons (PW.refl _) CW.nil))))))))))))))))))) (RowsW.refl _)))) (.cons (.refl _) (.cons (Weak.nil _) (.cons (Weak.nil _) (.cons (.refl _) .nil)))))) (.cons (.refl _) (.cons (.refl _) .nil)))) <| .c oz1 <| .c oz2 <| .c oz2 <| .c oz2 <| .n)

set_option maxRecDepth 100000 in
set_option maxHeartbeats 2000000 in
theorem costBlocks_y (x : Blc) (a : Shp) (cl : Int) (n : Nod) (ok : x.Ok) (oka : a.Ok) (hc : In64 cl) (okn : n.Ok) (few : blcS x = true) (h : SOK x.n a) : VC Try.prog 6 ([blc x, shp a, i64 cl, nod n]) (bv true) := by
  have q := blc_facts few
  obtain ⟨q1, q2, q3, q4, q5⟩ := q
  have oz0 := @few31_1 (x)
  rcases Bool.eq_false_or_eq_true (!blcS x || decide ((↑(List.map (row1 IntKind.i8) n.w).length : Int) > 2000) || decide ((↑(List.map (row1 IntKind.i32) n.b).length : Int) > 200)) with hc0 | hc0
  · have gc0 : (blcS x = false ∨ (↑(List.map (row1 IntKind.i8) n.w).length : Int) > 2000) ∨ (↑(List.map (row1 IntKind.i32) n.b).length : Int) > 200 := by first | (simp only [Bool.or_eq_true, Bool.or_eq_false_iff, Bool.and_eq_true, Bool.and_eq_false_iff, Bool.not_eq_true', Bool.not_eq_false', decide_eq_true_eq, decide_eq_false_iff_not, beq_iff_eq, bne_iff_ne, ne_eq, beq_eq_false_iff_ne, bne_eq_false_iff_eq, eqNums, Bool.and_true] at hc0; first | exact hc0 | omega) | simpa using hc0 | (simp at hc0 ⊢; omega)
    have oz2 := @known31_v
    exact VC.run (fn := Try.f6) (W := [.r [] [], .r [] [.frz 0, .callr (rO oz0), .op false, .op false, .op false, .op false, .sel 1, .op false, .op false, .op false, .op false, .sel 1], .br true, .r [] [.callr (rO oz2)]]) Try.func6 (by kernel_rfl) (.c oz0 <| .c hc0 <| .c oz2 <| .n)
  · have gc0 : (blcS x = true ∧ ¬(↑(List.map (row1 IntKind.i8) n.w).length : Int) > 2000) ∧ ¬(↑(List.map (row1 IntKind.i32) n.b).length : Int) > 200 := by first | (simp only [Bool.or_eq_true, Bool.or_eq_false_iff, Bool.and_eq_true, Bool.and_eq_false_iff, Bool.not_eq_true', Bool.not_eq_false', decide_eq_true_eq, decide_eq_false_iff_not, beq_iff_eq, bne_iff_ne, ne_eq, beq_eq_false_iff_ne, bne_eq_false_iff_eq, eqNums, Bool.and_true] at hc0; first | exact hc0 | omega) | simpa using hc0 | (simp at hc0 ⊢; omega)
    have oz2 := @cblock_y (x) (a) (cl) ok q3 h
    have oz3 := @cout_y (x) (a) ok q3 h
    have oz4 := @rcblock_y (x) (a) (cl) ok q3 h
    have oz5 := (show (blockC x a cl == blockC x a cl) = true by (refine decide_eq_true ?_; omega))
    have oz9 := (show true = true by with_reducible rfl)
    have oz14 := @costNode_v (n) (a) (a) okn oka oka
    have oz15 := @refCostNode_v (n) (a) (a) okn oka oka
    have oz16 := @known31_v
    exact (VC.run (fn := Try.f6) (W := [.r [] [], .r [] [.frz 0, .callr (rO oz0), .op false, .op false, .op false, .op false, .sel 1, .op false, .op false, .op false, .op false, .sel 1], .br false, .r [] [.callr (rO oz2)], .r [] [.callr (rO oz3)], .r [] [.callr (rO oz4)], .r [] [.br true, .br true, .br true, .br true, .br true, .br true, .br true, .v (Value.bool (eqNums [(IntKind.i64, (lastS x.n a).h, (lastS x.n a).h), (IntKind.i64, (lastS x.n a).x, (lastS x.n a).x), (IntKind.i64, (lastS x.n a).c, (lastS x.n a).c)])), .br true, .op false, .op false, .op false, .sel 1, .op false, .op false, .op false, .op false, .callr (rO oz14), .op false, .op false, .op false, .op false, .callr (rO oz15), .op false, .sel 2, .op false, .callr (rO oz16), .sel 1]]) (r := bv ((eqNums [(IntKind.i64, (lastS x.n a).h, (lastS x.n a).h), (IntKind.i64, (lastS x.n a).x, (lastS x.n a).x), (IntKind.i64, (lastS x.n a).c, (lastS x.n a).c)] || false) && costE n a a == costE n a a || false)) Try.func6 (by kernel_rfl) (.c oz0 <| .c hc0 <| .c oz2 <| .c oz3 <| .c oz4 <| .c oz5 <| .c oz5 <| .c oz5 <| .c oz5 <| .c oz9 <| .c oz9 <| .c oz9 <| .c (show BinTo Try.prog BinOp.eql 32 (Operand.tmp 66) (Operand.tmp 67) (Value.agg #[Value.int IntKind.i64 (lastS x.n a).h, Value.int IntKind.i64 (lastS x.n a).x, Value.int IntKind.i64 (lastS x.n a).c]) (Value.agg #[Value.int IntKind.i64 (lastS x.n a).h, Value.int IntKind.i64 (lastS x.n a).x, Value.int IntKind.i64 (lastS x.n a).c]) (Value.bool (eqNums [(IntKind.i64, (lastS x.n a).h, (lastS x.n a).h), (IntKind.i64, (lastS x.n a).x, (lastS x.n a).x), (IntKind.i64, (lastS x.n a).c, (lastS x.n a).c)])) from ((bin_nums (l := [(IntKind.i64, (lastS x.n a).h, (lastS x.n a).h), (IntKind.i64, (lastS x.n a).x, (lastS x.n a).x), (IntKind.i64, (lastS x.n a).c, (lastS x.n a).c)]) (by kernel_rfl) (by kernel_rfl) (by kernel_rfl) (by kernel_rfl) _ _).1)) <| .c oz9 <| .c oz14 <| .c oz15 <| .c oz16 <| .n)).weak (WeakL.refl _) (Weak.bool (show (((eqNums [(IntKind.i64, (lastS x.n a).h, (lastS x.n a).h), (IntKind.i64, (lastS x.n a).x, (lastS x.n a).x), (IntKind.i64, (lastS x.n a).c, (lastS x.n a).c)] || false) && costE n a a == costE n a a || false) : Bool) = (true) from (by (simp [eqNums]; done))))

set_option maxRecDepth 100000 in
set_option maxHeartbeats 2000000 in
theorem costBlocks_n (x : Blc) (a : Shp) (cl : Int) (n : Nod) (ok : x.Ok) (oka : a.Ok) (hc : In64 cl) (okn : n.Ok) (few : blcS x = true) (h : ¬ SOK x.n a) : VC Try.prog 6 ([blc x, shp a, i64 cl, nod n]) (bv true) := by
  have q := blc_facts few
  obtain ⟨q1, q2, q3, q4, q5⟩ := q
  have oz0 := @few31_1 (x)
  rcases Bool.eq_false_or_eq_true (!blcS x || decide ((↑(List.map (row1 IntKind.i8) n.w).length : Int) > 2000) || decide ((↑(List.map (row1 IntKind.i32) n.b).length : Int) > 200)) with hc0 | hc0
  · have gc0 : (blcS x = false ∨ (↑(List.map (row1 IntKind.i8) n.w).length : Int) > 2000) ∨ (↑(List.map (row1 IntKind.i32) n.b).length : Int) > 200 := by first | (simp only [Bool.or_eq_true, Bool.or_eq_false_iff, Bool.and_eq_true, Bool.and_eq_false_iff, Bool.not_eq_true', Bool.not_eq_false', decide_eq_true_eq, decide_eq_false_iff_not, beq_iff_eq, bne_iff_ne, ne_eq, beq_eq_false_iff_ne, bne_eq_false_iff_eq, eqNums, Bool.and_true] at hc0; first | exact hc0 | omega) | simpa using hc0 | (simp at hc0 ⊢; omega)
    have oz2 := @known31_v
    exact VC.run (fn := Try.f6) (W := [.r [] [], .r [] [.frz 0, .callr (rO oz0), .op false, .op false, .op false, .op false, .sel 1, .op false, .op false, .op false, .op false, .sel 1], .br true, .r [] [.callr (rO oz2)]]) Try.func6 (by kernel_rfl) (.c oz0 <| .c hc0 <| .c oz2 <| .n)
  · have gc0 : (blcS x = true ∧ ¬(↑(List.map (row1 IntKind.i8) n.w).length : Int) > 2000) ∧ ¬(↑(List.map (row1 IntKind.i32) n.b).length : Int) > 200 := by first | (simp only [Bool.or_eq_true, Bool.or_eq_false_iff, Bool.and_eq_true, Bool.and_eq_false_iff, Bool.not_eq_true', Bool.not_eq_false', decide_eq_true_eq, decide_eq_false_iff_not, beq_iff_eq, bne_iff_ne, ne_eq, beq_eq_false_iff_ne, bne_eq_false_iff_eq, eqNums, Bool.and_true] at hc0; first | exact hc0 | omega) | simpa using hc0 | (simp at hc0 ⊢; omega)
    have oz2 := @cblock_n (x) (a) (cl) ok oka q1 q3 h
    have oz3 := @cout_n (x) (a) ok oka q1 q3 h
    have oz4 := @rcblock_n (x) (a) (cl) ok oka q1 q3 h
    have oz5 := (show true = true by with_reducible rfl)
    have oz9 := (show ((shapesE x.n a).snd == (shapesE x.n a).snd) = true by (refine decide_eq_true ?_; omega))
    have oz22 := @costNode_v (n) (a) (a) okn oka oka
    have oz27 := @refCostNode_v (n) (a) (a) okn oka oka
    have oz30 := (show (costE n a a == costE n a a) = true by (refine decide_eq_true ?_; omega))
    have oz31 := @known31_v
    exact VC.run (fn := Try.f6) (W := [.r [] [], .r [] [.frz 0, .callr (rO oz0), .op false, .op false, .op false, .op false, .sel 1, .op false, .op false, .op false, .op false, .sel 1], .br false, .r [] [.callr (rO oz2)], .r [] [.callr (rO oz3)], .r [] [.callr (rO oz4)], .r [] [.br true, .br true, .br true, .br true, .br true, .br true, .br true, .v (Value.bool (eqNums [(IntKind.i64, zsh.h, zsh.h), (IntKind.i64, zsh.x, zsh.x), (IntKind.i64, zsh.c, zsh.c)])), .br true, .br true, .br true, .br true, .br true, .br true, .br true, .br true, .br true, .callr (rO oz22), .br true, .br true, .br true, .br true, .callr (rO oz27), .br true, .br true, .br true, .callr (rO oz31), .br true]]) Try.func6 (by kernel_rfl) (.c oz0 <| .c hc0 <| .c oz2 <| .c oz3 <| .c oz4 <| .c oz5 <| .c oz5 <| .c oz5 <| .c oz5 <| .c oz9 <| .c oz9 <| .c oz9 <| .c (show BinTo Try.prog BinOp.eql (32 : Nat) (Operand.tmp (66 : Nat)) (Operand.tmp (67 : Nat)) (Value.agg #[Value.int IntKind.i64 zsh.h, Value.int IntKind.i64 zsh.x, Value.int IntKind.i64 zsh.c]) (Value.agg #[Value.int IntKind.i64 zsh.h, Value.int IntKind.i64 zsh.x, Value.int IntKind.i64 zsh.c]) (Value.bool (eqNums [(IntKind.i64, zsh.h, zsh.h), (IntKind.i64, zsh.x, zsh.x), (IntKind.i64, zsh.c, zsh.c)])) from ((bin_nums (l := [(IntKind.i64, zsh.h, zsh.h), (IntKind.i64, zsh.x, zsh.x), (IntKind.i64, zsh.c, zsh.c)]) (by kernel_rfl) (by kernel_rfl) (by kernel_rfl) (by kernel_rfl) _ _).1)) <| .c oz9 <| .c oz5 <| .c oz5 <| .c oz5 <| .c oz5 <| .c oz9 <| .c oz9 <| .c oz9 <| .c oz9 <| .c oz22 <| .c oz9 <| .c oz9 <| .c oz9 <| .c oz9 <| .c oz27 <| .c oz9 <| .c oz9 <| .c oz30 <| .c oz31 <| .c oz30 <| .n)

set_option maxRecDepth 100000 in
set_option maxHeartbeats 2000000 in
theorem costBlocks_x (x : Blc) (a : Shp) (cl : Int) (n : Nod) (few : blcS x = false) : VC Try.prog 6 ([blc x, shp a, i64 cl, nod n]) (bv true) := by
  have oz0 := @few31_1 (x)
  have oz2 := @known31_v
  exact VC.run (fn := Try.f6) (W := [.r [] [], .r [] [.frz 0, .callr (rO oz0), .op false, .op false, .op false, .op false, .sel 1, .op false, .op false, .op false, .op false, .sel 1], .br true, .r [] [.callr (rO oz2)]]) Try.func6 (by kernel_rfl) (.c oz0 <| .c (show (!blcS x || decide ((↑(List.map (row1 IntKind.i8) n.w).length : Int) > 2000) || decide ((↑(List.map (row1 IntKind.i32) n.b).length : Int) > 200)) = true by (rw [few]; rfl)) <| .c oz2 <| .n)
theorem costBlocks_v (x : Blc) (a : Shp) (cl : Int) (n : Nod) (ok : x.Ok) (oka : a.Ok) (hc : In64 cl) (okn : n.Ok) : VC Try.prog 6 [blc x, shp a, i64 cl, nod n] (bv true) := by
  cases few : blcS x with
  | false => exact costBlocks_x x a cl n few
  | true =>
    by_cases h : SOK x.n a
    · exact costBlocks_y x a cl n ok oka hc okn few h
    · exact costBlocks_n x a cl n ok oka hc okn few h
end Go.Proofs.Ytdmomnaoegkpiaa

