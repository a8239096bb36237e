/- A node more makes a block cost more: the law. No condition. -/
import Derived.Test.YtdmomnaoegkpiaaCoL
namespace Go.Proofs.Ytdmomnaoegkpiaa
open Go.RowKit
set_option linter.unusedSimpArgs false
set_option linter.unusedVariables false
set_option linter.unnecessarySimpa false

abbrev moreL (l : List Nod) : List Nod := [] ++ l ++ [Nod.mk 9 ((List.map nodC l).length : Int) 0 0 0 0 0 0 0 [] [] 0 0 0 0 0 0 0 0]
theorem moreL_eq (l : List Nod) : moreL l = l ++ [flatN l.length] := by unfold moreL; rw [List.length_map, List.nil_append]
theorem flatN_ok {k : Nat} (h : k ≤ 1000) : (flatN k).Ok := by
  constructor <;> first | (constructor <;> (dsimp only; omega)) | (intro v hv; cases hv)
theorem more_ok {x : Blc} (ok : x.Ok) (h : x.n.length ≤ 1000) : (Blc.mk (moreL x.n) false x.w x.b x.nd).Ok := by
  refine ⟨?_, ok.w, ok.b, ok.nd⟩
  dsimp only
  rw [moreL_eq]
  intro d hd
  rcases List.mem_append.1 hd with hd | hd
  · exact ok.n d hd
  · rw [List.mem_singleton] at hd; subst hd; exact flatN_ok h
theorem more_ws {l : List Nod} (h : ∀ n ∈ l, n.w.length ≤ 100000 ∧ n.b.length ≤ 100000) : ∀ n ∈ moreL l, n.w.length ≤ 100000 ∧ n.b.length ≤ 100000 := by
  rw [moreL_eq]
  intro d hd
  rcases List.mem_append.1 hd with hd | hd
  · exact h d hd
  · rw [List.mem_singleton] at hd; subst hd; simp
theorem more_s {l : List Nod} {a : Shp} (h : SOK l a) (h7 : l.length ≤ 7) : SOK (moreL l) a := by rw [moreL_eq]; exact SOK_flat h h7
theorem more_c {x : Blc} {a : Shp} {cl : Int} (h : SOK x.n a) : blockC (Blc.mk (moreL x.n) false x.w x.b x.nd) a cl > blockC (Blc.mk x.n false x.w x.b x.nd) a cl := by
  rw [← blockC_n (x := Blc.mk (moreL x.n) false x.w x.b x.nd) rfl, ← blockC_n (x := Blc.mk x.n false x.w x.b x.nd) rfl]
  dsimp only
  rw [moreL_eq]; exact costL_more h
theorem plain_c {x : Blc} {a : Shp} {cl : Int} : blockC (Blc.mk x.n false x.w x.b x.nd) a cl ≤ blockC x a cl := by
  have q := exitC_bd x a cl
  rw [← blockC_n (x := Blc.mk x.n false x.w x.b x.nd) rfl]
  show _ ≤ costL x.n (shpsL x.n a) x.n.length + exitC x a cl
  dsimp only
  omega
set_option maxRecDepth 100000 in
set_option maxHeartbeats 2000000 in
theorem costMore_n (x : Blc) (a : Shp) (cl : Int) (ok : x.Ok) (oka : a.Ok) (hc : 0 ≤ cl ∧ cl ≤ 255) (few : blcS x = true) (h : ¬ SOK x.n a) : VC Try.prog 5 ([blc x, shp a, u8 cl]) (bv true) := by
  have q := blc_facts few
  obtain ⟨q1, q2, q3, q4, q5⟩ := q
  have q6 := shapesE_n h
  have oz0 := @few31_1 (x)
  rcases Bool.eq_false_or_eq_true (!blcS x || decide ((↑(List.map nodC x.n).length : Int) > 7)) with hc0 | hc0
  · have gc0 : blcS x = false ∨ (↑(List.map nodC x.n).length : Int) > 7 := by first | (simp only [Bool.or_eq_true, Bool.or_eq_false_iff, Bool.and_eq_true, Bool.and_eq_false_iff, Bool.not_eq_true', Bool.not_eq_false', decide_eq_true_eq, decide_eq_false_iff_not, beq_iff_eq, bne_iff_ne, ne_eq, beq_eq_false_iff_ne, bne_eq_false_iff_eq, eqNums, Bool.and_true] at hc0; first | exact hc0 | omega) | simpa using hc0 | (simp at hc0 ⊢; omega)
    have oz2 := @known31_v
    exact VC.run (fn := Try.f5) (W := [.r [] [], .r [] [.frz 0, .callr (rO oz0), .op false, .op false, .op false, .op false, .sel 1], .br true, .r [] [.callr (rO oz2)]]) Try.func5 (by kernel_rfl) (.c oz0 <| .c hc0 <| .c oz2 <| .n)
  · have gc0 : blcS x = true ∧ ¬(↑(List.map nodC x.n).length : Int) > 7 := by first | (simp only [Bool.or_eq_true, Bool.or_eq_false_iff, Bool.and_eq_true, Bool.and_eq_false_iff, Bool.not_eq_true', Bool.not_eq_false', decide_eq_true_eq, decide_eq_false_iff_not, beq_iff_eq, bne_iff_ne, ne_eq, beq_eq_false_iff_ne, bne_eq_false_iff_eq, eqNums, Bool.and_true] at hc0; first | exact hc0 | omega) | simpa using hc0 | (simp at hc0 ⊢; omega)
    have oz3 := @cblock_n (x) (a) (cl) ok oka q1 q3 h
    have oz5 := (show true = true by with_reducible rfl)
    have oz6 := @known31_v
    exact VC.run (fn := Try.f5) (W := [.r [] [], .r [] [.frz 0, .callr (rO oz0), .op false, .op false, .op false, .op false, .sel 1], .br false, .r [] [.n cl, .callr (rO oz3)], .r [] [], .br true, .r [] [.br true, .callr (rO oz6), .br true]]) Try.func5 (by kernel_rfl) (.c oz0 <| .c hc0 <| .c (IntWalk.i64_in cl (by omega)) <| .c oz3 <| .c (show ((shapesE x.n a).snd != 0) = true by (simp; omega)) <| .c oz5 <| .c oz6 <| .c oz5 <| .n)

set_option maxRecDepth 100000 in
set_option maxHeartbeats 2000000 in
theorem costMore_x (x : Blc) (a : Shp) (cl : Int) (few : blcS x = false ∨ 7 < x.n.length) : VC Try.prog 5 ([blc x, shp a, u8 cl]) (bv true) := by
  have oz0 := @few31_1 (x)
  have oz2 := @known31_v
  exact VC.run (fn := Try.f5) (W := [.r [] [], .r [] [.frz 0, .callr (rO oz0), .op false, .op false, .op false, .op false, .sel 1], .br true, .r [] [.callr (rO oz2)]]) Try.func5 (by kernel_rfl) (.c oz0 <| .c (show (!blcS x || decide ((↑(List.map nodC x.n).length : Int) > 7)) = true by (rcases few with few | few; (rw [few]; rfl); (simp; omega))) <| .c oz2 <| .n)

set_option maxRecDepth 100000 in
set_option maxHeartbeats 2000000 in
theorem costMore_y (x : Blc) (a : Shp) (cl : Int) (ok : x.Ok) (oka : a.Ok) (hc : 0 ≤ cl ∧ cl ≤ 255) (few : blcS x = true) (l7 : x.n.length ≤ 7) (h : SOK x.n a) : VC Try.prog 5 ([blc x, shp a, u8 cl]) (bv true) := by
  have q := blc_facts few
  obtain ⟨q1, q2, q3, q4, q5⟩ := q
  have g1 : (Blc.mk x.n false x.w x.b x.nd).Ok := ⟨ok.n, ok.w, ok.b, ok.nd⟩
  have g2 := more_ok ok (by omega)
  have g3 := more_ws q3
  have g4 := more_s h l7
  have g5 := more_c (cl := cl) h
  have g6 := @plain_c x a cl
  have g7 := blockC_bd (cl := cl) h.f (a := a)
  have oz0 := @few31_1 (x)
  have oz2 := (IntWalk.i64_in cl (by omega))
  have oz3 := @cblock_y (x) (a) (cl) ok q3 h
  have oz10 := @cblock_y (Blc.mk x.n false x.w x.b x.nd) (a) (cl) g1 q3 h
  have oz13 := @cblock_y (Blc.mk ([] ++ x.n ++ [Nod.mk 9 (↑(List.map nodC x.n).length : Int) 0 0 0 0 0 0 0 [] [] 0 0 0 0 0 0 0 0]) false x.w x.b x.nd) (a) (cl) g2 g3 g4
  have oz14 := (decide_eq_true (p := (blockC x a cl ≥ 1)) (by omega))
  have oz17 := (show true = true by with_reducible rfl)
  have oz24 := (decide_eq_true (p := (blockC (Blc.mk x.n false x.w x.b x.nd) a cl ≤ blockC x a cl)) (by omega))
  have oz28 := (decide_eq_true (p := (blockC (Blc.mk ([] ++ x.n ++ [Nod.mk 9 (↑(List.map nodC x.n).length : Int) 0 0 0 0 0 0 0 [] [] 0 0 0 0 0 0 0 0]) false x.w x.b x.nd) a cl > blockC (Blc.mk x.n false x.w x.b x.nd) a cl)) (by omega))
  have oz29 := @known31_v
  exact VC.run (fn := Try.f5) (W := [.r [] [], .r [] [.frz 0, .callr (rO oz0), .op false, .op false, .op false, .op false, .sel 1], .br false, .r [] [.n (nO oz2), .callr (rO oz3)], .r [] [], .br false, .r [] [], .r [] [], .r [] [], .r [] [], .r [] [], .r [] [.n (nO oz2), .callr (rO oz10)], .r [] [.n (nO oz2), .call (aO oz13) (rO oz13)], .r [] [.br true, .br true, .br true, .br true, .br true, .br true, .br true, .br true, .br true, .br true, .br true, .br true, .br true, .br true, .br true, .callr (rO oz29), .br true]]) Try.func5 (by kernel_rfl) (.c oz0 <| .c (show (!blcS x || decide ((↑(List.map nodC x.n).length : Int) > 7)) = false by (rw [few]; simp; omega)) <| .c oz2 <| .c oz3 <| .c (show false = false by with_reducible rfl) <| .c (show (0 + (List.map nodC x.n).length) * 168 ≤ 140737488355328 by (simp; omega)) <| .c (show 0 + (List.map nodC x.n).length ≤ 9223372036854775807 by (simp; omega)) <| .c (show (([] ++ List.map nodC x.n).length + 1) * 168 ≤ 140737488355328 by (simp; omega)) <| .c (show ([] ++ List.map nodC x.n).length + 1 ≤ 9223372036854775807 by (simp; omega)) <| .c oz2 <| .c oz10 <| .c oz2 <| .c (show WeakL [AV.agg [AV.sl 19 ([] ++ List.map nodC x.n ++ [[i64 9, i64 (↑(List.map nodC x.n).length : Int), i64 0, i64 0, i64 0, i64 0, i64 0, i8 0, i8 0, AV.lit (Value.slice none 0 0), AV.lit (Value.slice none 0 0), i32 0, i64 0, i8 0, i32 0, i64 0, i8 0, i8 0, i8 0]]), bv false, AV.sl 1 (List.map (row1 IntKind.i8) x.w), AV.sl 1 (List.map (row1 IntKind.i32) x.b), i32 x.nd], AV.agg [i64 a.h, i64 a.x, i64 a.c], i64 cl] [AV.agg [AV.sl 19 (List.map nodC (Blc.mk ([] ++ x.n ++ [Nod.mk 9 (↑(List.map nodC x.n).length : Int) 0 0 0 0 0 0 0 [] [] 0 0 0 0 0 0 0 0]) false x.w x.b x.nd).n), bv (Blc.mk ([] ++ x.n ++ [Nod.mk 9 (↑(List.map nodC x.n).length : Int) 0 0 0 0 0 0 0 [] [] 0 0 0 0 0 0 0 0]) false x.w x.b x.nd).ex, AV.sl 1 (List.map (row1 IntKind.i8) (Blc.mk ([] ++ x.n ++ [Nod.mk 9 (↑(List.map nodC x.n).length : Int) 0 0 0 0 0 0 0 [] [] 0 0 0 0 0 0 0 0]) false x.w x.b x.nd).w), AV.sl 1 (List.map (row1 IntKind.i32) (Blc.mk ([] ++ x.n ++ [Nod.mk 9 (↑(List.map nodC x.n).length : Int) 0 0 0 0 0 0 0 [] [] 0 0 0 0 0 0 0 0]) false x.w x.b x.nd).b), i32 (Blc.mk ([] ++ x.n ++ [Nod.mk 9 (↑(List.map nodC x.n).length : Int) 0 0 0 0 0 0 0 [] [] 0 0 0 0 0 0 0 0]) false x.w x.b x.nd).nd], AV.agg [i64 a.h, i64 a.x, i64 a.c], i64 cl] from (.cons (Weak.agg (.cons (Weak.rowsW ((show RowsW ([] ++ List.map nodC x.n ++ [[i64 9, i64 (↑(List.map nodC x.n).length : Int), i64 0, i64 0, i64 0, i64 0, i64 0, i8 0, i8 0, AV.lit (Value.slice none 0 0), AV.lit (Value.slice none 0 0), i32 0, i64 0, i8 0, i32 0, i64 0, i8 0, i8 0, i8 0]]) ([] ++ List.map nodC x.n ++ [[i64 9, i64 (↑(List.map nodC x.n).length : Int), i64 0, i64 0, i64 0, i64 0, i64 0, i8 0, i8 0, AV.sl 1 [], AV.sl 1 [], i32 0, i64 0, i8 0, i32 0, i64 0, i8 0, i8 0, i8 0]]) from (RowsW.app (RowsW.refl _) (RowsW.cons (CW.cons (PW.refl _) (CW.cons (PW.refl _) (CW.cons (PW.refl _) (CW.cons (PW.refl _) (CW.cons (PW.refl _) (CW.cons (PW.refl _) (CW.cons (PW.refl _) (CW.cons (PW.refl _) (CW.cons (PW.refl _) (CW.cons (PW.nil _) (CW.cons (PW.nil _) (CW.cons (PW.refl _) (CW.cons (PW.refl _) (CW.cons (PW.refl _) (CW.cons (PW.refl _) (CW.cons (PW.refl _) (CW.cons (PW.refl _) (CW.cons (PW.refl _) (CW.cons (PW.refl _) CW.nil))))))))))))))))))) (RowsW.refl _)))).to (rows_to (nodC) (r := [] ++ List.map nodC x.n ++ [[i64 9, i64 (↑(List.map nodC x.n).length : Int), i64 0, i64 0, i64 0, i64 0, i64 0, i8 0, i8 0, AV.sl 1 [], AV.sl 1 [], i32 0, i64 0, i8 0, i32 0, i64 0, i8 0, i8 0, i8 0]]) (l := [] ++ x.n ++ [Nod.mk 9 (↑(List.map nodC x.n).length : Int) 0 0 0 0 0 0 0 [] [] 0 0 0 0 0 0 0 0]) (m := [] ++ x.n ++ [Nod.mk 9 (↑(List.map nodC x.n).length : Int) 0 0 0 0 0 0 0 [] [] 0 0 0 0 0 0 0 0]) (by first | (simp only [List.map_append, List.map_cons, List.map_nil, List.map_set, List.map_replicate, List.map_take, List.map_drop]; done) | rfl | (simp only [List.map_append, List.map_cons, List.map_nil, List.map_set, List.map_replicate, List.map_take, List.map_drop]; rfl)) rfl))) (.cons (.refl _) (.cons (.refl _) (.cons (.refl _) (.cons (.refl _) .nil)))))) (.cons (.refl _) (.cons (.refl _) .nil)))) <| .c oz13 <| .c oz14 <| .c oz14 <| .c oz14 <| .c oz17 <| .c oz17 <| .c oz17 <| .c oz17 <| .c oz17 <| .c oz17 <| .c oz17 <| .c oz24 <| .c oz24 <| .c oz24 <| .c oz24 <| .c oz28 <| .c oz29 <| .c oz28 <| .n)
theorem costMore_v (x : Blc) (a : Shp) (cl : Int) (ok : x.Ok) (oka : a.Ok) (hc : 0 ≤ cl ∧ cl ≤ 255) : VC Try.prog 5 [blc x, shp a, u8 cl] (bv true) := by
  cases few : blcS x with
  | false => exact costMore_x x a cl (.inl few)
  | true =>
    by_cases l7 : x.n.length ≤ 7
    · by_cases h : SOK x.n a
      · exact costMore_y x a cl ok oka hc few l7 h
      · exact costMore_n x a cl ok oka hc few h
    · exact costMore_x x a cl (.inr (by omega))
end Go.Proofs.Ytdmomnaoegkpiaa

