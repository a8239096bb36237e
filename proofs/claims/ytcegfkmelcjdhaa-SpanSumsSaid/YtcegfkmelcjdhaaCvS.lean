/- A window makes of a tensor the sums of the document: the law. No condition. -/
import Derived.Test.YtcegfkmelcjdhaaCvM
namespace Go.Proofs.Ytcegfkmelcjdhaa
open Go.RowKit
set_option linter.unusedSimpArgs false
set_option linter.unusedVariables false
set_option linter.unnecessarySimpa false

def in64B (n : Int) : Bool := decide (-9223372036854775808 ≤ n) && decide (n ≤ 9223372036854775807)
def in32B (n : Int) : Bool := decide (-2147483648 ≤ n) && decide (n ≤ 2147483647)
def in8B (n : Int) : Bool := decide (-128 ≤ n) && decide (n ≤ 127)
theorem in64B_ok {n : Int} (h : in64B n = true) : In64 n := by
  simp only [in64B, Bool.and_eq_true, decide_eq_true_eq] at h; exact h
theorem in32B_ok {n : Int} (h : in32B n = true) : In32 n := by
  simp only [in32B, Bool.and_eq_true, decide_eq_true_eq] at h; exact h
theorem in8B_ok {n : Int} (h : in8B n = true) : In8 n := by
  simp only [in8B, Bool.and_eq_true, decide_eq_true_eq] at h; exact h
def Ten.okB (T : Ten) : Bool := in64B T.h && in64B T.x && in64B T.c && T.d.all in8B
theorem Ten.okB_ok {T : Ten} (h : T.okB = true) : T.Ok := by
  simp only [Ten.okB, Bool.and_eq_true, List.all_eq_true] at h
  exact ⟨in64B_ok h.1.1.1, in64B_ok h.1.1.2, in64B_ok h.1.2, fun v hv => in8B_ok (h.2 v hv)⟩
def Nod.okB (n : Nod) : Bool := in64B n.kd && (in64B n.na && (in64B n.nb && (in64B n.nk && (in64B n.ns && (in64B n.np && (in64B n.no && (in8B n.za && (in8B n.zb && (n.w.all in8B && (n.b.all in32B && (in32B n.qm && (in64B n.qs && (in8B n.qz && (in32B n.rm && (in64B n.rs && (in8B n.rz && (in8B n.lo && in8B n.hi)))))))))))))))))
theorem Nod.okB_ok {n : Nod} (h : n.okB = true) : n.Ok := by
  simp only [Nod.okB, Bool.and_eq_true, List.all_eq_true] at h
  obtain ⟨h1, h2, h3, h4, h5, h6, h7, h8, h9, h10, h11, h12, h13, h14, h15, h16, h17, h18, h19⟩ := h
  exact ⟨in64B_ok h1, in64B_ok h2, in64B_ok h3, in64B_ok h4, in64B_ok h5, in64B_ok h6, in64B_ok h7, in8B_ok h8, in8B_ok h9, fun v hv => in8B_ok (h10 v hv), fun v hv => in32B_ok (h11 v hv), in32B_ok h12, in64B_ok h13, in8B_ok h14, in32B_ok h15, in64B_ok h16, in8B_ok h17, in8B_ok h18, in8B_ok h19⟩
set_option maxRecDepth 100000 in
set_option maxHeartbeats 2000000 in
theorem few10_v (T : Ten) (n : Nod)  : VC Try.prog 19 ([ten .i8 T, nod n]) (bv (decide (T.d.length ≤ 1024) && decide (n.w.length ≤ 2000) && decide (n.b.length ≤ 200))) := by
  rcases Bool.eq_false_or_eq_true (decide ((↑(List.map (row1 IntKind.i8) T.d).length : Int) ≤ 1024)) with hc0 | hc0
  · have gc0 := of_decide_eq_true hc0
    rcases Bool.eq_false_or_eq_true (decide ((↑(List.map (row1 IntKind.i8) n.w).length : Int) ≤ 2000)) with hc1 | hc1
    · have gc1 := of_decide_eq_true hc1
      exact (VC.run (fn := Try.f19) (W := [.r [] [], .r [] [.br true, .br true, .br true, .br true, .br true, .br true, .br true, .br true, .br true, .br true]]) (r := bv (decide ((↑(List.map (row1 IntKind.i32) n.b).length : Int) ≤ 200))) Try.func19 (by kernel_rfl) (.c hc0 <| .c hc0 <| .c hc0 <| .c hc0 <| .c hc0 <| .c hc1 <| .c hc1 <| .c hc1 <| .c hc1 <| .c hc1 <| .n)).weak (WeakL.refl _) (Weak.bool (show ((decide ((↑(List.map (row1 IntKind.i32) n.b).length : Int) ≤ 200)) : Bool) = (decide (T.d.length ≤ 1024) && decide (n.w.length ≤ 2000) && decide (n.b.length ≤ 200)) from (by (rw [Bool.eq_iff_iff]; simp only [decide_eq_true_eq, decide_eq_false_iff_not, beq_iff_eq, bne_iff_ne, ne_eq, beq_eq_false_iff_ne, bne_eq_false_iff_eq, Bool.not_eq_true', Bool.not_eq_false', Bool.not_eq_eq_eq_not, Bool.not_true, Bool.not_false, Classical.not_not, Int.not_lt, Int.not_le, Bool.and_eq_true, Bool.and_eq_false_iff, Bool.or_eq_true, Bool.or_eq_false_iff, Bool.and_true, Bool.true_and, Bool.and_false, Bool.false_and, Bool.or_false, Bool.false_or, eqNums, List.length_map, List.length_append, List.length_cons, List.length_nil, List.length_set, List.length_replicate, List.length_take, List.length_drop, List.length_range, Int.toNat_natCast, Nat.zero_add, List.map_eq_nil_iff, Bool.false_eq_true, Bool.true_eq_false, false_iff, true_iff, iff_false, iff_true] at *; first | done | omega))))
    · have gc1 := of_decide_eq_false hc1
      have oz5 := (show decide ((↑(List.map (row1 IntKind.i8) n.w).length : Int) ≤ 2000) = !true by (refine decide_eq_false ?_; omega))
      exact (VC.run (fn := Try.f19) (W := [.r [] [], .r [] [.br true, .br true, .br true, .br true, .br true, .br false, .br false, .br false, .br false, .br false]]) (r := bv false) Try.func19 (by kernel_rfl) (.c hc0 <| .c hc0 <| .c hc0 <| .c hc0 <| .c hc0 <| .c oz5 <| .c oz5 <| .c oz5 <| .c oz5 <| .c hc1 <| .n)).weak (WeakL.refl _) (Weak.bool (show ((false) : Bool) = (decide (T.d.length ≤ 1024) && decide (n.w.length ≤ 2000) && decide (n.b.length ≤ 200)) from (by (simp at *; omega))))
  · have gc0 := of_decide_eq_false hc0
    have oz0 := (show decide ((↑(List.map (row1 IntKind.i8) T.d).length : Int) ≤ 1024) = !true by (refine decide_eq_false ?_; omega))
    have oz5 := (show false = !true by (simp; done))
    exact (VC.run (fn := Try.f19) (W := [.r [] [], .r [] [.br false, .br false, .br false, .br false, .br false, .br false, .br false, .br false, .br false, .br false]]) (r := bv false) Try.func19 (by kernel_rfl) (.c oz0 <| .c oz0 <| .c oz0 <| .c oz0 <| .c hc0 <| .c oz5 <| .c oz5 <| .c oz5 <| .c oz5 <| .c (show false = false by with_reducible rfl) <| .n)).weak (WeakL.refl _) (Weak.bool (show ((false) : Bool) = (decide (T.d.length ≤ 1024) && decide (n.w.length ≤ 2000) && decide (n.b.length ≤ 200)) from (by (simp at *; omega))))

noncomputable def same32_l_I (l : List Int) (k : Nat) : VS := stt 26 [(0, ints .i32 l), (1, ints .i32 l), (5, i64 k)] []
noncomputable def same32_l_Z (l : List Int) : VS := same32_l_I l (l.length)
set_option maxRecDepth 100000 in
set_option maxHeartbeats 2000000 in
theorem same32_l_s (l : List Int) (hl : l.length ≤ 1000000) (k : Nat) (hk : k < l.length) : VT Try.prog (fnC Try.f69 [1, 1, 0, 1, 0, 0]) (same32_l_I l k) .normal (same32_l_I l (k + 1)) := by
  have oz1 := (show 0 ≤ (↑k : Int) by omega)
  have oz2 := (map_at (row1 IntKind.i32) (0) (l := l) (i := k) hk)
  exact VT.run (W := [.r [] [], .br true, .r [] [.row (sO oz2), .row (sO oz2)], .br false, .r [] [.n ((↑k : Int) + 1)]]) (G := [.any (rg [(11, 15)]), .weak 5 (i64 (↑(k + 1) : Int)), .sort]) (by kernel_rfl) (.c (show decide ((↑k : Int) < (↑(List.map (row1 IntKind.i32) l).length : Int)) = true by (simp; omega)) <| .c oz1 <| .c oz2 <| .c oz1 <| .c oz2 <| .c (show (l.getD k 0 != l.getD k 0) = false by (simp; done)) <| .c (IntWalk.i64_in ((↑k : Int) + 1) (by omega)) <| .c (Weak.int (k := .i64) (show (((↑k : Int) + 1) : Int) = ((↑(k + 1) : Int)) from (by omega))) <| .n)
set_option maxRecDepth 100000 in
set_option maxHeartbeats 2000000 in
theorem same32_l_e (l : List Int) (hl : l.length ≤ 1000000) : VT Try.prog (fnC Try.f69 [1, 1, 0, 1, 0, 0]) (same32_l_I l (l.length)) (.exit 0) (same32_l_Z l) := by
  exact VT.run (W := [.r [] [], .br false]) (G := [.any (rg [(11, 4)]), .sort]) (by kernel_rfl) (.c (show decide ((↑l.length : Int) < (↑(List.map (row1 IntKind.i32) l).length : Int)) = false by (simp; done)) <| .n)
theorem same32_l (l : List Int) (hl : l.length ≤ 1000000) : VT Try.prog (fnC Try.f69 [1, 1, 0, 1, 0]) (same32_l_I l 0) (.exit 0) (same32_l_Z l) :=
  VT.loop (fun k => same32_l_I l k) (l.length) (fun k hk => same32_l_s l hl k hk) (same32_l_e l hl) (by intro h; cases h)

set_option maxRecDepth 100000 in
set_option maxHeartbeats 2000000 in
theorem same32_v (l : List Int) (hl : l.length ≤ 1000000) : VC Try.prog 69 ([ints .i32 l, ints .i32 l]) (bv true) := by
  have oz2 := @same32_l (l) hl
  exact VC.run (fn := Try.f69) (W := [.r [] [], .r [] [], .br false, .r [] [], .code [.any [4, 6, 7, 8, 9, 10], .weak 5 (i64 (↑0 : Int)), .sort] (Exit.exit 0) (zO oz2), .r [] []]) Try.func69 (by kernel_rfl) (.c (show ((↑(List.map (row1 IntKind.i32) l).length : Int) != (↑(List.map (row1 IntKind.i32) l).length : Int)) = false by (simp; done)) <| .c (Weak.int (k := .i64) (show ((0) : Int) = ((↑0 : Int)) from (by omega))) <| .c oz2 <| .n)

set_option maxRecDepth 100000 in
set_option maxHeartbeats 2000000 in
theorem same10_v (T : Ten) (hl : T.d.length ≤ 1000000) : VC Try.prog 25 ([ten .i32 T, ten .i32 T]) (bv true) := by
  have oz0 := (show BinTo Try.prog BinOp.eql 23 (Operand.tmp 6) (Operand.tmp 8) (Value.agg #[Value.int IntKind.i64 T.h, Value.int IntKind.i64 T.x, Value.int IntKind.i64 T.c]) (Value.agg #[Value.int IntKind.i64 T.h, Value.int IntKind.i64 T.x, Value.int IntKind.i64 T.c]) (Value.bool (eqNums [(IntKind.i64, T.h, T.h), (IntKind.i64, T.x, T.x), (IntKind.i64, T.c, T.c)])) from ((bin_nums (l := [(IntKind.i64, T.h, T.h), (IntKind.i64, T.x, T.x), (IntKind.i64, T.c, T.c)]) (by kernel_rfl) (by kernel_rfl) (by kernel_rfl) (by kernel_rfl) _ _).1))
  rcases Bool.eq_false_or_eq_true (eqNums [(IntKind.i64, T.h, T.h), (IntKind.i64, T.x, T.x), (IntKind.i64, T.c, T.c)]) with hc0 | hc0
  · have gc0 : T.h = T.h ∧ T.x = T.x ∧ T.c = T.c := by first | exact hc0 | exact of_decide_eq_true hc0 | exact of_decide_eq_false hc0 | simpa [eqNums] using hc0 | (simp [eqNums] at hc0 ⊢; first | done | assumption | omega)
    have oz6 := @same32_v (T.d) hl
    exact VC.run (fn := Try.f25) (W := [.r [] [], .r [] [.v (Value.bool (eqNums [(IntKind.i64, T.h, T.h), (IntKind.i64, T.x, T.x), (IntKind.i64, T.c, T.c)])), .br true, .br true, .br true, .br true, .br true, .callr (rO oz6), .br true]]) Try.func25 (by kernel_rfl) (.c oz0 <| .c hc0 <| .c hc0 <| .c hc0 <| .c hc0 <| .c hc0 <| .c oz6 <| .c hc0 <| .n)
  · have gc0 : ¬(T.h = T.h ∧ T.x = T.x ∧ T.c = T.c) := by first | exact hc0 | exact of_decide_eq_true hc0 | exact of_decide_eq_false hc0 | simpa [eqNums] using hc0 | (simp [eqNums] at hc0 ⊢; first | done | assumption | omega)
    have oz1 := (show eqNums [(IntKind.i64, T.h, T.h), (IntKind.i64, T.x, T.x), (IntKind.i64, T.c, T.c)] = !true by omega)
    exact (VC.run (fn := Try.f25) (W := [.r [] [], .r [] [.v (Value.bool (eqNums [(IntKind.i64, T.h, T.h), (IntKind.i64, T.x, T.x), (IntKind.i64, T.c, T.c)])), .br false, .br false, .br false, .br false, .br false, .br false]]) (r := bv false) Try.func25 (by kernel_rfl) (.c oz0 <| .c oz1 <| .c oz1 <| .c oz1 <| .c oz1 <| .c oz1 <| .c hc0 <| .n)).weak (WeakL.refl _) (Weak.bool (show ((false) : Bool) = (true) from (by omega)))
abbrev kT10 : Ten := ⟨1, 1, 1, [3]⟩
abbrev kN10 : Nod := ⟨0, 0, 0, 1, 1, 0, 1, 1, 0, [2], [10], 0, 0, 0, 0, 0, 0, 0, 0⟩
theorem known10_c : VC Try.prog 21 [.agg [i64 1, i64 1, i64 1, .sl 1 [[i8 3]]], .agg [i64 0, i64 0, i64 0, i64 1, i64 1, i64 0, i64 1, i8 1, i8 0, .sl 1 [[i8 2]], .sl 1 [[i32 10]], i32 0, i64 0, i8 0, i32 0, i64 0, i8 0, i8 0, i8 0]] (.tup [.agg [i64 1, i64 1, i64 1, .sl 1 [[i32 14]]], i64 0]) :=
  VC.to (cvOf_v kT10 kN10 (Ten.okB_ok rfl) (Nod.okB_ok rfl)) (by kernel_rfl)
set_option maxRecDepth 100000 in
set_option maxHeartbeats 2000000 in
theorem known10_v   : VC Try.prog 20 ([]) (bv true) := by
  have oz0 := @known10_c
  have oz1 := (show true = true by with_reducible rfl)
  exact VC.run (fn := Try.f20) (W := [.r [] [], .r [] [.frz 0, .frz 0, .frz 0, .callr (rO oz0)], .r [] [.br true, .br true, .br true, .br true, .br true, .br true, .br true, .br true, .row [i32 14], .br true, .br true, .br true]]) Try.func20 (by kernel_rfl) (.c oz0 <| .c oz1 <| .c oz1 <| .c oz1 <| .c oz1 <| .c oz1 <| .c oz1 <| .c oz1 <| .c oz1 <| .c (show (0 : Int) ≤ (0 : Int) by omega) <| .c (show [[i32 (14 : Int)]][Int.toNat (0 : Int)]? = some [i32 (14 : Int)] from rfl) <| .c oz1 <| .c oz1 <| .c oz1 <| .n)
theorem convOf_len (T : Ten) (n : Nod) (ok : T.Ok) (okn : n.Ok) : (convOf T n).1.d.length ≤ 1024 := by
  unfold convOf
  split
  · simp
  · split
    · simp
    · rename_i h1 h2
      have nn := CvOk.n (T := T) (n := n) ⟨ok, okn, by simpa using h1, by simpa using h2⟩
      rw [outL_len]
      have h3 := nn.el
      have h4 := nn.he
      have h5 := nn.xe
      have h6 := nn.o1
      have : ((((convE ⟨T.h, T.x, T.c⟩ n).1.h * (convE ⟨T.h, T.x, T.c⟩ n).1.x).toNat * n.no.toNat : Nat) : Int) = (convE ⟨T.h, T.x, T.c⟩ n).1.h * (convE ⟨T.h, T.x, T.c⟩ n).1.x * n.no := by
        rw [Int.natCast_mul, Int.toNat_of_nonneg (Int.mul_nonneg (by omega) (by omega)), Int.toNat_of_nonneg (by omega)]
      omega
set_option maxRecDepth 100000 in
set_option maxHeartbeats 2000000 in
theorem convSums_v (T : Ten) (n : Nod) (ok : T.Ok) (okn : n.Ok) : VC Try.prog 4 ([ten .i8 T, nod n]) (bv true) := by
  have h1 := convOf_len T n ok okn
  have oz0 := @few10_v (T) (n)
  rcases Bool.eq_false_or_eq_true (!(decide (T.d.length ≤ 1024) && decide (n.w.length ≤ 2000) && decide (n.b.length ≤ 200))) with hc0 | hc0
  · have gc0 : (¬T.d.length ≤ 1024 ∨ ¬n.w.length ≤ 2000) ∨ ¬n.b.length ≤ 200 := by first | exact hc0 | exact of_decide_eq_true hc0 | exact of_decide_eq_false hc0 | simpa [eqNums] using hc0 | (simp [eqNums] at hc0 ⊢; first | done | assumption | omega)
    have oz2 := @known10_v
    exact VC.run (fn := Try.f4) (W := [.r [] [], .r [] [.callr (rO oz0)], .br true, .r [] [.callr (rO oz2)]]) Try.func4 (by kernel_rfl) (.c oz0 <| .c hc0 <| .c oz2 <| .n)
  · have gc0 : (T.d.length ≤ 1024 ∧ n.w.length ≤ 2000) ∧ n.b.length ≤ 200 := by first | exact hc0 | exact of_decide_eq_true hc0 | exact of_decide_eq_false hc0 | simpa [eqNums] using hc0 | (simp [eqNums] at hc0 ⊢; first | done | assumption | omega)
    have oz2 := @cvOf_v (T) (n) ok okn
    have oz3 := @rcOf_v (T) (n) ok okn
    have oz4 := @convShape_v (Shp.mk T.h T.x T.c) (n) (by (exact Shp.mk_ok ok.h ok.x ok.c)) okn
    have oz5 := @refConvShape_v (Shp.mk T.h T.x T.c) (n) (by (exact Shp.mk_ok ok.h ok.x ok.c)) okn
    rcases Bool.eq_false_or_eq_true (eqNums [(IntKind.i64, (convE (Shp.mk T.h T.x T.c) n).fst.h, (convE (Shp.mk T.h T.x T.c) n).fst.h), (IntKind.i64, (convE (Shp.mk T.h T.x T.c) n).fst.x, (convE (Shp.mk T.h T.x T.c) n).fst.x), (IntKind.i64, (convE (Shp.mk T.h T.x T.c) n).fst.c, (convE (Shp.mk T.h T.x T.c) n).fst.c)]) with hc1 | hc1
    · have gc1 : (convE (Shp.mk T.h T.x T.c) n).fst.h = (convE (Shp.mk T.h T.x T.c) n).fst.h ∧ (convE (Shp.mk T.h T.x T.c) n).fst.x = (convE (Shp.mk T.h T.x T.c) n).fst.x ∧ (convE (Shp.mk T.h T.x T.c) n).fst.c = (convE (Shp.mk T.h T.x T.c) n).fst.c := by first | exact hc1 | exact of_decide_eq_true hc1 | exact of_decide_eq_false hc1 | simpa [eqNums] using hc1 | (simp [eqNums] at hc1 ⊢; first | done | assumption | omega)
      have oz6 := (show ((convOf T n).snd == (convOf T n).snd) = true by (refine decide_eq_true ?_; omega))
      have oz9 := @same10_v ((convOf T n).fst) (by omega)
      have oz11 := (show true = true by with_reducible rfl)
      have oz20 := (show ((convE (Shp.mk T.h T.x T.c) n).snd == (convE (Shp.mk T.h T.x T.c) n).snd) = true by (refine decide_eq_true ?_; omega))
      have oz21 := @known10_v
      exact VC.run (fn := Try.f4) (W := [.r [] [], .r [] [.callr (rO oz0)], .br false, .r [] [.callr (rO oz2)], .r [] [.callr (rO oz3)], .r [] [.callr (rO oz4)], .r [] [.callr (rO oz5)], .r [] [.br true, .br true, .br true, .callr (rO oz9), .br true, .br true, .br true, .br true, .v (Value.bool (eqNums [(IntKind.i64, (convE (Shp.mk T.h T.x T.c) n).fst.h, (convE (Shp.mk T.h T.x T.c) n).fst.h), (IntKind.i64, (convE (Shp.mk T.h T.x T.c) n).fst.x, (convE (Shp.mk T.h T.x T.c) n).fst.x), (IntKind.i64, (convE (Shp.mk T.h T.x T.c) n).fst.c, (convE (Shp.mk T.h T.x T.c) n).fst.c)])), .br true, .br true, .br true, .br true, .br true, .br true, .callr (rO oz21), .br true]]) Try.func4 (by kernel_rfl) (.c oz0 <| .c hc0 <| .c oz2 <| .c oz3 <| .c oz4 <| .c oz5 <| .c oz6 <| .c oz6 <| .c oz6 <| .c oz9 <| .c oz6 <| .c oz11 <| .c oz11 <| .c oz11 <| .c (show BinTo Try.prog BinOp.eql 23 (Operand.tmp 53) (Operand.tmp 54) (Value.agg #[Value.int IntKind.i64 (convE (Shp.mk T.h T.x T.c) n).fst.h, Value.int IntKind.i64 (convE (Shp.mk T.h T.x T.c) n).fst.x, Value.int IntKind.i64 (convE (Shp.mk T.h T.x T.c) n).fst.c]) (Value.agg #[Value.int IntKind.i64 (convE (Shp.mk T.h T.x T.c) n).fst.h, Value.int IntKind.i64 (convE (Shp.mk T.h T.x T.c) n).fst.x, Value.int IntKind.i64 (convE (Shp.mk T.h T.x T.c) n).fst.c]) (Value.bool (eqNums [(IntKind.i64, (convE (Shp.mk T.h T.x T.c) n).fst.h, (convE (Shp.mk T.h T.x T.c) n).fst.h), (IntKind.i64, (convE (Shp.mk T.h T.x T.c) n).fst.x, (convE (Shp.mk T.h T.x T.c) n).fst.x), (IntKind.i64, (convE (Shp.mk T.h T.x T.c) n).fst.c, (convE (Shp.mk T.h T.x T.c) n).fst.c)])) from ((bin_nums (l := [(IntKind.i64, (convE (Shp.mk T.h T.x T.c) n).fst.h, (convE (Shp.mk T.h T.x T.c) n).fst.h), (IntKind.i64, (convE (Shp.mk T.h T.x T.c) n).fst.x, (convE (Shp.mk T.h T.x T.c) n).fst.x), (IntKind.i64, (convE (Shp.mk T.h T.x T.c) n).fst.c, (convE (Shp.mk T.h T.x T.c) n).fst.c)]) (by kernel_rfl) (by kernel_rfl) (by kernel_rfl) (by kernel_rfl) _ _).1)) <| .c oz11 <| .c hc1 <| .c hc1 <| .c hc1 <| .c hc1 <| .c oz20 <| .c oz21 <| .c oz20 <| .n)
    · have gc1 : ¬((convE (Shp.mk T.h T.x T.c) n).fst.h = (convE (Shp.mk T.h T.x T.c) n).fst.h ∧ (convE (Shp.mk T.h T.x T.c) n).fst.x = (convE (Shp.mk T.h T.x T.c) n).fst.x ∧ (convE (Shp.mk T.h T.x T.c) n).fst.c = (convE (Shp.mk T.h T.x T.c) n).fst.c) := by first | exact hc1 | exact of_decide_eq_true hc1 | exact of_decide_eq_false hc1 | simpa [eqNums] using hc1 | (simp [eqNums] at hc1 ⊢; first | done | assumption | omega)
      have oz6 := (show ((convOf T n).snd == (convOf T n).snd) = true by omega)
      have oz9 := @same10_v ((convOf T n).fst) (by omega)
      have oz11 := (show true = true by with_reducible rfl)
      have oz16 := (show eqNums [(IntKind.i64, (convE (Shp.mk T.h T.x T.c) n).fst.h, (convE (Shp.mk T.h T.x T.c) n).fst.h), (IntKind.i64, (convE (Shp.mk T.h T.x T.c) n).fst.x, (convE (Shp.mk T.h T.x T.c) n).fst.x), (IntKind.i64, (convE (Shp.mk T.h T.x T.c) n).fst.c, (convE (Shp.mk T.h T.x T.c) n).fst.c)] = !true by omega)
      exact (VC.run (fn := Try.f4) (W := [.r [] [], .r [] [.callr (rO oz0)], .br false, .r [] [.callr (rO oz2)], .r [] [.callr (rO oz3)], .r [] [.callr (rO oz4)], .r [] [.callr (rO oz5)], .r [] [.br true, .br true, .br true, .callr (rO oz9), .br true, .br true, .br true, .br true, .v (Value.bool (eqNums [(IntKind.i64, (convE (Shp.mk T.h T.x T.c) n).fst.h, (convE (Shp.mk T.h T.x T.c) n).fst.h), (IntKind.i64, (convE (Shp.mk T.h T.x T.c) n).fst.x, (convE (Shp.mk T.h T.x T.c) n).fst.x), (IntKind.i64, (convE (Shp.mk T.h T.x T.c) n).fst.c, (convE (Shp.mk T.h T.x T.c) n).fst.c)])), .br true, .br false, .br false, .br false, .br false, .br false, .br false]]) (r := bv false) Try.func4 (by kernel_rfl) (.c oz0 <| .c hc0 <| .c oz2 <| .c oz3 <| .c oz4 <| .c oz5 <| .c oz6 <| .c oz6 <| .c oz6 <| .c oz9 <| .c oz6 <| .c oz11 <| .c oz11 <| .c oz11 <| .c (show BinTo Try.prog BinOp.eql 23 (Operand.tmp 53) (Operand.tmp 54) (Value.agg #[Value.int IntKind.i64 (convE (Shp.mk T.h T.x T.c) n).fst.h, Value.int IntKind.i64 (convE (Shp.mk T.h T.x T.c) n).fst.x, Value.int IntKind.i64 (convE (Shp.mk T.h T.x T.c) n).fst.c]) (Value.agg #[Value.int IntKind.i64 (convE (Shp.mk T.h T.x T.c) n).fst.h, Value.int IntKind.i64 (convE (Shp.mk T.h T.x T.c) n).fst.x, Value.int IntKind.i64 (convE (Shp.mk T.h T.x T.c) n).fst.c]) (Value.bool (eqNums [(IntKind.i64, (convE (Shp.mk T.h T.x T.c) n).fst.h, (convE (Shp.mk T.h T.x T.c) n).fst.h), (IntKind.i64, (convE (Shp.mk T.h T.x T.c) n).fst.x, (convE (Shp.mk T.h T.x T.c) n).fst.x), (IntKind.i64, (convE (Shp.mk T.h T.x T.c) n).fst.c, (convE (Shp.mk T.h T.x T.c) n).fst.c)])) from ((bin_nums (l := [(IntKind.i64, (convE (Shp.mk T.h T.x T.c) n).fst.h, (convE (Shp.mk T.h T.x T.c) n).fst.h), (IntKind.i64, (convE (Shp.mk T.h T.x T.c) n).fst.x, (convE (Shp.mk T.h T.x T.c) n).fst.x), (IntKind.i64, (convE (Shp.mk T.h T.x T.c) n).fst.c, (convE (Shp.mk T.h T.x T.c) n).fst.c)]) (by kernel_rfl) (by kernel_rfl) (by kernel_rfl) (by kernel_rfl) _ _).1)) <| .c oz11 <| .c oz16 <| .c oz16 <| .c oz16 <| .c hc1 <| .c (show false = !true by omega) <| .c (show false = false by with_reducible rfl) <| .n)).weak (WeakL.refl _) (Weak.bool (show ((false) : Bool) = (true) from (by omega)))
end Go.Proofs.Ytcegfkmelcjdhaa

