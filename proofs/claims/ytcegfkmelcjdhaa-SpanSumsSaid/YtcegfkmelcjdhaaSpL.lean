/- No sum leaves 32 bits where its ranges don't: the law. No condition. -/
import Derived.Test.YtcegfkmelcjdhaaSpS
namespace Go.Proofs.Ytcegfkmelcjdhaa
open Go.RowKit
set_option linter.unusedSimpArgs false
set_option linter.unusedVariables false
set_option linter.unnecessarySimpa false

theorem known24_c : VC Try.prog 74 [.sl 1 [[i8 2], [i8 (-3)]], i32 1, i8 0, i8 10, i8 0, bv false] (.agg [i64 (-29), i64 21]) :=
  VC.to (row_v [2, -3] 1 0 10 0 false (by simp [In8]) (by simp) ⟨by decide, by decide⟩ ⟨by decide, by decide⟩ ⟨by decide, by decide⟩ ⟨by decide, by decide⟩) (by kernel_rfl)
set_option maxRecDepth 100000 in
set_option maxHeartbeats 2000000 in
theorem known24_v   : VC Try.prog 33 ([]) (bv true) := by
  have oz0 := @known24_c
  exact VC.run (fn := Try.f33) (W := [.r [] [], .r [] [.callr (rO oz0), .v (Value.bool (eqNums [(IntKind.i64, -29, -29), (IntKind.i64, 21, 21)]))]]) Try.func33 (by kernel_rfl) (.c oz0 <| .c (show BinTo Try.prog BinOp.eql (63 : Nat) (Operand.tmp (2 : Nat)) (Operand.tmp (3 : Nat)) (Value.agg #[Value.int IntKind.i64 (-29 : Int), Value.int IntKind.i64 (21 : Int)]) (Value.agg #[Value.int IntKind.i64 (-29 : Int), Value.int IntKind.i64 (21 : Int)]) (Value.bool (eqNums [(IntKind.i64, (-29 : Int), (-29 : Int)), (IntKind.i64, (21 : Int), (21 : Int))])) from ((bin_nums (l := [(IntKind.i64, -29, -29), (IntKind.i64, 21, 21)]) (by kernel_rfl) (by kernel_rfl) (by kernel_rfl) (by kernel_rfl) _ _).1)) <| .n)
theorem spRow_hold {n : Nod} {lo hi : Int} (h : (allR n.w n.b lo hi n.za (decide (n.np > 0)) n.b.length).all holdB = true) {o : Nat} (ho : o < n.b.length) :
    -2147483648 ≤ (spRow n.w n.b lo hi n.za (decide (n.np > 0)) o).lo ∧ (spRow n.w n.b lo hi n.za (decide (n.np > 0)) o).hi ≤ 2147483647 := by
  have := List.all_eq_true.1 h (spRow n.w n.b lo hi n.za (decide (n.np > 0)) o) (List.mem_map.2 ⟨o, List.mem_range.2 ho, rfl⟩)
  simp only [holdB, Bool.and_eq_true, decide_eq_true_eq] at this; exact this
theorem allR_get (n : Nod) (lo hi : Int) {o : Nat} (ho : o < n.b.length) : (allR n.w n.b lo hi n.za (decide (n.np > 0)) n.b.length).getD o default = spRow n.w n.b lo hi n.za (decide (n.np > 0)) o := by
  rw [allR, List.getD_eq_getElem?_getD, List.getElem?_map, List.getElem?_range ho]; rfl
structure SpanOk (T : Ten) (n : Nod) (l : List Rng) : Prop where
  ok : CvOk T n
  ll : (l.length : Int) = n.no
  x1 : 1 ≤ (convOf T n).1.x
  x2 : (convOf T n).1.x ≤ 16
  dl : (convOf T n).1.d.length ≤ 1024
  hb : ∀ k : Nat, k < (convOf T n).1.d.length → (k : Int) / n.no / (convOf T n).1.x ≤ 16
  rgs : ∀ k, k < (convOf T n).1.d.length → (l.getD ((k : Int) % n.no).toNat default).lo ≤ sumE T n ((k : Int) / n.no / (convOf T n).1.x) ((k : Int) / n.no % (convOf T n).1.x) ((k : Int) % n.no) ∧
    sumE T n ((k : Int) / n.no / (convOf T n).1.x) ((k : Int) / n.no % (convOf T n).1.x) ((k : Int) % n.no) ≤ (l.getD ((k : Int) % n.no).toNat default).hi
  hd : l.all holdB = true → ∀ k, k < (convOf T n).1.d.length → (convOf T n).1.d.getD k 0 = sumE T n ((k : Int) / n.no / (convOf T n).1.x) ((k : Int) / n.no % (convOf T n).1.x) ((k : Int) % n.no)
theorem spanOk {T : Ten} {n : Nod} (ok : CvOk T n) : SpanOk T n (allR n.w n.b (reachLo T.d T.d.length) (reachHi T.d T.d.length) n.za (decide (n.np > 0)) (if sharedB n.w n.b = true then n.b.length else 0)) := by
  have nn := ok.n
  have bl := nn.bl
  have o1 := nn.o1
  have hx := nn.xe
  have hh := nn.he
  have hsh : sharedB n.w n.b = true := by
    simp only [sharedB, Bool.and_eq_true, decide_eq_true_eq]
    refine ⟨by omega, ?_⟩
    rw [nn.wl, bl, show n.no * n.nk * n.nk * T.c = n.no * (n.nk * n.nk * T.c) by simp only [Int.mul_assoc], Int.mul_emod_right]
  rw [if_pos hsh]
  have e0 : (convOf T n).1.x = (convE ⟨T.h, T.x, T.c⟩ n).1.x := by rw [convOf_d ok]
  have at' : ∀ k, k < (convOf T n).1.d.length → 0 ≤ (k : Int) / n.no / (convE ⟨T.h, T.x, T.c⟩ n).1.x ∧ (k : Int) / n.no / (convE ⟨T.h, T.x, T.c⟩ n).1.x < (convE ⟨T.h, T.x, T.c⟩ n).1.h ∧
      0 ≤ (k : Int) / n.no % (convE ⟨T.h, T.x, T.c⟩ n).1.x ∧ (k : Int) / n.no % (convE ⟨T.h, T.x, T.c⟩ n).1.x < (convE ⟨T.h, T.x, T.c⟩ n).1.x ∧ 0 ≤ (k : Int) % n.no ∧ (k : Int) % n.no < n.no := by
    intro k hk
    rw [convOf_count ok] at hk
    have hk' : (k : Int) < (convE ⟨T.h, T.x, T.c⟩ n).1.h * (convE ⟨T.h, T.x, T.c⟩ n).1.x * n.no := by
      have e : (((((convE ⟨T.h, T.x, T.c⟩ n).1.h * (convE ⟨T.h, T.x, T.c⟩ n).1.x).toNat * n.no.toNat : Nat)) : Int) = (convE ⟨T.h, T.x, T.c⟩ n).1.h * (convE ⟨T.h, T.x, T.c⟩ n).1.x * n.no := by
        rw [Int.natCast_mul, Int.toNat_of_nonneg (Int.mul_nonneg (by omega) (by omega)), Int.toNat_of_nonneg (by omega)]
      omega
    have h1 : (k : Int) / n.no < (convE ⟨T.h, T.x, T.c⟩ n).1.h * (convE ⟨T.h, T.x, T.c⟩ n).1.x := Int.ediv_lt_of_lt_mul (by omega) hk'
    have h2 : (k : Int) / n.no / (convE ⟨T.h, T.x, T.c⟩ n).1.x < (convE ⟨T.h, T.x, T.c⟩ n).1.h := Int.ediv_lt_of_lt_mul (by omega) h1
    have h3 := Int.ediv_nonneg (show 0 ≤ (k : Int) by omega) (show 0 ≤ n.no by omega)
    exact ⟨Int.ediv_nonneg h3 (by omega), h2, Int.emod_nonneg _ (by omega), Int.emod_lt_of_pos _ (by omega), Int.emod_nonneg _ (by omega), Int.emod_lt_of_pos _ (by omega)⟩
  have inn : ∀ k, k < (convOf T n).1.d.length → (spRow n.w n.b (reachLo T.d T.d.length) (reachHi T.d T.d.length) n.za (decide (n.np > 0)) ((k : Int) % n.no).toNat).lo ≤ sumE T n ((k : Int) / n.no / (convE ⟨T.h, T.x, T.c⟩ n).1.x) ((k : Int) / n.no % (convE ⟨T.h, T.x, T.c⟩ n).1.x) ((k : Int) % n.no) ∧
      sumE T n ((k : Int) / n.no / (convE ⟨T.h, T.x, T.c⟩ n).1.x) ((k : Int) / n.no % (convE ⟨T.h, T.x, T.c⟩ n).1.x) ((k : Int) % n.no) ≤ (spRow n.w n.b (reachLo T.d T.d.length) (reachHi T.d T.d.length) n.za (decide (n.np > 0)) ((k : Int) % n.no).toNat).hi := by
    intro k hk
    obtain ⟨a, b, c, d, e, f⟩ := at' k hk
    exact sum_in ok (fun i hi => reach_in T.d _ i hi) a b c d e f
  refine ⟨ok, by simp [allR]; omega, by omega, by omega, convOf_len T n ok.ok ok.okn, fun k hk => by rw [e0]; have := at' k hk; omega, fun k hk => ?_, fun ha k hk => ?_⟩
  · rw [e0, allR_get]
    · exact inn k hk
    · have := at' k hk; omega
  · rw [convOf_get ok hk, e0]
    have h1 := inn k hk
    have h2 := spRow_hold ha (o := ((k : Int) % n.no).toNat) (by have := at' k hk; omega)
    exact IntWalk.i32_in _ (by omega)
/-- how many numbers -/
theorem convOf_cnt {T : Ten} {n : Nod} (ok : CvOk T n) : ((convOf T n).1.d.length : Int) = (convOf T n).1.h * (convOf T n).1.x * n.no ∧ 1 ≤ (convOf T n).1.h * (convOf T n).1.x ∧ (convOf T n).1.h * (convOf T n).1.x ≤ 1024 := by
  have nn := ok.n
  have hx := nn.xe
  have hh := nn.he
  have o1 := nn.o1
  have el := nn.el
  have e : (convOf T n).1.h = (convE ⟨T.h, T.x, T.c⟩ n).1.h ∧ (convOf T n).1.x = (convE ⟨T.h, T.x, T.c⟩ n).1.x := by rw [convOf_d ok]; exact ⟨rfl, rfl⟩
  have m := mul_bd (a := (convE ⟨T.h, T.x, T.c⟩ n).1.h) (A := 16) (b := (convE ⟨T.h, T.x, T.c⟩ n).1.x) (B := 16) (by omega) hh.2 (by omega) hx.2
  have m2 : 1 * 1 ≤ (convE ⟨T.h, T.x, T.c⟩ n).1.h * (convE ⟨T.h, T.x, T.c⟩ n).1.x := Int.mul_le_mul hh.1 hx.1 (by omega) (by omega)
  rw [convOf_count ok, e.1, e.2, Int.natCast_mul, Int.toNat_of_nonneg (by omega), Int.toNat_of_nonneg (by omega)]
  omega
noncomputable def spanSums_l_I (T : Ten) (n : Nod) (l : List Rng) (k : Nat) : VS := stt 126 [(2, .ptr 2 0 0), (3, .ptr 3 0 0), (5, .ptr 5 0 0), (9, .sl 2 (l.map rngC)), (10, i64 k)] [(2, .var [i64 T.h, i64 T.x, i64 T.c, ints .i8 T.d]), (3, .var (nodC n)), (5, .var [i64 (convOf T n).1.h, i64 (convOf T n).1.x, i64 (convOf T n).1.c, ints .i32 (convOf T n).1.d])]
noncomputable def spanSums_l_Z (T : Ten) (n : Nod) (l : List Rng) : VS := spanSums_l_I T n l ((convOf T n).1.d.length)
set_option maxRecDepth 100000 in
set_option maxHeartbeats 2000000 in
theorem spanSums_l_s (T : Ten) (n : Nod) (l : List Rng) (so : SpanOk T n l) (k : Nat) (hk : k < (convOf T n).1.d.length) : VT Try.prog (fnC Try.f9 [1, 1, 1, 1, 1, 1, 1, 0, 1, 0, 0]) (spanSums_l_I T n l k) .normal (spanSums_l_I T n l (k + 1)) := by
  obtain ⟨ok, ll, x1, x2, dl, hb, rgs, hd⟩ := id so
  have q3 := hb k hk
  have q1 := rgs k hk
  have q2 := fun h => hd h k hk
  have o1 := ok.n.o1
  have a1 := Int.ediv_nonneg (show 0 ≤ (k : Int) by omega) (show 0 ≤ n.no by omega)
  have a2 := Int.ediv_le_self (a := (k : Int)) n.no (by omega)
  have a3 := Int.ediv_nonneg a1 (show 0 ≤ (convOf T n).1.x by omega)
  have a4 := Int.ediv_le_self (a := (k : Int) / n.no) (convOf T n).1.x a1
  have a5 := Int.emod_nonneg (k : Int) (show n.no ≠ 0 by omega)
  have a6 := Int.emod_lt_of_pos (k : Int) (show 0 < n.no by omega)
  have a7 := Int.emod_nonneg ((k : Int) / n.no) (show (convOf T n).1.x ≠ 0 by omega)
  have a8 := Int.emod_lt_of_pos ((k : Int) / n.no) (show 0 < (convOf T n).1.x by omega)
  have h3 : -2147483648 ≤ (convOf T n).1.d.getD k 0 ∧ (convOf T n).1.d.getD k 0 ≤ 2147483647 := by rw [convOf_get ok hk, IntKind.wrap_i32]; omega
  have o2 := ok.n.o2
  have oz0 := (show decide ((↑k : Int) < (↑(List.map (row1 IntKind.i32) (convOf T n).fst.d).length : Int)) = true by (simp; omega))
  have oz1 := (show n.no ≠ 0 by omega)
  have oz2 := (show (↑k : Int).tmod n.no = (↑k : Int) % n.no from (Int.tmod_eq_emod_of_nonneg (by omega)))
  have oz4 := (show IntKind.i64.wrap ((↑k : Int).tdiv n.no) = (↑k : Int) / n.no from (Eq.trans (congrArg _ (Int.tdiv_eq_ediv_of_nonneg (by omega))) (by exact IntWalk.i64_in _ (by omega))))
  have oz5 := (show (convOf T n).fst.x ≠ 0 by omega)
  have oz6 := (show IntKind.i64.wrap (((↑k : Int) / n.no).tdiv (convOf T n).fst.x) = (↑k : Int) / n.no / (convOf T n).fst.x from (Eq.trans (congrArg _ (Int.tdiv_eq_ediv_of_nonneg a1)) (by exact IntWalk.i64_in _ (by omega))))
  have oz10 := (show ((↑k : Int) / n.no).tmod (convOf T n).fst.x = (↑k : Int) / n.no % (convOf T n).fst.x from (Int.tmod_eq_emod_of_nonneg a1))
  have oz11 := @rcSum_v (T) (n) ((↑k : Int) / n.no / (convOf T n).fst.x) ((↑k : Int) / n.no % (convOf T n).fst.x) ((↑k : Int) % n.no) ok a5 a6 a3 (by omega) a7 (by omega)
  have oz13 := (map_at (rngC) (default) (l := l) (i := ((↑k : Int) % n.no).toNat) (by omega))
  have oz14 := (decide_eq_false (p := (sumE T n ((↑k : Int) / n.no / (convOf T n).fst.x) ((↑k : Int) / n.no % (convOf T n).fst.x) ((↑k : Int) % n.no) < (l.getD ((↑k : Int) % n.no).toNat default).lo)) (by omega))
  have oz24 := (decide_eq_false (p := (sumE T n ((↑k : Int) / n.no / (convOf T n).fst.x) ((↑k : Int) / n.no % (convOf T n).fst.x) ((↑k : Int) % n.no) > (l.getD ((↑k : Int) % n.no).toNat default).hi)) (by omega))
  have oz26 := @holds_v (l) (by omega)
  rcases Bool.eq_false_or_eq_true (l.all holdB) with hc0 | hc0
  · have gc0 : l.all holdB = true := by first | exact hc0 | exact of_decide_eq_true hc0 | exact of_decide_eq_false hc0 | simpa [eqNums] using hc0 | (simp [eqNums] at hc0 ⊢; first | done | assumption | omega)
    have oz33 := (map_at (row1 IntKind.i32) (0) (l := (convOf T n).fst.d) (i := k) hk)
    exact VT.run (W := [.r [] [], .br true, .r [] [.n ((↑k : Int) % n.no)], .r [] [.n ((↑k : Int) / n.no), .n ((↑k : Int) / n.no / (convOf T n).fst.x), .n ((↑k : Int) / n.no), .n ((↑k : Int) / n.no % (convOf T n).fst.x), .callr (rO oz11)], .r [] [.row (sO oz13), .br true, .br true, .br true, .br true, .row (sO oz13), .br true, .br true, .br true, .br false, .br true, .br true, .callr (rO oz26), .br true, .br true, .br true, .br true, .br true, .row (sO oz33), .br true, .br true, .n ((convOf T n).fst.d.getD k 0), .br true, .br true, .br true, .br true, .br false], .br false, .r [] [.n ((↑k : Int) + 1)]]) (G := [.any (rg [(11, 2), (64, 61)]), .weak 10 (i64 (↑(k + 1) : Int)), .sort]) (by kernel_rfl) (.c oz0 <| .c oz1 <| .c oz2 <| .c oz1 <| .c oz4 <| .c oz5 <| .c oz6 <| .c oz1 <| .c oz4 <| .c oz5 <| .c oz10 <| .c oz11 <| .c a5 <| .c oz13 <| .c oz14 <| .c oz14 <| .c oz14 <| .c oz14 <| .c a5 <| .c oz13 <| .c oz14 <| .c oz14 <| .c oz14 <| .c oz14 <| .c oz24 <| .c oz24 <| .c oz26 <| .c oz24 <| .c hc0 <| .c hc0 <| .c hc0 <| .c hc0 <| .c (show 0 ≤ (↑k : Int) by omega) <| .c oz33 <| .c hc0 <| .c hc0 <| .c (IntWalk.i64_in ((convOf T n).fst.d.getD k 0) (by omega)) <| .c hc0 <| .c hc0 <| .c oz24 <| .c hc0 <| .c oz24 <| .c (show ((convOf T n).fst.d.getD k 0 != sumE T n ((↑k : Int) / n.no / (convOf T n).fst.x) ((↑k : Int) / n.no % (convOf T n).fst.x) ((↑k : Int) % n.no)) = false by (refine bne_eq_false_iff_eq.2 ?_; exact q2 (by assumption))) <| .c (IntWalk.i64_in ((↑k : Int) + 1) (by omega)) <| .c (Weak.int (k := .i64) (show (((↑k : Int) + 1) : Int) = ((↑(k + 1) : Int)) from (by omega))) <| .n)
  · have gc0 : l.all holdB = false := by first | exact hc0 | exact of_decide_eq_true hc0 | exact of_decide_eq_false hc0 | simpa [eqNums] using hc0 | (simp [eqNums] at hc0 ⊢; first | done | assumption | omega)
    have oz28 := (show l.all holdB = !true by (simp at *; omega))
    exact VT.run (W := [.r [] [], .br true, .r [] [.n ((↑k : Int) % n.no)], .r [] [.n ((↑k : Int) / n.no), .n ((↑k : Int) / n.no / (convOf T n).fst.x), .n ((↑k : Int) / n.no), .n ((↑k : Int) / n.no % (convOf T n).fst.x), .callr (rO oz11)], .r [] [.row (sO oz13), .br true, .br true, .br true, .br true, .row (sO oz13), .br true, .br true, .br true, .br false, .br true, .br true, .callr (rO oz26), .br true, .br false, .br false, .br false, .br false, .br false, .br false, .br false, .br false, .br true, .br false, .br false], .br false, .r [] [.n ((↑k : Int) + 1)]]) (G := [.any (rg [(11, 2), (64, 61)]), .weak 10 (i64 (↑(k + 1) : Int)), .sort]) (by kernel_rfl) (.c oz0 <| .c oz1 <| .c oz2 <| .c oz1 <| .c oz4 <| .c oz5 <| .c oz6 <| .c oz1 <| .c oz4 <| .c oz5 <| .c oz10 <| .c oz11 <| .c a5 <| .c oz13 <| .c oz14 <| .c oz14 <| .c oz14 <| .c oz14 <| .c a5 <| .c oz13 <| .c oz14 <| .c oz14 <| .c oz14 <| .c oz14 <| .c oz24 <| .c oz24 <| .c oz26 <| .c oz24 <| .c oz28 <| .c oz28 <| .c oz28 <| .c oz28 <| .c oz28 <| .c oz28 <| .c oz28 <| .c oz28 <| .c oz24 <| .c hc0 <| .c oz24 <| .c (show false = false by with_reducible rfl) <| .c (IntWalk.i64_in ((↑k : Int) + 1) (by omega)) <| .c (Weak.int (k := .i64) (show (((↑k : Int) + 1) : Int) = ((↑(k + 1) : Int)) from (by omega))) <| .n)
set_option maxRecDepth 100000 in
set_option maxHeartbeats 2000000 in
theorem spanSums_l_e (T : Ten) (n : Nod) (l : List Rng) (so : SpanOk T n l) : VT Try.prog (fnC Try.f9 [1, 1, 1, 1, 1, 1, 1, 0, 1, 0, 0]) (spanSums_l_I T n l ((convOf T n).1.d.length)) (.exit 0) (spanSums_l_Z T n l) := by
  exact VT.run (W := [.r [] [], .br false]) (G := [.any (rg [(64, 5)]), .sort]) (by kernel_rfl) (.c (show decide ((↑(convOf T n).fst.d.length : Int) < (↑(List.map (row1 IntKind.i32) (convOf T n).fst.d).length : Int)) = false by (simp; done)) <| .n)
theorem spanSums_l (T : Ten) (n : Nod) (l : List Rng) (so : SpanOk T n l) : VT Try.prog (fnC Try.f9 [1, 1, 1, 1, 1, 1, 1, 0, 1, 0]) (spanSums_l_I T n l 0) (.exit 0) (spanSums_l_Z T n l) :=
  VT.loop (fun k => spanSums_l_I T n l k) ((convOf T n).1.d.length) (fun k hk => spanSums_l_s T n l so k hk) (spanSums_l_e T n l so) (by intro h; cases h)

set_option maxRecDepth 100000 in
set_option maxHeartbeats 2000000 in
theorem spanSums_v (T : Ten) (n : Nod) (ok : T.Ok) (okn : n.Ok) : VC Try.prog 9 ([ten .i8 T, nod n]) (bv true) := by
  have h1 := convOf_len T n ok okn
  have h2 := @convOf_e T n ok okn
  have h3 := @convOf_no T n
  have h4 := (reach8 ok.d T.d.length).1
  have h5 := (reach8 ok.d T.d.length).2
  have h6 := fun (h : (convOf T n).2 = 0) => spanOk (h2 h)
  have h7 := fun (h : (convOf T n).2 = 0) => convOf_cnt (h2 h)
  have oz0 := @few10_v (T) (n)
  rcases Bool.eq_false_or_eq_true (!(decide (T.d.length ≤ 1024) && decide (n.w.length ≤ 2000) && decide (n.b.length ≤ 200))) with hc0 | hc0
  · have gc0 : (¬T.d.length ≤ 1024 ∨ ¬n.w.length ≤ 2000) ∨ ¬n.b.length ≤ 200 := by first | exact hc0 | exact of_decide_eq_true hc0 | exact of_decide_eq_false hc0 | simpa [eqNums] using hc0 | (simp [eqNums] at hc0 ⊢; first | done | assumption | omega)
    have oz2 := @known24_v
    exact VC.run (fn := Try.f9) (W := [.r [] [], .r [] [.callr (rO oz0)], .br true, .r [] [.callr (rO oz2)]]) Try.func9 (by kernel_rfl) (.c oz0 <| .c hc0 <| .c oz2 <| .n)
  · have gc0 : (T.d.length ≤ 1024 ∧ n.w.length ≤ 2000) ∧ n.b.length ≤ 200 := by first | exact hc0 | exact of_decide_eq_true hc0 | exact of_decide_eq_false hc0 | simpa [eqNums] using hc0 | (simp [eqNums] at hc0 ⊢; first | done | assumption | omega)
    have oz2 := @cvOf_v (T) (n) ok okn
    rcases Bool.eq_false_or_eq_true ((convOf T n).snd != 0) with hc1 | hc1
    · have gc1 : ¬(convOf T n).snd = 0 := bdt hc1
      rcases Bool.eq_false_or_eq_true ((↑(List.map (row1 IntKind.i32) (convOf T n).fst.d).length : Int) == 0) with hc2 | hc2
      · have gc2 : (↑(List.map (row1 IntKind.i32) (convOf T n).fst.d).length : Int) = 0 := bet hc2
        have oz5 := @known24_v
        exact VC.run (fn := Try.f9) (W := [.r [] [], .r [] [.callr (rO oz0)], .br false, .r [] [.callr (rO oz2)], .r [] [], .br true, .r [] [.br true, .callr (rO oz5), .br true]]) Try.func9 (by kernel_rfl) (.c oz0 <| .c hc0 <| .c oz2 <| .c hc1 <| .c hc2 <| .c oz5 <| .c hc2 <| .n)
      · have gc2 : ¬(↑(List.map (row1 IntKind.i32) (convOf T n).fst.d).length : Int) = 0 := bef hc2
        exact (VC.run (fn := Try.f9) (W := [.r [] [], .r [] [.callr (rO oz0)], .br false, .r [] [.callr (rO oz2)], .r [] [], .br true, .r [] [.br false, .br false]]) (r := bv false) Try.func9 (by kernel_rfl) (.c oz0 <| .c hc0 <| .c oz2 <| .c hc1 <| .c (show ((↑(List.map (row1 IntKind.i32) (convOf T n).fst.d).length : Int) == 0) = !true by (refine decide_eq_false ?_; omega)) <| .c hc2 <| .n)).weak (WeakL.refl _) (Weak.bool (show ((false) : Bool) = (true) from (by (simp_all; done))))
    · have gc1 : (convOf T n).snd = 0 := bdf hc1
      have oz4 := @reach_v (T.d) (by omega)
      have oz5 := @all_v (n) (reachLo T.d T.d.length) (reachHi T.d T.d.length) okn h4 h5 (by omega) (by omega)
      have oz6 := (show ((↑(List.map rngC (allR n.w n.b (reachLo T.d T.d.length) (reachHi T.d T.d.length) n.za (decide (n.np > 0)) (if sharedB n.w n.b = true then n.b.length else 0))).length : Int) != n.no) = false by (refine bne_eq_false_iff_eq.2 ?_; have := (h6 (by omega)).ll; simp only [List.length_map] at *; omega))
      have oz16 := (IntWalk.i64_in ((convOf T n).fst.h * (convOf T n).fst.x) (by omega))
      have oz20 := (IntWalk.i64_in ((convOf T n).fst.h * (convOf T n).fst.x * n.no) (by omega))
      have oz25 := @spanSums_l (T) (n) (allR n.w n.b (reachLo T.d T.d.length) (reachHi T.d T.d.length) n.za (decide (n.np > 0)) (if sharedB n.w n.b = true then n.b.length else 0)) (by (exact h6 (by omega)))
      have oz26 := @known24_v
      exact VC.run (fn := Try.f9) (W := [.r [] [], .r [] [.callr (rO oz0)], .br false, .r [] [.callr (rO oz2)], .r [] [], .br false, .r [] [.callr (rO oz4)], .r [] [.callr (rO oz5)], .r [] [.br true, .br true, .br true, .br true, .br true, .br true, .br true, .br true, .br true, .br true, .n (nO oz16), .br true, .br true, .br true, .n (nO oz20), .br true, .br false], .br false, .r [] [], .code [.any (rg [(0, 2), (4, 1), (6, 3), (13, 4), (18, 8), (33, 31)]), .weak 10 (i64 (↑0 : Int)), .sort] (Exit.exit 0) (zO oz25), .r [] [.callr (rO oz26)]]) Try.func9 (by kernel_rfl) (.c oz0 <| .c hc0 <| .c oz2 <| .c hc1 <| .c oz4 <| .c oz5 <| .c oz6 <| .c oz6 <| .c oz6 <| .c oz6 <| .c oz6 <| .c oz6 <| .c oz6 <| .c oz6 <| .c oz6 <| .c oz6 <| .c oz16 <| .c oz6 <| .c oz6 <| .c oz6 <| .c oz20 <| .c oz6 <| .c oz6 <| .c (show ((↑(List.map (row1 IntKind.i32) (convOf T n).fst.d).length : Int) != (convOf T n).fst.h * (convOf T n).fst.x * n.no) = false by (refine bne_eq_false_iff_eq.2 ?_; have := (h6 (by omega)).ll; simp only [List.length_map] at *; omega)) <| .c (Weak.int (k := .i64) (show ((0) : Int) = ((↑0 : Int)) from (by omega))) <| .c oz25 <| .c oz26 <| .n)
end Go.Proofs.Ytcegfkmelcjdhaa

