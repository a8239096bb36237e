/- Texts of this claim, put together: RpC, RpD. No condition. -/
import Derived.Test.YtgecmooedhnenaaPackNodesG6
set_option linter.unusedVariables false
set_option linter.unusedSimpArgs false
set_option linter.unnecessarySimpa false
/- The document's taker of a node. No condition. -/
namespace Go.Proofs.Ytgecmooedhnenaa
open Go.RowKit
set_option linter.unusedSimpArgs false
set_option linter.unusedVariables false
set_option linter.unnecessarySimpa false

theorem rone_v (xs : List Int) (r : Rrf) (h : Rrf.In xs r) : VM Try.prog 111 [.ptr 100000 0 0] [(100000, .var (rrC xs r))] (i8 (oneV (toS xs r))) [(100000, .var (rrC xs (smlR xs r 1)))] := by
  rcases one_len (toS xs r) with h1 | h1
  · rw [oneV_0 h1]; exact rone_y xs r h h1
  · exact rone_n xs r h (by omega) (by omega)
set_option maxRecDepth 100000 in
set_option maxHeartbeats 2000000 in
theorem rw_1b (xs : List Int) (r r1 r2 r3 r4 r5 r6 r7 r8 r9 r10 r11 r12 r13 r14 r15 r16 : Rrf) (v_kd v_na v_nk v_ns v_np v_no v_za v_cw v_cb v_qm v_qs v_qz v_lo v_hi : Int) (v_w v_b : List Int) (g1 : VM Try.prog 109 [.ptr 100000 0 0, i64 9] [(100000, .var (rrC xs r))] (i64 v_kd) [(100000, .var (rrC xs r1))]) (g2 : VM Try.prog 109 [.ptr 100000 0 0, i64 1024] [(100000, .var (rrC xs r1))] (i64 v_na) [(100000, .var (rrC xs r2))]) (g3 : VM Try.prog 109 [.ptr 100000 0 0, i64 1024] [(100000, .var (rrC xs r2))] (i64 v_nk) [(100000, .var (rrC xs r3))]) (g4 : VM Try.prog 109 [.ptr 100000 0 0, i64 1024] [(100000, .var (rrC xs r3))] (i64 v_ns) [(100000, .var (rrC xs r4))]) (g5 : VM Try.prog 109 [.ptr 100000 0 0, i64 1024] [(100000, .var (rrC xs r4))] (i64 v_np) [(100000, .var (rrC xs r5))]) (g6 : VM Try.prog 109 [.ptr 100000 0 0, i64 1024] [(100000, .var (rrC xs r5))] (i64 v_no) [(100000, .var (rrC xs r6))]) (g7 : VM Try.prog 111 [.ptr 100000 0 0] [(100000, .var (rrC xs r6))] (i8 v_za) [(100000, .var (rrC xs r7))]) (g8 : VM Try.prog 109 [.ptr 100000 0 0, i64 16384] [(100000, .var (rrC xs r7))] (i64 v_cw) [(100000, .var (rrC xs r8))]) (g9 : VM Try.prog 112 [.ptr 100000 0 0, i64 v_cw] [(100000, .var (rrC xs r8))] (.sl 1 (v_w.map (row1 .i8))) [(100000, .var (rrC xs r9))]) (g10 : VM Try.prog 109 [.ptr 100000 0 0, i64 16384] [(100000, .var (rrC xs r9))] (i64 v_cb) [(100000, .var (rrC xs r10))]) (g11 : VM Try.prog 113 [.ptr 100000 0 0, i64 v_cb] [(100000, .var (rrC xs r10))] (.sl 1 (v_b.map (row1 .i32))) [(100000, .var (rrC xs r11))]) (g12 : VM Try.prog 109 [.ptr 100000 0 0, i64 2147483647] [(100000, .var (rrC xs r11))] (i64 v_qm) [(100000, .var (rrC xs r12))]) (g13 : VM Try.prog 109 [.ptr 100000 0 0, i64 62] [(100000, .var (rrC xs r12))] (i64 v_qs) [(100000, .var (rrC xs r13))]) (g14 : VM Try.prog 111 [.ptr 100000 0 0] [(100000, .var (rrC xs r13))] (i8 v_qz) [(100000, .var (rrC xs r14))]) (g15 : VM Try.prog 111 [.ptr 100000 0 0] [(100000, .var (rrC xs r14))] (i8 v_lo) [(100000, .var (rrC xs r15))]) (g16 : VM Try.prog 111 [.ptr 100000 0 0] [(100000, .var (rrC xs r15))] (i8 v_hi) [(100000, .var (rrC xs r16))]) (hk : v_kd = 1) (h9 : In64 v_kd) (h_qm : 0 ≤ v_qm ∧ v_qm ≤ 2147483647) (hbad : r16.2 ≠ 0) : VM Try.prog 41 ([.ptr 100000 0 0]) ([(100000, .var (rrC xs r))]) (.tup [.agg [i64 0, i64 0, i64 0, i64 0, i64 0, i64 0, i64 0, i8 0, i8 0, .sl 1 [], .sl 1 [], i32 0, i64 0, i8 0, i32 0, i64 0, i8 0, i8 0, i8 0], i64 r16.2]) ([(100000, .var (rrC xs r16))]) := by
  have oz0 := @g1
  have oz1 := @g2
  have oz2 := @tells_1 (v_kd) hk
  have oz3 := (show (0 : Int) ≤ (0 : Int) by omega)
  have oz4 := (show (0 : Int) < (↑(6 : Nat) : Int) by omega)
  have oz5 := (show [[bv false], [bv true], [bv true], [bv true], [bv true], [bv true]][(0 : Nat)]? = some [bv false] from rfl)
  have oz6 := (show false = false by with_reducible rfl)
  have oz7 := (show (0 : Int) ≤ (1 : Int) by omega)
  have oz8 := (show (1 : Int) < (↑(6 : Nat) : Int) by omega)
  have oz9 := (show [[bv false], [bv true], [bv true], [bv true], [bv true], [bv true]][(1 : Nat)]? = some [bv true] from rfl)
  have oz10 := (show true = true by with_reducible rfl)
  have oz11 := @g3
  have oz12 := @g4
  have oz16 := (show true = !false by (simp; done))
  have oz21 := @g5
  have oz24 := (show [[bv false], [bv true], [bv true], [bv true], [bv true], [bv true]][(2 : Nat)]? = some [bv true] from rfl)
  have oz26 := @g6
  have oz29 := (show [[bv false], [bv true], [bv true], [bv true], [bv true], [bv true]][(3 : Nat)]? = some [bv true] from rfl)
  have oz31 := @g7
  have oz38 := (show [[bv false], [bv true], [bv true], [bv true], [bv true], [bv true]][(4 : Nat)]? = some [bv true] from rfl)
  have oz40 := @g8
  have oz41 := @g9
  have oz42 := @g10
  have oz43 := @g11
  have oz46 := (show [[bv false], [bv true], [bv true], [bv true], [bv true], [bv true]][(5 : Nat)]? = some [bv true] from rfl)
  have oz48 := @g12
  have oz50 := @g13
  have oz51 := @g14
  have oz56 := @g15
  have oz57 := @g16
  exact VM.run (fn := Try.f41) (W := [.r [] [], .r [] [.callm [(100000, 100000)] [] (rM oz0) (oM oz0), .callm [(100000, 100000)] [] (rM oz1) (oM oz1)], .r [] [.callr (rO oz2)], .r [] [.row (sO oz5)], .br false, .r [] [.row (sO oz9)], .br true, .r [] [.callm [(100000, 100000)] [] (rM oz11) (oM oz11)], .r [] [.callm [(100000, 100000)] [] (rM oz12) (oM oz12)], .r [] [.row (sO oz9), .br false, .br false, .br false, .br true], .br true, .r [] [.callm [(100000, 100000)] [] (rM oz21) (oM oz21)], .r [] [.row (sO oz24)], .br true, .r [] [.callm [(100000, 100000)] [] (rM oz26) (oM oz26)], .r [] [.row (sO oz29)], .br true, .r [] [.callm [(100000, 100000)] [] (rM oz31) (oM oz31)], .r [] [.row (sO oz5)], .br false, .r [] [.row (sO oz38)], .br true, .r [] [.callm [(100000, 100000)] [] (rM oz40) (oM oz40), .callm [(100000, 100000)] [] (rM oz41) (oM oz41)], .r [] [.callm [(100000, 100000)] [] (rM oz42) (oM oz42), .callm [(100000, 100000)] [] (rM oz43) (oM oz43)], .r [] [.row (sO oz46)], .br true, .r [] [.callm [(100000, 100000)] [] (rM oz48) (oM oz48), .n v_qm, .callm [(100000, 100000)] [] (rM oz50) (oM oz50), .callm [(100000, 100000)] [] (rM oz51) (oM oz51)], .r [] [.row (sO oz5)], .br false, .r [] [.callm [(100000, 100000)] [] (rM oz56) (oM oz56)], .r [] [.callm [(100000, 100000)] [] (rM oz57) (oM oz57)], .r [] [], .br true, .r [] []]) (G := [.drop [2, 4, 5], .weak 0 (AV.tup [AV.agg [i64 0, i64 0, i64 0, i64 0, i64 0, i64 0, i64 0, i8 0, i8 0, AV.sl 1 [], AV.sl 1 [], i32 0, i64 0, i8 0, i32 0, i64 0, i8 0, i8 0, i8 0], i64 r16.snd]), .sort]) Try.func41 (by kernel_rfl) (.c oz0 <| .c oz1 <| .c oz2 <| .c oz3 <| .c oz4 <| .c oz5 <| .c oz6 <| .c oz7 <| .c oz8 <| .c oz9 <| .c oz10 <| .c oz11 <| .c oz12 <| .c oz7 <| .c oz8 <| .c oz9 <| .c oz16 <| .c oz16 <| .c oz16 <| .c oz10 <| .c oz10 <| .c oz21 <| .c (show (0 : Int) ≤ (2 : Int) by omega) <| .c (show (2 : Int) < (↑(6 : Nat) : Int) by omega) <| .c oz24 <| .c oz10 <| .c oz26 <| .c (show (0 : Int) ≤ (3 : Int) by omega) <| .c (show (3 : Int) < (↑(6 : Nat) : Int) by omega) <| .c oz29 <| .c oz10 <| .c oz31 <| .c oz3 <| .c oz4 <| .c oz5 <| .c oz6 <| .c (show (0 : Int) ≤ (4 : Int) by omega) <| .c (show (4 : Int) < (↑(6 : Nat) : Int) by omega) <| .c oz38 <| .c oz10 <| .c oz40 <| .c oz41 <| .c oz42 <| .c oz43 <| .c (show (0 : Int) ≤ (5 : Int) by omega) <| .c (show (5 : Int) < (↑(6 : Nat) : Int) by omega) <| .c oz46 <| .c oz10 <| .c oz48 <| .c (IntWalk.i32_in v_qm (by omega)) <| .c oz50 <| .c oz51 <| .c oz3 <| .c oz4 <| .c oz5 <| .c oz6 <| .c oz56 <| .c oz57 <| .c (show (r16.snd != 0) = true by (simp; omega)) <| .c (show Weak (AV.tup [AV.agg [i64 0, i64 0, i64 0, i64 0, i64 0, i64 0, i64 0, i8 0, i8 0, AV.lit (Value.slice none 0 0), AV.lit (Value.slice none 0 0), i32 0, i64 0, i8 0, i32 0, i64 0, i8 0, i8 0, i8 0], i64 r16.snd]) (AV.tup [AV.agg [i64 0, i64 0, i64 0, i64 0, i64 0, i64 0, i64 0, i8 0, i8 0, AV.sl 1 [], AV.sl 1 [], i32 0, i64 0, i8 0, i32 0, i64 0, i8 0, i8 0, i8 0], i64 r16.snd]) from (Weak.tup (.cons (Weak.agg (.cons (.refl _) (.cons (.refl _) (.cons (.refl _) (.cons (.refl _) (.cons (.refl _) (.cons (.refl _) (.cons (.refl _) (.cons (.refl _) (.cons (.refl _) (.cons (Weak.nil _) (.cons (Weak.nil _) (.cons (.refl _) (.cons (.refl _) (.cons (.refl _) (.cons (.refl _) (.cons (.refl _) (.cons (.refl _) (.cons (.refl _) (.cons (.refl _) .nil)))))))))))))))))))) (.cons (.refl _) .nil)))) <| .n)

set_option maxRecDepth 100000 in
set_option maxHeartbeats 2000000 in
theorem rw_1c (xs : List Int) (r r1 r2 r3 r4 r5 r6 r7 r8 r9 r10 r11 r12 r13 r14 r15 r16 : Rrf) (v_kd v_na v_nk v_ns v_np v_no v_za v_cw v_cb v_qm v_qs v_qz v_lo v_hi : Int) (v_w v_b : List Int) (g1 : VM Try.prog 109 [.ptr 100000 0 0, i64 9] [(100000, .var (rrC xs r))] (i64 v_kd) [(100000, .var (rrC xs r1))]) (g2 : VM Try.prog 109 [.ptr 100000 0 0, i64 1024] [(100000, .var (rrC xs r1))] (i64 v_na) [(100000, .var (rrC xs r2))]) (g3 : VM Try.prog 109 [.ptr 100000 0 0, i64 1024] [(100000, .var (rrC xs r2))] (i64 v_nk) [(100000, .var (rrC xs r3))]) (g4 : VM Try.prog 109 [.ptr 100000 0 0, i64 1024] [(100000, .var (rrC xs r3))] (i64 v_ns) [(100000, .var (rrC xs r4))]) (g5 : VM Try.prog 109 [.ptr 100000 0 0, i64 1024] [(100000, .var (rrC xs r4))] (i64 v_np) [(100000, .var (rrC xs r5))]) (g6 : VM Try.prog 109 [.ptr 100000 0 0, i64 1024] [(100000, .var (rrC xs r5))] (i64 v_no) [(100000, .var (rrC xs r6))]) (g7 : VM Try.prog 111 [.ptr 100000 0 0] [(100000, .var (rrC xs r6))] (i8 v_za) [(100000, .var (rrC xs r7))]) (g8 : VM Try.prog 109 [.ptr 100000 0 0, i64 16384] [(100000, .var (rrC xs r7))] (i64 v_cw) [(100000, .var (rrC xs r8))]) (g9 : VM Try.prog 112 [.ptr 100000 0 0, i64 v_cw] [(100000, .var (rrC xs r8))] (.sl 1 (v_w.map (row1 .i8))) [(100000, .var (rrC xs r9))]) (g10 : VM Try.prog 109 [.ptr 100000 0 0, i64 16384] [(100000, .var (rrC xs r9))] (i64 v_cb) [(100000, .var (rrC xs r10))]) (g11 : VM Try.prog 113 [.ptr 100000 0 0, i64 v_cb] [(100000, .var (rrC xs r10))] (.sl 1 (v_b.map (row1 .i32))) [(100000, .var (rrC xs r11))]) (g12 : VM Try.prog 109 [.ptr 100000 0 0, i64 2147483647] [(100000, .var (rrC xs r11))] (i64 v_qm) [(100000, .var (rrC xs r12))]) (g13 : VM Try.prog 109 [.ptr 100000 0 0, i64 62] [(100000, .var (rrC xs r12))] (i64 v_qs) [(100000, .var (rrC xs r13))]) (g14 : VM Try.prog 111 [.ptr 100000 0 0] [(100000, .var (rrC xs r13))] (i8 v_qz) [(100000, .var (rrC xs r14))]) (g15 : VM Try.prog 111 [.ptr 100000 0 0] [(100000, .var (rrC xs r14))] (i8 v_lo) [(100000, .var (rrC xs r15))]) (g16 : VM Try.prog 111 [.ptr 100000 0 0] [(100000, .var (rrC xs r15))] (i8 v_hi) [(100000, .var (rrC xs r16))]) (hk : v_kd = 1) (h9 : In64 v_kd) (h_qm : 0 ≤ v_qm ∧ v_qm ≤ 2147483647) (hbad : r16.2 = 0) (hw : v_w.length ≤ 100000) (hb : v_b.length ≤ 100000) (hc : checkE (⟨v_kd, v_na, 0, v_nk, v_ns, v_np, v_no, v_za, 0, v_w, v_b, v_qm, v_qs, v_qz, 0, 0, 0, v_lo, v_hi⟩ : Nod) ≠ 0) : VM Try.prog 41 ([.ptr 100000 0 0]) ([(100000, .var (rrC xs r))]) (.tup [.agg [i64 0, i64 0, i64 0, i64 0, i64 0, i64 0, i64 0, i8 0, i8 0, .sl 1 [], .sl 1 [], i32 0, i64 0, i8 0, i32 0, i64 0, i8 0, i8 0, i8 0], i64 (checkE (⟨v_kd, v_na, 0, v_nk, v_ns, v_np, v_no, v_za, 0, v_w, v_b, v_qm, v_qs, v_qz, 0, 0, 0, v_lo, v_hi⟩ : Nod))]) ([(100000, .var (rrC xs r16))]) := by
  have oz0 := @g1
  have oz1 := @g2
  have oz2 := @tells_1 (v_kd) hk
  have oz3 := (show (0 : Int) ≤ (0 : Int) by omega)
  have oz4 := (show (0 : Int) < (↑(6 : Nat) : Int) by omega)
  have oz5 := (show [[bv false], [bv true], [bv true], [bv true], [bv true], [bv true]][(0 : Nat)]? = some [bv false] from rfl)
  have oz6 := (show false = false by with_reducible rfl)
  have oz7 := (show (0 : Int) ≤ (1 : Int) by omega)
  have oz8 := (show (1 : Int) < (↑(6 : Nat) : Int) by omega)
  have oz9 := (show [[bv false], [bv true], [bv true], [bv true], [bv true], [bv true]][(1 : Nat)]? = some [bv true] from rfl)
  have oz10 := (show true = true by with_reducible rfl)
  have oz11 := @g3
  have oz12 := @g4
  have oz16 := (show true = !false by (simp; done))
  have oz21 := @g5
  have oz24 := (show [[bv false], [bv true], [bv true], [bv true], [bv true], [bv true]][(2 : Nat)]? = some [bv true] from rfl)
  have oz26 := @g6
  have oz29 := (show [[bv false], [bv true], [bv true], [bv true], [bv true], [bv true]][(3 : Nat)]? = some [bv true] from rfl)
  have oz31 := @g7
  have oz38 := (show [[bv false], [bv true], [bv true], [bv true], [bv true], [bv true]][(4 : Nat)]? = some [bv true] from rfl)
  have oz40 := @g8
  have oz41 := @g9
  have oz42 := @g10
  have oz43 := @g11
  have oz46 := (show [[bv false], [bv true], [bv true], [bv true], [bv true], [bv true]][(5 : Nat)]? = some [bv true] from rfl)
  have oz48 := @g12
  have oz50 := @g13
  have oz51 := @g14
  have oz56 := @g15
  have oz57 := @g16
  have oz59 := @refCheck_v (Nod.mk v_kd v_na 0 v_nk v_ns v_np v_no v_za 0 v_w v_b v_qm v_qs v_qz 0 0 0 v_lo v_hi) hw hb h9
  exact VM.run (fn := Try.f41) (W := [.r [] [], .r [] [.callm [(100000, 100000)] [] (rM oz0) (oM oz0), .callm [(100000, 100000)] [] (rM oz1) (oM oz1)], .r [] [.callr (rO oz2)], .r [] [.row (sO oz5)], .br false, .r [] [.row (sO oz9)], .br true, .r [] [.callm [(100000, 100000)] [] (rM oz11) (oM oz11)], .r [] [.callm [(100000, 100000)] [] (rM oz12) (oM oz12)], .r [] [.row (sO oz9), .br false, .br false, .br false, .br true], .br true, .r [] [.callm [(100000, 100000)] [] (rM oz21) (oM oz21)], .r [] [.row (sO oz24)], .br true, .r [] [.callm [(100000, 100000)] [] (rM oz26) (oM oz26)], .r [] [.row (sO oz29)], .br true, .r [] [.callm [(100000, 100000)] [] (rM oz31) (oM oz31)], .r [] [.row (sO oz5)], .br false, .r [] [.row (sO oz38)], .br true, .r [] [.callm [(100000, 100000)] [] (rM oz40) (oM oz40), .callm [(100000, 100000)] [] (rM oz41) (oM oz41)], .r [] [.callm [(100000, 100000)] [] (rM oz42) (oM oz42), .callm [(100000, 100000)] [] (rM oz43) (oM oz43)], .r [] [.row (sO oz46)], .br true, .r [] [.callm [(100000, 100000)] [] (rM oz48) (oM oz48), .n v_qm, .callm [(100000, 100000)] [] (rM oz50) (oM oz50), .callm [(100000, 100000)] [] (rM oz51) (oM oz51)], .r [] [.row (sO oz5)], .br false, .r [] [.callm [(100000, 100000)] [] (rM oz56) (oM oz56)], .r [] [.callm [(100000, 100000)] [] (rM oz57) (oM oz57)], .r [] [], .br false, .r [] [.callr (rO oz59)], .r [] [], .br true, .r [] []]) (G := [.drop [2, 4, 5], .weak 0 (AV.tup [AV.agg [i64 0, i64 0, i64 0, i64 0, i64 0, i64 0, i64 0, i8 0, i8 0, AV.sl 1 [], AV.sl 1 [], i32 0, i64 0, i8 0, i32 0, i64 0, i8 0, i8 0, i8 0], i64 (checkE (Nod.mk v_kd v_na 0 v_nk v_ns v_np v_no v_za 0 v_w v_b v_qm v_qs v_qz 0 0 0 v_lo v_hi))]), .sort]) Try.func41 (by kernel_rfl) (.c oz0 <| .c oz1 <| .c oz2 <| .c oz3 <| .c oz4 <| .c oz5 <| .c oz6 <| .c oz7 <| .c oz8 <| .c oz9 <| .c oz10 <| .c oz11 <| .c oz12 <| .c oz7 <| .c oz8 <| .c oz9 <| .c oz16 <| .c oz16 <| .c oz16 <| .c oz10 <| .c oz10 <| .c oz21 <| .c (show (0 : Int) ≤ (2 : Int) by omega) <| .c (show (2 : Int) < (↑(6 : Nat) : Int) by omega) <| .c oz24 <| .c oz10 <| .c oz26 <| .c (show (0 : Int) ≤ (3 : Int) by omega) <| .c (show (3 : Int) < (↑(6 : Nat) : Int) by omega) <| .c oz29 <| .c oz10 <| .c oz31 <| .c oz3 <| .c oz4 <| .c oz5 <| .c oz6 <| .c (show (0 : Int) ≤ (4 : Int) by omega) <| .c (show (4 : Int) < (↑(6 : Nat) : Int) by omega) <| .c oz38 <| .c oz10 <| .c oz40 <| .c oz41 <| .c oz42 <| .c oz43 <| .c (show (0 : Int) ≤ (5 : Int) by omega) <| .c (show (5 : Int) < (↑(6 : Nat) : Int) by omega) <| .c oz46 <| .c oz10 <| .c oz48 <| .c (IntWalk.i32_in v_qm (by omega)) <| .c oz50 <| .c oz51 <| .c oz3 <| .c oz4 <| .c oz5 <| .c oz6 <| .c oz56 <| .c oz57 <| .c (show (r16.snd != 0) = false by (simp; omega)) <| .c oz59 <| .c (show (checkE (Nod.mk v_kd v_na 0 v_nk v_ns v_np v_no v_za 0 v_w v_b v_qm v_qs v_qz 0 0 0 v_lo v_hi) != 0) = true by (simp; omega)) <| .c (show Weak (AV.tup [AV.agg [i64 0, i64 0, i64 0, i64 0, i64 0, i64 0, i64 0, i8 0, i8 0, AV.lit (Value.slice none 0 0), AV.lit (Value.slice none 0 0), i32 0, i64 0, i8 0, i32 0, i64 0, i8 0, i8 0, i8 0], i64 (checkE (Nod.mk v_kd v_na 0 v_nk v_ns v_np v_no v_za 0 v_w v_b v_qm v_qs v_qz 0 0 0 v_lo v_hi))]) (AV.tup [AV.agg [i64 0, i64 0, i64 0, i64 0, i64 0, i64 0, i64 0, i8 0, i8 0, AV.sl 1 [], AV.sl 1 [], i32 0, i64 0, i8 0, i32 0, i64 0, i8 0, i8 0, i8 0], i64 (checkE (Nod.mk v_kd v_na 0 v_nk v_ns v_np v_no v_za 0 v_w v_b v_qm v_qs v_qz 0 0 0 v_lo v_hi))]) from (Weak.tup (.cons (Weak.agg (.cons (.refl _) (.cons (.refl _) (.cons (.refl _) (.cons (.refl _) (.cons (.refl _) (.cons (.refl _) (.cons (.refl _) (.cons (.refl _) (.cons (.refl _) (.cons (Weak.nil _) (.cons (Weak.nil _) (.cons (.refl _) (.cons (.refl _) (.cons (.refl _) (.cons (.refl _) (.cons (.refl _) (.cons (.refl _) (.cons (.refl _) (.cons (.refl _) .nil)))))))))))))))))))) (.cons (.refl _) .nil)))) <| .n)

set_option maxRecDepth 100000 in
set_option maxHeartbeats 2000000 in
theorem rw_1y (xs : List Int) (r r1 r2 r3 r4 r5 r6 r7 r8 r9 r10 r11 r12 r13 r14 r15 r16 : Rrf) (v_kd v_na v_nk v_ns v_np v_no v_za v_cw v_cb v_qm v_qs v_qz v_lo v_hi : Int) (v_w v_b : List Int) (g1 : VM Try.prog 109 [.ptr 100000 0 0, i64 9] [(100000, .var (rrC xs r))] (i64 v_kd) [(100000, .var (rrC xs r1))]) (g2 : VM Try.prog 109 [.ptr 100000 0 0, i64 1024] [(100000, .var (rrC xs r1))] (i64 v_na) [(100000, .var (rrC xs r2))]) (g3 : VM Try.prog 109 [.ptr 100000 0 0, i64 1024] [(100000, .var (rrC xs r2))] (i64 v_nk) [(100000, .var (rrC xs r3))]) (g4 : VM Try.prog 109 [.ptr 100000 0 0, i64 1024] [(100000, .var (rrC xs r3))] (i64 v_ns) [(100000, .var (rrC xs r4))]) (g5 : VM Try.prog 109 [.ptr 100000 0 0, i64 1024] [(100000, .var (rrC xs r4))] (i64 v_np) [(100000, .var (rrC xs r5))]) (g6 : VM Try.prog 109 [.ptr 100000 0 0, i64 1024] [(100000, .var (rrC xs r5))] (i64 v_no) [(100000, .var (rrC xs r6))]) (g7 : VM Try.prog 111 [.ptr 100000 0 0] [(100000, .var (rrC xs r6))] (i8 v_za) [(100000, .var (rrC xs r7))]) (g8 : VM Try.prog 109 [.ptr 100000 0 0, i64 16384] [(100000, .var (rrC xs r7))] (i64 v_cw) [(100000, .var (rrC xs r8))]) (g9 : VM Try.prog 112 [.ptr 100000 0 0, i64 v_cw] [(100000, .var (rrC xs r8))] (.sl 1 (v_w.map (row1 .i8))) [(100000, .var (rrC xs r9))]) (g10 : VM Try.prog 109 [.ptr 100000 0 0, i64 16384] [(100000, .var (rrC xs r9))] (i64 v_cb) [(100000, .var (rrC xs r10))]) (g11 : VM Try.prog 113 [.ptr 100000 0 0, i64 v_cb] [(100000, .var (rrC xs r10))] (.sl 1 (v_b.map (row1 .i32))) [(100000, .var (rrC xs r11))]) (g12 : VM Try.prog 109 [.ptr 100000 0 0, i64 2147483647] [(100000, .var (rrC xs r11))] (i64 v_qm) [(100000, .var (rrC xs r12))]) (g13 : VM Try.prog 109 [.ptr 100000 0 0, i64 62] [(100000, .var (rrC xs r12))] (i64 v_qs) [(100000, .var (rrC xs r13))]) (g14 : VM Try.prog 111 [.ptr 100000 0 0] [(100000, .var (rrC xs r13))] (i8 v_qz) [(100000, .var (rrC xs r14))]) (g15 : VM Try.prog 111 [.ptr 100000 0 0] [(100000, .var (rrC xs r14))] (i8 v_lo) [(100000, .var (rrC xs r15))]) (g16 : VM Try.prog 111 [.ptr 100000 0 0] [(100000, .var (rrC xs r15))] (i8 v_hi) [(100000, .var (rrC xs r16))]) (hk : v_kd = 1) (h9 : In64 v_kd) (h_qm : 0 ≤ v_qm ∧ v_qm ≤ 2147483647) (hbad : r16.2 = 0) (hw : v_w.length ≤ 100000) (hb : v_b.length ≤ 100000) (hc : checkE (⟨v_kd, v_na, 0, v_nk, v_ns, v_np, v_no, v_za, 0, v_w, v_b, v_qm, v_qs, v_qz, 0, 0, 0, v_lo, v_hi⟩ : Nod) = 0) : VM Try.prog 41 ([.ptr 100000 0 0]) ([(100000, .var (rrC xs r))]) (.tup [nod (⟨v_kd, v_na, 0, v_nk, v_ns, v_np, v_no, v_za, 0, v_w, v_b, v_qm, v_qs, v_qz, 0, 0, 0, v_lo, v_hi⟩ : Nod), i64 0]) ([(100000, .var (rrC xs r16))]) := by
  have oz0 := @g1
  have oz1 := @g2
  have oz2 := @tells_1 (v_kd) hk
  have oz3 := (show (0 : Int) ≤ (0 : Int) by omega)
  have oz4 := (show (0 : Int) < (↑(6 : Nat) : Int) by omega)
  have oz5 := (show [[bv false], [bv true], [bv true], [bv true], [bv true], [bv true]][(0 : Nat)]? = some [bv false] from rfl)
  have oz6 := (show false = false by with_reducible rfl)
  have oz7 := (show (0 : Int) ≤ (1 : Int) by omega)
  have oz8 := (show (1 : Int) < (↑(6 : Nat) : Int) by omega)
  have oz9 := (show [[bv false], [bv true], [bv true], [bv true], [bv true], [bv true]][(1 : Nat)]? = some [bv true] from rfl)
  have oz10 := (show true = true by with_reducible rfl)
  have oz11 := @g3
  have oz12 := @g4
  have oz16 := (show true = !false by (simp; done))
  have oz21 := @g5
  have oz24 := (show [[bv false], [bv true], [bv true], [bv true], [bv true], [bv true]][(2 : Nat)]? = some [bv true] from rfl)
  have oz26 := @g6
  have oz29 := (show [[bv false], [bv true], [bv true], [bv true], [bv true], [bv true]][(3 : Nat)]? = some [bv true] from rfl)
  have oz31 := @g7
  have oz38 := (show [[bv false], [bv true], [bv true], [bv true], [bv true], [bv true]][(4 : Nat)]? = some [bv true] from rfl)
  have oz40 := @g8
  have oz41 := @g9
  have oz42 := @g10
  have oz43 := @g11
  have oz46 := (show [[bv false], [bv true], [bv true], [bv true], [bv true], [bv true]][(5 : Nat)]? = some [bv true] from rfl)
  have oz48 := @g12
  have oz50 := @g13
  have oz51 := @g14
  have oz56 := @g15
  have oz57 := @g16
  have oz59 := @refCheck_v (Nod.mk v_kd v_na 0 v_nk v_ns v_np v_no v_za 0 v_w v_b v_qm v_qs v_qz 0 0 0 v_lo v_hi) hw hb h9
  exact VM.run (fn := Try.f41) (W := [.r [] [], .r [] [.callm [(100000, 100000)] [] (rM oz0) (oM oz0), .callm [(100000, 100000)] [] (rM oz1) (oM oz1)], .r [] [.callr (rO oz2)], .r [] [.row (sO oz5)], .br false, .r [] [.row (sO oz9)], .br true, .r [] [.callm [(100000, 100000)] [] (rM oz11) (oM oz11)], .r [] [.callm [(100000, 100000)] [] (rM oz12) (oM oz12)], .r [] [.row (sO oz9), .br false, .br false, .br false, .br true], .br true, .r [] [.callm [(100000, 100000)] [] (rM oz21) (oM oz21)], .r [] [.row (sO oz24)], .br true, .r [] [.callm [(100000, 100000)] [] (rM oz26) (oM oz26)], .r [] [.row (sO oz29)], .br true, .r [] [.callm [(100000, 100000)] [] (rM oz31) (oM oz31)], .r [] [.row (sO oz5)], .br false, .r [] [.row (sO oz38)], .br true, .r [] [.callm [(100000, 100000)] [] (rM oz40) (oM oz40), .callm [(100000, 100000)] [] (rM oz41) (oM oz41)], .r [] [.callm [(100000, 100000)] [] (rM oz42) (oM oz42), .callm [(100000, 100000)] [] (rM oz43) (oM oz43)], .r [] [.row (sO oz46)], .br true, .r [] [.callm [(100000, 100000)] [] (rM oz48) (oM oz48), .n v_qm, .callm [(100000, 100000)] [] (rM oz50) (oM oz50), .callm [(100000, 100000)] [] (rM oz51) (oM oz51)], .r [] [.row (sO oz5)], .br false, .r [] [.callm [(100000, 100000)] [] (rM oz56) (oM oz56)], .r [] [.callm [(100000, 100000)] [] (rM oz57) (oM oz57)], .r [] [], .br false, .r [] [.callr (rO oz59)], .r [] [], .br false, .r [] []]) (G := [.drop [2, 4, 5], .sort]) Try.func41 (by kernel_rfl) (.c oz0 <| .c oz1 <| .c oz2 <| .c oz3 <| .c oz4 <| .c oz5 <| .c oz6 <| .c oz7 <| .c oz8 <| .c oz9 <| .c oz10 <| .c oz11 <| .c oz12 <| .c oz7 <| .c oz8 <| .c oz9 <| .c oz16 <| .c oz16 <| .c oz16 <| .c oz10 <| .c oz10 <| .c oz21 <| .c (show (0 : Int) ≤ (2 : Int) by omega) <| .c (show (2 : Int) < (↑(6 : Nat) : Int) by omega) <| .c oz24 <| .c oz10 <| .c oz26 <| .c (show (0 : Int) ≤ (3 : Int) by omega) <| .c (show (3 : Int) < (↑(6 : Nat) : Int) by omega) <| .c oz29 <| .c oz10 <| .c oz31 <| .c oz3 <| .c oz4 <| .c oz5 <| .c oz6 <| .c (show (0 : Int) ≤ (4 : Int) by omega) <| .c (show (4 : Int) < (↑(6 : Nat) : Int) by omega) <| .c oz38 <| .c oz10 <| .c oz40 <| .c oz41 <| .c oz42 <| .c oz43 <| .c (show (0 : Int) ≤ (5 : Int) by omega) <| .c (show (5 : Int) < (↑(6 : Nat) : Int) by omega) <| .c oz46 <| .c oz10 <| .c oz48 <| .c (IntWalk.i32_in v_qm (by omega)) <| .c oz50 <| .c oz51 <| .c oz3 <| .c oz4 <| .c oz5 <| .c oz6 <| .c oz56 <| .c oz57 <| .c (show (r16.snd != 0) = false by (simp; omega)) <| .c oz59 <| .c (show (checkE (Nod.mk v_kd v_na 0 v_nk v_ns v_np v_no v_za 0 v_w v_b v_qm v_qs v_qz 0 0 0 v_lo v_hi) != 0) = false by (simp; omega)) <| .n)

set_option maxRecDepth 100000 in
set_option maxHeartbeats 2000000 in
theorem rw_2b (xs : List Int) (r r1 r2 r3 r4 r5 r6 r7 r8 r9 r10 r11 r12 r13 r14 r15 : Rrf) (v_kd v_na v_nk v_ns v_np v_za v_cw v_cb v_qm v_qs v_qz v_lo v_hi : Int) (v_w v_b : List Int) (g1 : VM Try.prog 109 [.ptr 100000 0 0, i64 9] [(100000, .var (rrC xs r))] (i64 v_kd) [(100000, .var (rrC xs r1))]) (g2 : VM Try.prog 109 [.ptr 100000 0 0, i64 1024] [(100000, .var (rrC xs r1))] (i64 v_na) [(100000, .var (rrC xs r2))]) (g3 : VM Try.prog 109 [.ptr 100000 0 0, i64 1024] [(100000, .var (rrC xs r2))] (i64 v_nk) [(100000, .var (rrC xs r3))]) (g4 : VM Try.prog 109 [.ptr 100000 0 0, i64 1024] [(100000, .var (rrC xs r3))] (i64 v_ns) [(100000, .var (rrC xs r4))]) (g5 : VM Try.prog 109 [.ptr 100000 0 0, i64 1024] [(100000, .var (rrC xs r4))] (i64 v_np) [(100000, .var (rrC xs r5))]) (g6 : VM Try.prog 111 [.ptr 100000 0 0] [(100000, .var (rrC xs r5))] (i8 v_za) [(100000, .var (rrC xs r6))]) (g7 : VM Try.prog 109 [.ptr 100000 0 0, i64 16384] [(100000, .var (rrC xs r6))] (i64 v_cw) [(100000, .var (rrC xs r7))]) (g8 : VM Try.prog 112 [.ptr 100000 0 0, i64 v_cw] [(100000, .var (rrC xs r7))] (.sl 1 (v_w.map (row1 .i8))) [(100000, .var (rrC xs r8))]) (g9 : VM Try.prog 109 [.ptr 100000 0 0, i64 16384] [(100000, .var (rrC xs r8))] (i64 v_cb) [(100000, .var (rrC xs r9))]) (g10 : VM Try.prog 113 [.ptr 100000 0 0, i64 v_cb] [(100000, .var (rrC xs r9))] (.sl 1 (v_b.map (row1 .i32))) [(100000, .var (rrC xs r10))]) (g11 : VM Try.prog 109 [.ptr 100000 0 0, i64 2147483647] [(100000, .var (rrC xs r10))] (i64 v_qm) [(100000, .var (rrC xs r11))]) (g12 : VM Try.prog 109 [.ptr 100000 0 0, i64 62] [(100000, .var (rrC xs r11))] (i64 v_qs) [(100000, .var (rrC xs r12))]) (g13 : VM Try.prog 111 [.ptr 100000 0 0] [(100000, .var (rrC xs r12))] (i8 v_qz) [(100000, .var (rrC xs r13))]) (g14 : VM Try.prog 111 [.ptr 100000 0 0] [(100000, .var (rrC xs r13))] (i8 v_lo) [(100000, .var (rrC xs r14))]) (g15 : VM Try.prog 111 [.ptr 100000 0 0] [(100000, .var (rrC xs r14))] (i8 v_hi) [(100000, .var (rrC xs r15))]) (hk : v_kd = 2) (h9 : In64 v_kd) (h_qm : 0 ≤ v_qm ∧ v_qm ≤ 2147483647) (hbad : r15.2 ≠ 0) : VM Try.prog 41 ([.ptr 100000 0 0]) ([(100000, .var (rrC xs r))]) (.tup [.agg [i64 0, i64 0, i64 0, i64 0, i64 0, i64 0, i64 0, i8 0, i8 0, .sl 1 [], .sl 1 [], i32 0, i64 0, i8 0, i32 0, i64 0, i8 0, i8 0, i8 0], i64 r15.2]) ([(100000, .var (rrC xs r15))]) := by
  have oz0 := @g1
  have oz1 := @g2
  have oz2 := @tells_2 (v_kd) hk
  have oz3 := (show (0 : Int) ≤ (0 : Int) by omega)
  have oz4 := (show (0 : Int) < (↑(6 : Nat) : Int) by omega)
  have oz5 := (show [[bv false], [bv true], [bv false], [bv true], [bv true], [bv true]][(0 : Nat)]? = some [bv false] from rfl)
  have oz6 := (show false = false by with_reducible rfl)
  have oz7 := (show (0 : Int) ≤ (1 : Int) by omega)
  have oz8 := (show (1 : Int) < (↑(6 : Nat) : Int) by omega)
  have oz9 := (show [[bv false], [bv true], [bv false], [bv true], [bv true], [bv true]][(1 : Nat)]? = some [bv true] from rfl)
  have oz10 := (show true = true by with_reducible rfl)
  have oz11 := @g3
  have oz12 := @g4
  have oz16 := (show true = !false by (simp; done))
  have oz21 := @g5
  have oz24 := (show [[bv false], [bv true], [bv false], [bv true], [bv true], [bv true]][(2 : Nat)]? = some [bv false] from rfl)
  have oz28 := (show [[bv false], [bv true], [bv false], [bv true], [bv true], [bv true]][(3 : Nat)]? = some [bv true] from rfl)
  have oz30 := @g6
  have oz37 := (show [[bv false], [bv true], [bv false], [bv true], [bv true], [bv true]][(4 : Nat)]? = some [bv true] from rfl)
  have oz39 := @g7
  have oz40 := @g8
  have oz41 := @g9
  have oz42 := @g10
  have oz45 := (show [[bv false], [bv true], [bv false], [bv true], [bv true], [bv true]][(5 : Nat)]? = some [bv true] from rfl)
  have oz47 := @g11
  have oz49 := @g12
  have oz50 := @g13
  have oz55 := @g14
  have oz56 := @g15
  exact VM.run (fn := Try.f41) (W := [.r [] [], .r [] [.callm [(100000, 100000)] [] (rM oz0) (oM oz0), .callm [(100000, 100000)] [] (rM oz1) (oM oz1)], .r [] [.callr (rO oz2)], .r [] [.row (sO oz5)], .br false, .r [] [.row (sO oz9)], .br true, .r [] [.callm [(100000, 100000)] [] (rM oz11) (oM oz11)], .r [] [.callm [(100000, 100000)] [] (rM oz12) (oM oz12)], .r [] [.row (sO oz9), .br false, .br false, .br false, .br true], .br true, .r [] [.callm [(100000, 100000)] [] (rM oz21) (oM oz21)], .r [] [.row (sO oz24)], .br false, .r [] [.row (sO oz28)], .br true, .r [] [.callm [(100000, 100000)] [] (rM oz30) (oM oz30)], .r [] [.row (sO oz5)], .br false, .r [] [.row (sO oz37)], .br true, .r [] [.callm [(100000, 100000)] [] (rM oz39) (oM oz39), .callm [(100000, 100000)] [] (rM oz40) (oM oz40)], .r [] [.callm [(100000, 100000)] [] (rM oz41) (oM oz41), .callm [(100000, 100000)] [] (rM oz42) (oM oz42)], .r [] [.row (sO oz45)], .br true, .r [] [.callm [(100000, 100000)] [] (rM oz47) (oM oz47), .n v_qm, .callm [(100000, 100000)] [] (rM oz49) (oM oz49), .callm [(100000, 100000)] [] (rM oz50) (oM oz50)], .r [] [.row (sO oz5)], .br false, .r [] [.callm [(100000, 100000)] [] (rM oz55) (oM oz55)], .r [] [.callm [(100000, 100000)] [] (rM oz56) (oM oz56)], .r [] [], .br true, .r [] []]) (G := [.drop [2, 4, 5], .weak 0 (AV.tup [AV.agg [i64 0, i64 0, i64 0, i64 0, i64 0, i64 0, i64 0, i8 0, i8 0, AV.sl 1 [], AV.sl 1 [], i32 0, i64 0, i8 0, i32 0, i64 0, i8 0, i8 0, i8 0], i64 r15.snd]), .sort]) Try.func41 (by kernel_rfl) (.c oz0 <| .c oz1 <| .c oz2 <| .c oz3 <| .c oz4 <| .c oz5 <| .c oz6 <| .c oz7 <| .c oz8 <| .c oz9 <| .c oz10 <| .c oz11 <| .c oz12 <| .c oz7 <| .c oz8 <| .c oz9 <| .c oz16 <| .c oz16 <| .c oz16 <| .c oz10 <| .c oz10 <| .c oz21 <| .c (show (0 : Int) ≤ (2 : Int) by omega) <| .c (show (2 : Int) < (↑(6 : Nat) : Int) by omega) <| .c oz24 <| .c oz6 <| .c (show (0 : Int) ≤ (3 : Int) by omega) <| .c (show (3 : Int) < (↑(6 : Nat) : Int) by omega) <| .c oz28 <| .c oz10 <| .c oz30 <| .c oz3 <| .c oz4 <| .c oz5 <| .c oz6 <| .c (show (0 : Int) ≤ (4 : Int) by omega) <| .c (show (4 : Int) < (↑(6 : Nat) : Int) by omega) <| .c oz37 <| .c oz10 <| .c oz39 <| .c oz40 <| .c oz41 <| .c oz42 <| .c (show (0 : Int) ≤ (5 : Int) by omega) <| .c (show (5 : Int) < (↑(6 : Nat) : Int) by omega) <| .c oz45 <| .c oz10 <| .c oz47 <| .c (IntWalk.i32_in v_qm (by omega)) <| .c oz49 <| .c oz50 <| .c oz3 <| .c oz4 <| .c oz5 <| .c oz6 <| .c oz55 <| .c oz56 <| .c (show (r15.snd != 0) = true by (simp; omega)) <| .c (show Weak (AV.tup [AV.agg [i64 0, i64 0, i64 0, i64 0, i64 0, i64 0, i64 0, i8 0, i8 0, AV.lit (Value.slice none 0 0), AV.lit (Value.slice none 0 0), i32 0, i64 0, i8 0, i32 0, i64 0, i8 0, i8 0, i8 0], i64 r15.snd]) (AV.tup [AV.agg [i64 0, i64 0, i64 0, i64 0, i64 0, i64 0, i64 0, i8 0, i8 0, AV.sl 1 [], AV.sl 1 [], i32 0, i64 0, i8 0, i32 0, i64 0, i8 0, i8 0, i8 0], i64 r15.snd]) from (Weak.tup (.cons (Weak.agg (.cons (.refl _) (.cons (.refl _) (.cons (.refl _) (.cons (.refl _) (.cons (.refl _) (.cons (.refl _) (.cons (.refl _) (.cons (.refl _) (.cons (.refl _) (.cons (Weak.nil _) (.cons (Weak.nil _) (.cons (.refl _) (.cons (.refl _) (.cons (.refl _) (.cons (.refl _) (.cons (.refl _) (.cons (.refl _) (.cons (.refl _) (.cons (.refl _) .nil)))))))))))))))))))) (.cons (.refl _) .nil)))) <| .n)

set_option maxRecDepth 100000 in
set_option maxHeartbeats 2000000 in
theorem rw_2c (xs : List Int) (r r1 r2 r3 r4 r5 r6 r7 r8 r9 r10 r11 r12 r13 r14 r15 : Rrf) (v_kd v_na v_nk v_ns v_np v_za v_cw v_cb v_qm v_qs v_qz v_lo v_hi : Int) (v_w v_b : List Int) (g1 : VM Try.prog 109 [.ptr 100000 0 0, i64 9] [(100000, .var (rrC xs r))] (i64 v_kd) [(100000, .var (rrC xs r1))]) (g2 : VM Try.prog 109 [.ptr 100000 0 0, i64 1024] [(100000, .var (rrC xs r1))] (i64 v_na) [(100000, .var (rrC xs r2))]) (g3 : VM Try.prog 109 [.ptr 100000 0 0, i64 1024] [(100000, .var (rrC xs r2))] (i64 v_nk) [(100000, .var (rrC xs r3))]) (g4 : VM Try.prog 109 [.ptr 100000 0 0, i64 1024] [(100000, .var (rrC xs r3))] (i64 v_ns) [(100000, .var (rrC xs r4))]) (g5 : VM Try.prog 109 [.ptr 100000 0 0, i64 1024] [(100000, .var (rrC xs r4))] (i64 v_np) [(100000, .var (rrC xs r5))]) (g6 : VM Try.prog 111 [.ptr 100000 0 0] [(100000, .var (rrC xs r5))] (i8 v_za) [(100000, .var (rrC xs r6))]) (g7 : VM Try.prog 109 [.ptr 100000 0 0, i64 16384] [(100000, .var (rrC xs r6))] (i64 v_cw) [(100000, .var (rrC xs r7))]) (g8 : VM Try.prog 112 [.ptr 100000 0 0, i64 v_cw] [(100000, .var (rrC xs r7))] (.sl 1 (v_w.map (row1 .i8))) [(100000, .var (rrC xs r8))]) (g9 : VM Try.prog 109 [.ptr 100000 0 0, i64 16384] [(100000, .var (rrC xs r8))] (i64 v_cb) [(100000, .var (rrC xs r9))]) (g10 : VM Try.prog 113 [.ptr 100000 0 0, i64 v_cb] [(100000, .var (rrC xs r9))] (.sl 1 (v_b.map (row1 .i32))) [(100000, .var (rrC xs r10))]) (g11 : VM Try.prog 109 [.ptr 100000 0 0, i64 2147483647] [(100000, .var (rrC xs r10))] (i64 v_qm) [(100000, .var (rrC xs r11))]) (g12 : VM Try.prog 109 [.ptr 100000 0 0, i64 62] [(100000, .var (rrC xs r11))] (i64 v_qs) [(100000, .var (rrC xs r12))]) (g13 : VM Try.prog 111 [.ptr 100000 0 0] [(100000, .var (rrC xs r12))] (i8 v_qz) [(100000, .var (rrC xs r13))]) (g14 : VM Try.prog 111 [.ptr 100000 0 0] [(100000, .var (rrC xs r13))] (i8 v_lo) [(100000, .var (rrC xs r14))]) (g15 : VM Try.prog 111 [.ptr 100000 0 0] [(100000, .var (rrC xs r14))] (i8 v_hi) [(100000, .var (rrC xs r15))]) (hk : v_kd = 2) (h9 : In64 v_kd) (h_qm : 0 ≤ v_qm ∧ v_qm ≤ 2147483647) (hbad : r15.2 = 0) (hw : v_w.length ≤ 100000) (hb : v_b.length ≤ 100000) (hc : checkE (⟨v_kd, v_na, 0, v_nk, v_ns, v_np, 0, v_za, 0, v_w, v_b, v_qm, v_qs, v_qz, 0, 0, 0, v_lo, v_hi⟩ : Nod) ≠ 0) : VM Try.prog 41 ([.ptr 100000 0 0]) ([(100000, .var (rrC xs r))]) (.tup [.agg [i64 0, i64 0, i64 0, i64 0, i64 0, i64 0, i64 0, i8 0, i8 0, .sl 1 [], .sl 1 [], i32 0, i64 0, i8 0, i32 0, i64 0, i8 0, i8 0, i8 0], i64 (checkE (⟨v_kd, v_na, 0, v_nk, v_ns, v_np, 0, v_za, 0, v_w, v_b, v_qm, v_qs, v_qz, 0, 0, 0, v_lo, v_hi⟩ : Nod))]) ([(100000, .var (rrC xs r15))]) := by
  have oz0 := @g1
  have oz1 := @g2
  have oz2 := @tells_2 (v_kd) hk
  have oz3 := (show (0 : Int) ≤ (0 : Int) by omega)
  have oz4 := (show (0 : Int) < (↑(6 : Nat) : Int) by omega)
  have oz5 := (show [[bv false], [bv true], [bv false], [bv true], [bv true], [bv true]][(0 : Nat)]? = some [bv false] from rfl)
  have oz6 := (show false = false by with_reducible rfl)
  have oz7 := (show (0 : Int) ≤ (1 : Int) by omega)
  have oz8 := (show (1 : Int) < (↑(6 : Nat) : Int) by omega)
  have oz9 := (show [[bv false], [bv true], [bv false], [bv true], [bv true], [bv true]][(1 : Nat)]? = some [bv true] from rfl)
  have oz10 := (show true = true by with_reducible rfl)
  have oz11 := @g3
  have oz12 := @g4
  have oz16 := (show true = !false by (simp; done))
  have oz21 := @g5
  have oz24 := (show [[bv false], [bv true], [bv false], [bv true], [bv true], [bv true]][(2 : Nat)]? = some [bv false] from rfl)
  have oz28 := (show [[bv false], [bv true], [bv false], [bv true], [bv true], [bv true]][(3 : Nat)]? = some [bv true] from rfl)
  have oz30 := @g6
  have oz37 := (show [[bv false], [bv true], [bv false], [bv true], [bv true], [bv true]][(4 : Nat)]? = some [bv true] from rfl)
  have oz39 := @g7
  have oz40 := @g8
  have oz41 := @g9
  have oz42 := @g10
  have oz45 := (show [[bv false], [bv true], [bv false], [bv true], [bv true], [bv true]][(5 : Nat)]? = some [bv true] from rfl)
  have oz47 := @g11
  have oz49 := @g12
  have oz50 := @g13
  have oz55 := @g14
  have oz56 := @g15
  have oz58 := @refCheck_v (Nod.mk v_kd v_na 0 v_nk v_ns v_np 0 v_za 0 v_w v_b v_qm v_qs v_qz 0 0 0 v_lo v_hi) hw hb h9
  exact VM.run (fn := Try.f41) (W := [.r [] [], .r [] [.callm [(100000, 100000)] [] (rM oz0) (oM oz0), .callm [(100000, 100000)] [] (rM oz1) (oM oz1)], .r [] [.callr (rO oz2)], .r [] [.row (sO oz5)], .br false, .r [] [.row (sO oz9)], .br true, .r [] [.callm [(100000, 100000)] [] (rM oz11) (oM oz11)], .r [] [.callm [(100000, 100000)] [] (rM oz12) (oM oz12)], .r [] [.row (sO oz9), .br false, .br false, .br false, .br true], .br true, .r [] [.callm [(100000, 100000)] [] (rM oz21) (oM oz21)], .r [] [.row (sO oz24)], .br false, .r [] [.row (sO oz28)], .br true, .r [] [.callm [(100000, 100000)] [] (rM oz30) (oM oz30)], .r [] [.row (sO oz5)], .br false, .r [] [.row (sO oz37)], .br true, .r [] [.callm [(100000, 100000)] [] (rM oz39) (oM oz39), .callm [(100000, 100000)] [] (rM oz40) (oM oz40)], .r [] [.callm [(100000, 100000)] [] (rM oz41) (oM oz41), .callm [(100000, 100000)] [] (rM oz42) (oM oz42)], .r [] [.row (sO oz45)], .br true, .r [] [.callm [(100000, 100000)] [] (rM oz47) (oM oz47), .n v_qm, .callm [(100000, 100000)] [] (rM oz49) (oM oz49), .callm [(100000, 100000)] [] (rM oz50) (oM oz50)], .r [] [.row (sO oz5)], .br false, .r [] [.callm [(100000, 100000)] [] (rM oz55) (oM oz55)], .r [] [.callm [(100000, 100000)] [] (rM oz56) (oM oz56)], .r [] [], .br false, .r [] [.callr (rO oz58)], .r [] [], .br true, .r [] []]) (G := [.drop [2, 4, 5], .weak 0 (AV.tup [AV.agg [i64 0, i64 0, i64 0, i64 0, i64 0, i64 0, i64 0, i8 0, i8 0, AV.sl 1 [], AV.sl 1 [], i32 0, i64 0, i8 0, i32 0, i64 0, i8 0, i8 0, i8 0], i64 (checkE (Nod.mk v_kd v_na 0 v_nk v_ns v_np 0 v_za 0 v_w v_b v_qm v_qs v_qz 0 0 0 v_lo v_hi))]), .sort]) Try.func41 (by kernel_rfl) (.c oz0 <| .c oz1 <| .c oz2 <| .c oz3 <| .c oz4 <| .c oz5 <| .c oz6 <| .c oz7 <| .c oz8 <| .c oz9 <| .c oz10 <| .c oz11 <| .c oz12 <| .c oz7 <| .c oz8 <| .c oz9 <| .c oz16 <| .c oz16 <| .c oz16 <| .c oz10 <| .c oz10 <| .c oz21 <| .c (show (0 : Int) ≤ (2 : Int) by omega) <| .c (show (2 : Int) < (↑(6 : Nat) : Int) by omega) <| .c oz24 <| .c oz6 <| .c (show (0 : Int) ≤ (3 : Int) by omega) <| .c (show (3 : Int) < (↑(6 : Nat) : Int) by omega) <| .c oz28 <| .c oz10 <| .c oz30 <| .c oz3 <| .c oz4 <| .c oz5 <| .c oz6 <| .c (show (0 : Int) ≤ (4 : Int) by omega) <| .c (show (4 : Int) < (↑(6 : Nat) : Int) by omega) <| .c oz37 <| .c oz10 <| .c oz39 <| .c oz40 <| .c oz41 <| .c oz42 <| .c (show (0 : Int) ≤ (5 : Int) by omega) <| .c (show (5 : Int) < (↑(6 : Nat) : Int) by omega) <| .c oz45 <| .c oz10 <| .c oz47 <| .c (IntWalk.i32_in v_qm (by omega)) <| .c oz49 <| .c oz50 <| .c oz3 <| .c oz4 <| .c oz5 <| .c oz6 <| .c oz55 <| .c oz56 <| .c (show (r15.snd != 0) = false by (simp; omega)) <| .c oz58 <| .c (show (checkE (Nod.mk v_kd v_na 0 v_nk v_ns v_np 0 v_za 0 v_w v_b v_qm v_qs v_qz 0 0 0 v_lo v_hi) != 0) = true by (simp; omega)) <| .c (show Weak (AV.tup [AV.agg [i64 0, i64 0, i64 0, i64 0, i64 0, i64 0, i64 0, i8 0, i8 0, AV.lit (Value.slice none 0 0), AV.lit (Value.slice none 0 0), i32 0, i64 0, i8 0, i32 0, i64 0, i8 0, i8 0, i8 0], i64 (checkE (Nod.mk v_kd v_na 0 v_nk v_ns v_np 0 v_za 0 v_w v_b v_qm v_qs v_qz 0 0 0 v_lo v_hi))]) (AV.tup [AV.agg [i64 0, i64 0, i64 0, i64 0, i64 0, i64 0, i64 0, i8 0, i8 0, AV.sl 1 [], AV.sl 1 [], i32 0, i64 0, i8 0, i32 0, i64 0, i8 0, i8 0, i8 0], i64 (checkE (Nod.mk v_kd v_na 0 v_nk v_ns v_np 0 v_za 0 v_w v_b v_qm v_qs v_qz 0 0 0 v_lo v_hi))]) from (Weak.tup (.cons (Weak.agg (.cons (.refl _) (.cons (.refl _) (.cons (.refl _) (.cons (.refl _) (.cons (.refl _) (.cons (.refl _) (.cons (.refl _) (.cons (.refl _) (.cons (.refl _) (.cons (Weak.nil _) (.cons (Weak.nil _) (.cons (.refl _) (.cons (.refl _) (.cons (.refl _) (.cons (.refl _) (.cons (.refl _) (.cons (.refl _) (.cons (.refl _) (.cons (.refl _) .nil)))))))))))))))))))) (.cons (.refl _) .nil)))) <| .n)

set_option maxRecDepth 100000 in
set_option maxHeartbeats 2000000 in
theorem rw_2y (xs : List Int) (r r1 r2 r3 r4 r5 r6 r7 r8 r9 r10 r11 r12 r13 r14 r15 : Rrf) (v_kd v_na v_nk v_ns v_np v_za v_cw v_cb v_qm v_qs v_qz v_lo v_hi : Int) (v_w v_b : List Int) (g1 : VM Try.prog 109 [.ptr 100000 0 0, i64 9] [(100000, .var (rrC xs r))] (i64 v_kd) [(100000, .var (rrC xs r1))]) (g2 : VM Try.prog 109 [.ptr 100000 0 0, i64 1024] [(100000, .var (rrC xs r1))] (i64 v_na) [(100000, .var (rrC xs r2))]) (g3 : VM Try.prog 109 [.ptr 100000 0 0, i64 1024] [(100000, .var (rrC xs r2))] (i64 v_nk) [(100000, .var (rrC xs r3))]) (g4 : VM Try.prog 109 [.ptr 100000 0 0, i64 1024] [(100000, .var (rrC xs r3))] (i64 v_ns) [(100000, .var (rrC xs r4))]) (g5 : VM Try.prog 109 [.ptr 100000 0 0, i64 1024] [(100000, .var (rrC xs r4))] (i64 v_np) [(100000, .var (rrC xs r5))]) (g6 : VM Try.prog 111 [.ptr 100000 0 0] [(100000, .var (rrC xs r5))] (i8 v_za) [(100000, .var (rrC xs r6))]) (g7 : VM Try.prog 109 [.ptr 100000 0 0, i64 16384] [(100000, .var (rrC xs r6))] (i64 v_cw) [(100000, .var (rrC xs r7))]) (g8 : VM Try.prog 112 [.ptr 100000 0 0, i64 v_cw] [(100000, .var (rrC xs r7))] (.sl 1 (v_w.map (row1 .i8))) [(100000, .var (rrC xs r8))]) (g9 : VM Try.prog 109 [.ptr 100000 0 0, i64 16384] [(100000, .var (rrC xs r8))] (i64 v_cb) [(100000, .var (rrC xs r9))]) (g10 : VM Try.prog 113 [.ptr 100000 0 0, i64 v_cb] [(100000, .var (rrC xs r9))] (.sl 1 (v_b.map (row1 .i32))) [(100000, .var (rrC xs r10))]) (g11 : VM Try.prog 109 [.ptr 100000 0 0, i64 2147483647] [(100000, .var (rrC xs r10))] (i64 v_qm) [(100000, .var (rrC xs r11))]) (g12 : VM Try.prog 109 [.ptr 100000 0 0, i64 62] [(100000, .var (rrC xs r11))] (i64 v_qs) [(100000, .var (rrC xs r12))]) (g13 : VM Try.prog 111 [.ptr 100000 0 0] [(100000, .var (rrC xs r12))] (i8 v_qz) [(100000, .var (rrC xs r13))]) (g14 : VM Try.prog 111 [.ptr 100000 0 0] [(100000, .var (rrC xs r13))] (i8 v_lo) [(100000, .var (rrC xs r14))]) (g15 : VM Try.prog 111 [.ptr 100000 0 0] [(100000, .var (rrC xs r14))] (i8 v_hi) [(100000, .var (rrC xs r15))]) (hk : v_kd = 2) (h9 : In64 v_kd) (h_qm : 0 ≤ v_qm ∧ v_qm ≤ 2147483647) (hbad : r15.2 = 0) (hw : v_w.length ≤ 100000) (hb : v_b.length ≤ 100000) (hc : checkE (⟨v_kd, v_na, 0, v_nk, v_ns, v_np, 0, v_za, 0, v_w, v_b, v_qm, v_qs, v_qz, 0, 0, 0, v_lo, v_hi⟩ : Nod) = 0) : VM Try.prog 41 ([.ptr 100000 0 0]) ([(100000, .var (rrC xs r))]) (.tup [nod (⟨v_kd, v_na, 0, v_nk, v_ns, v_np, 0, v_za, 0, v_w, v_b, v_qm, v_qs, v_qz, 0, 0, 0, v_lo, v_hi⟩ : Nod), i64 0]) ([(100000, .var (rrC xs r15))]) := by
  have oz0 := @g1
  have oz1 := @g2
  have oz2 := @tells_2 (v_kd) hk
  have oz3 := (show (0 : Int) ≤ (0 : Int) by omega)
  have oz4 := (show (0 : Int) < (↑(6 : Nat) : Int) by omega)
  have oz5 := (show [[bv false], [bv true], [bv false], [bv true], [bv true], [bv true]][(0 : Nat)]? = some [bv false] from rfl)
  have oz6 := (show false = false by with_reducible rfl)
  have oz7 := (show (0 : Int) ≤ (1 : Int) by omega)
  have oz8 := (show (1 : Int) < (↑(6 : Nat) : Int) by omega)
  have oz9 := (show [[bv false], [bv true], [bv false], [bv true], [bv true], [bv true]][(1 : Nat)]? = some [bv true] from rfl)
  have oz10 := (show true = true by with_reducible rfl)
  have oz11 := @g3
  have oz12 := @g4
  have oz16 := (show true = !false by (simp; done))
  have oz21 := @g5
  have oz24 := (show [[bv false], [bv true], [bv false], [bv true], [bv true], [bv true]][(2 : Nat)]? = some [bv false] from rfl)
  have oz28 := (show [[bv false], [bv true], [bv false], [bv true], [bv true], [bv true]][(3 : Nat)]? = some [bv true] from rfl)
  have oz30 := @g6
  have oz37 := (show [[bv false], [bv true], [bv false], [bv true], [bv true], [bv true]][(4 : Nat)]? = some [bv true] from rfl)
  have oz39 := @g7
  have oz40 := @g8
  have oz41 := @g9
  have oz42 := @g10
  have oz45 := (show [[bv false], [bv true], [bv false], [bv true], [bv true], [bv true]][(5 : Nat)]? = some [bv true] from rfl)
  have oz47 := @g11
  have oz49 := @g12
  have oz50 := @g13
  have oz55 := @g14
  have oz56 := @g15
  have oz58 := @refCheck_v (Nod.mk v_kd v_na 0 v_nk v_ns v_np 0 v_za 0 v_w v_b v_qm v_qs v_qz 0 0 0 v_lo v_hi) hw hb h9
  exact VM.run (fn := Try.f41) (W := [.r [] [], .r [] [.callm [(100000, 100000)] [] (rM oz0) (oM oz0), .callm [(100000, 100000)] [] (rM oz1) (oM oz1)], .r [] [.callr (rO oz2)], .r [] [.row (sO oz5)], .br false, .r [] [.row (sO oz9)], .br true, .r [] [.callm [(100000, 100000)] [] (rM oz11) (oM oz11)], .r [] [.callm [(100000, 100000)] [] (rM oz12) (oM oz12)], .r [] [.row (sO oz9), .br false, .br false, .br false, .br true], .br true, .r [] [.callm [(100000, 100000)] [] (rM oz21) (oM oz21)], .r [] [.row (sO oz24)], .br false, .r [] [.row (sO oz28)], .br true, .r [] [.callm [(100000, 100000)] [] (rM oz30) (oM oz30)], .r [] [.row (sO oz5)], .br false, .r [] [.row (sO oz37)], .br true, .r [] [.callm [(100000, 100000)] [] (rM oz39) (oM oz39), .callm [(100000, 100000)] [] (rM oz40) (oM oz40)], .r [] [.callm [(100000, 100000)] [] (rM oz41) (oM oz41), .callm [(100000, 100000)] [] (rM oz42) (oM oz42)], .r [] [.row (sO oz45)], .br true, .r [] [.callm [(100000, 100000)] [] (rM oz47) (oM oz47), .n v_qm, .callm [(100000, 100000)] [] (rM oz49) (oM oz49), .callm [(100000, 100000)] [] (rM oz50) (oM oz50)], .r [] [.row (sO oz5)], .br false, .r [] [.callm [(100000, 100000)] [] (rM oz55) (oM oz55)], .r [] [.callm [(100000, 100000)] [] (rM oz56) (oM oz56)], .r [] [], .br false, .r [] [.callr (rO oz58)], .r [] [], .br false, .r [] []]) (G := [.drop [2, 4, 5], .sort]) Try.func41 (by kernel_rfl) (.c oz0 <| .c oz1 <| .c oz2 <| .c oz3 <| .c oz4 <| .c oz5 <| .c oz6 <| .c oz7 <| .c oz8 <| .c oz9 <| .c oz10 <| .c oz11 <| .c oz12 <| .c oz7 <| .c oz8 <| .c oz9 <| .c oz16 <| .c oz16 <| .c oz16 <| .c oz10 <| .c oz10 <| .c oz21 <| .c (show (0 : Int) ≤ (2 : Int) by omega) <| .c (show (2 : Int) < (↑(6 : Nat) : Int) by omega) <| .c oz24 <| .c oz6 <| .c (show (0 : Int) ≤ (3 : Int) by omega) <| .c (show (3 : Int) < (↑(6 : Nat) : Int) by omega) <| .c oz28 <| .c oz10 <| .c oz30 <| .c oz3 <| .c oz4 <| .c oz5 <| .c oz6 <| .c (show (0 : Int) ≤ (4 : Int) by omega) <| .c (show (4 : Int) < (↑(6 : Nat) : Int) by omega) <| .c oz37 <| .c oz10 <| .c oz39 <| .c oz40 <| .c oz41 <| .c oz42 <| .c (show (0 : Int) ≤ (5 : Int) by omega) <| .c (show (5 : Int) < (↑(6 : Nat) : Int) by omega) <| .c oz45 <| .c oz10 <| .c oz47 <| .c (IntWalk.i32_in v_qm (by omega)) <| .c oz49 <| .c oz50 <| .c oz3 <| .c oz4 <| .c oz5 <| .c oz6 <| .c oz55 <| .c oz56 <| .c (show (r15.snd != 0) = false by (simp; omega)) <| .c oz58 <| .c (show (checkE (Nod.mk v_kd v_na 0 v_nk v_ns v_np 0 v_za 0 v_w v_b v_qm v_qs v_qz 0 0 0 v_lo v_hi) != 0) = false by (simp; omega)) <| .n)

set_option maxRecDepth 100000 in
set_option maxHeartbeats 2000000 in
theorem rw_3b (xs : List Int) (r r1 r2 r3 r4 r5 r6 r7 r8 r9 r10 r11 r12 r13 : Rrf) (v_kd v_na v_no v_za v_cw v_cb v_qm v_qs v_qz v_lo v_hi : Int) (v_w v_b : List Int) (g1 : VM Try.prog 109 [.ptr 100000 0 0, i64 9] [(100000, .var (rrC xs r))] (i64 v_kd) [(100000, .var (rrC xs r1))]) (g2 : VM Try.prog 109 [.ptr 100000 0 0, i64 1024] [(100000, .var (rrC xs r1))] (i64 v_na) [(100000, .var (rrC xs r2))]) (g3 : VM Try.prog 109 [.ptr 100000 0 0, i64 1024] [(100000, .var (rrC xs r2))] (i64 v_no) [(100000, .var (rrC xs r3))]) (g4 : VM Try.prog 111 [.ptr 100000 0 0] [(100000, .var (rrC xs r3))] (i8 v_za) [(100000, .var (rrC xs r4))]) (g5 : VM Try.prog 109 [.ptr 100000 0 0, i64 16384] [(100000, .var (rrC xs r4))] (i64 v_cw) [(100000, .var (rrC xs r5))]) (g6 : VM Try.prog 112 [.ptr 100000 0 0, i64 v_cw] [(100000, .var (rrC xs r5))] (.sl 1 (v_w.map (row1 .i8))) [(100000, .var (rrC xs r6))]) (g7 : VM Try.prog 109 [.ptr 100000 0 0, i64 16384] [(100000, .var (rrC xs r6))] (i64 v_cb) [(100000, .var (rrC xs r7))]) (g8 : VM Try.prog 113 [.ptr 100000 0 0, i64 v_cb] [(100000, .var (rrC xs r7))] (.sl 1 (v_b.map (row1 .i32))) [(100000, .var (rrC xs r8))]) (g9 : VM Try.prog 109 [.ptr 100000 0 0, i64 2147483647] [(100000, .var (rrC xs r8))] (i64 v_qm) [(100000, .var (rrC xs r9))]) (g10 : VM Try.prog 109 [.ptr 100000 0 0, i64 62] [(100000, .var (rrC xs r9))] (i64 v_qs) [(100000, .var (rrC xs r10))]) (g11 : VM Try.prog 111 [.ptr 100000 0 0] [(100000, .var (rrC xs r10))] (i8 v_qz) [(100000, .var (rrC xs r11))]) (g12 : VM Try.prog 111 [.ptr 100000 0 0] [(100000, .var (rrC xs r11))] (i8 v_lo) [(100000, .var (rrC xs r12))]) (g13 : VM Try.prog 111 [.ptr 100000 0 0] [(100000, .var (rrC xs r12))] (i8 v_hi) [(100000, .var (rrC xs r13))]) (hk : v_kd = 3) (h9 : In64 v_kd) (h_qm : 0 ≤ v_qm ∧ v_qm ≤ 2147483647) (hbad : r13.2 ≠ 0) : VM Try.prog 41 ([.ptr 100000 0 0]) ([(100000, .var (rrC xs r))]) (.tup [.agg [i64 0, i64 0, i64 0, i64 0, i64 0, i64 0, i64 0, i8 0, i8 0, .sl 1 [], .sl 1 [], i32 0, i64 0, i8 0, i32 0, i64 0, i8 0, i8 0, i8 0], i64 r13.2]) ([(100000, .var (rrC xs r13))]) := by
  have oz0 := @g1
  have oz1 := @g2
  have oz2 := @tells_3 (v_kd) hk
  have oz3 := (show (0 : Int) ≤ (0 : Int) by omega)
  have oz4 := (show (0 : Int) < (↑(6 : Nat) : Int) by omega)
  have oz5 := (show [[bv false], [bv false], [bv true], [bv true], [bv true], [bv true]][(0 : Nat)]? = some [bv false] from rfl)
  have oz6 := (show false = false by with_reducible rfl)
  have oz7 := (show (0 : Int) ≤ (1 : Int) by omega)
  have oz8 := (show (1 : Int) < (↑(6 : Nat) : Int) by omega)
  have oz9 := (show [[bv false], [bv false], [bv true], [bv true], [bv true], [bv true]][(1 : Nat)]? = some [bv false] from rfl)
  have oz21 := (show [[bv false], [bv false], [bv true], [bv true], [bv true], [bv true]][(2 : Nat)]? = some [bv true] from rfl)
  have oz22 := (show true = true by with_reducible rfl)
  have oz23 := @g3
  have oz26 := (show [[bv false], [bv false], [bv true], [bv true], [bv true], [bv true]][(3 : Nat)]? = some [bv true] from rfl)
  have oz28 := @g4
  have oz35 := (show [[bv false], [bv false], [bv true], [bv true], [bv true], [bv true]][(4 : Nat)]? = some [bv true] from rfl)
  have oz37 := @g5
  have oz38 := @g6
  have oz39 := @g7
  have oz40 := @g8
  have oz43 := (show [[bv false], [bv false], [bv true], [bv true], [bv true], [bv true]][(5 : Nat)]? = some [bv true] from rfl)
  have oz45 := @g9
  have oz47 := @g10
  have oz48 := @g11
  have oz53 := @g12
  have oz54 := @g13
  exact VM.run (fn := Try.f41) (W := [.r [] [], .r [] [.callm [(100000, 100000)] [] (rM oz0) (oM oz0), .callm [(100000, 100000)] [] (rM oz1) (oM oz1)], .r [] [.callr (rO oz2)], .r [] [.row (sO oz5)], .br false, .r [] [.row (sO oz5)], .br false, .r [] [.row (sO oz5), .br true, .br true, .br true, .br false], .br false, .r [] [.row (sO oz21)], .br true, .r [] [.callm [(100000, 100000)] [] (rM oz23) (oM oz23)], .r [] [.row (sO oz26)], .br true, .r [] [.callm [(100000, 100000)] [] (rM oz28) (oM oz28)], .r [] [.row (sO oz5)], .br false, .r [] [.row (sO oz35)], .br true, .r [] [.callm [(100000, 100000)] [] (rM oz37) (oM oz37), .callm [(100000, 100000)] [] (rM oz38) (oM oz38)], .r [] [.callm [(100000, 100000)] [] (rM oz39) (oM oz39), .callm [(100000, 100000)] [] (rM oz40) (oM oz40)], .r [] [.row (sO oz43)], .br true, .r [] [.callm [(100000, 100000)] [] (rM oz45) (oM oz45), .n v_qm, .callm [(100000, 100000)] [] (rM oz47) (oM oz47), .callm [(100000, 100000)] [] (rM oz48) (oM oz48)], .r [] [.row (sO oz5)], .br false, .r [] [.callm [(100000, 100000)] [] (rM oz53) (oM oz53)], .r [] [.callm [(100000, 100000)] [] (rM oz54) (oM oz54)], .r [] [], .br true, .r [] []]) (G := [.drop [2, 4, 5], .weak 0 (AV.tup [AV.agg [i64 0, i64 0, i64 0, i64 0, i64 0, i64 0, i64 0, i8 0, i8 0, AV.sl 1 [], AV.sl 1 [], i32 0, i64 0, i8 0, i32 0, i64 0, i8 0, i8 0, i8 0], i64 r13.snd]), .sort]) Try.func41 (by kernel_rfl) (.c oz0 <| .c oz1 <| .c oz2 <| .c oz3 <| .c oz4 <| .c oz5 <| .c oz6 <| .c oz7 <| .c oz8 <| .c oz9 <| .c oz6 <| .c oz7 <| .c oz8 <| .c oz9 <| .c oz6 <| .c oz6 <| .c oz6 <| .c oz6 <| .c (show (v_kd == 8) = false by (refine decide_eq_false ?_; omega)) <| .c (show (0 : Int) ≤ (2 : Int) by omega) <| .c (show (2 : Int) < (↑(6 : Nat) : Int) by omega) <| .c oz21 <| .c oz22 <| .c oz23 <| .c (show (0 : Int) ≤ (3 : Int) by omega) <| .c (show (3 : Int) < (↑(6 : Nat) : Int) by omega) <| .c oz26 <| .c oz22 <| .c oz28 <| .c oz3 <| .c oz4 <| .c oz5 <| .c oz6 <| .c (show (0 : Int) ≤ (4 : Int) by omega) <| .c (show (4 : Int) < (↑(6 : Nat) : Int) by omega) <| .c oz35 <| .c oz22 <| .c oz37 <| .c oz38 <| .c oz39 <| .c oz40 <| .c (show (0 : Int) ≤ (5 : Int) by omega) <| .c (show (5 : Int) < (↑(6 : Nat) : Int) by omega) <| .c oz43 <| .c oz22 <| .c oz45 <| .c (IntWalk.i32_in v_qm (by omega)) <| .c oz47 <| .c oz48 <| .c oz3 <| .c oz4 <| .c oz5 <| .c oz6 <| .c oz53 <| .c oz54 <| .c (show (r13.snd != 0) = true by (simp; omega)) <| .c (show Weak (AV.tup [AV.agg [i64 0, i64 0, i64 0, i64 0, i64 0, i64 0, i64 0, i8 0, i8 0, AV.lit (Value.slice none 0 0), AV.lit (Value.slice none 0 0), i32 0, i64 0, i8 0, i32 0, i64 0, i8 0, i8 0, i8 0], i64 r13.snd]) (AV.tup [AV.agg [i64 0, i64 0, i64 0, i64 0, i64 0, i64 0, i64 0, i8 0, i8 0, AV.sl 1 [], AV.sl 1 [], i32 0, i64 0, i8 0, i32 0, i64 0, i8 0, i8 0, i8 0], i64 r13.snd]) from (Weak.tup (.cons (Weak.agg (.cons (.refl _) (.cons (.refl _) (.cons (.refl _) (.cons (.refl _) (.cons (.refl _) (.cons (.refl _) (.cons (.refl _) (.cons (.refl _) (.cons (.refl _) (.cons (Weak.nil _) (.cons (Weak.nil _) (.cons (.refl _) (.cons (.refl _) (.cons (.refl _) (.cons (.refl _) (.cons (.refl _) (.cons (.refl _) (.cons (.refl _) (.cons (.refl _) .nil)))))))))))))))))))) (.cons (.refl _) .nil)))) <| .n)

set_option maxRecDepth 100000 in
set_option maxHeartbeats 2000000 in
theorem rw_3c (xs : List Int) (r r1 r2 r3 r4 r5 r6 r7 r8 r9 r10 r11 r12 r13 : Rrf) (v_kd v_na v_no v_za v_cw v_cb v_qm v_qs v_qz v_lo v_hi : Int) (v_w v_b : List Int) (g1 : VM Try.prog 109 [.ptr 100000 0 0, i64 9] [(100000, .var (rrC xs r))] (i64 v_kd) [(100000, .var (rrC xs r1))]) (g2 : VM Try.prog 109 [.ptr 100000 0 0, i64 1024] [(100000, .var (rrC xs r1))] (i64 v_na) [(100000, .var (rrC xs r2))]) (g3 : VM Try.prog 109 [.ptr 100000 0 0, i64 1024] [(100000, .var (rrC xs r2))] (i64 v_no) [(100000, .var (rrC xs r3))]) (g4 : VM Try.prog 111 [.ptr 100000 0 0] [(100000, .var (rrC xs r3))] (i8 v_za) [(100000, .var (rrC xs r4))]) (g5 : VM Try.prog 109 [.ptr 100000 0 0, i64 16384] [(100000, .var (rrC xs r4))] (i64 v_cw) [(100000, .var (rrC xs r5))]) (g6 : VM Try.prog 112 [.ptr 100000 0 0, i64 v_cw] [(100000, .var (rrC xs r5))] (.sl 1 (v_w.map (row1 .i8))) [(100000, .var (rrC xs r6))]) (g7 : VM Try.prog 109 [.ptr 100000 0 0, i64 16384] [(100000, .var (rrC xs r6))] (i64 v_cb) [(100000, .var (rrC xs r7))]) (g8 : VM Try.prog 113 [.ptr 100000 0 0, i64 v_cb] [(100000, .var (rrC xs r7))] (.sl 1 (v_b.map (row1 .i32))) [(100000, .var (rrC xs r8))]) (g9 : VM Try.prog 109 [.ptr 100000 0 0, i64 2147483647] [(100000, .var (rrC xs r8))] (i64 v_qm) [(100000, .var (rrC xs r9))]) (g10 : VM Try.prog 109 [.ptr 100000 0 0, i64 62] [(100000, .var (rrC xs r9))] (i64 v_qs) [(100000, .var (rrC xs r10))]) (g11 : VM Try.prog 111 [.ptr 100000 0 0] [(100000, .var (rrC xs r10))] (i8 v_qz) [(100000, .var (rrC xs r11))]) (g12 : VM Try.prog 111 [.ptr 100000 0 0] [(100000, .var (rrC xs r11))] (i8 v_lo) [(100000, .var (rrC xs r12))]) (g13 : VM Try.prog 111 [.ptr 100000 0 0] [(100000, .var (rrC xs r12))] (i8 v_hi) [(100000, .var (rrC xs r13))]) (hk : v_kd = 3) (h9 : In64 v_kd) (h_qm : 0 ≤ v_qm ∧ v_qm ≤ 2147483647) (hbad : r13.2 = 0) (hw : v_w.length ≤ 100000) (hb : v_b.length ≤ 100000) (hc : checkE (⟨v_kd, v_na, 0, 0, 0, 0, v_no, v_za, 0, v_w, v_b, v_qm, v_qs, v_qz, 0, 0, 0, v_lo, v_hi⟩ : Nod) ≠ 0) : VM Try.prog 41 ([.ptr 100000 0 0]) ([(100000, .var (rrC xs r))]) (.tup [.agg [i64 0, i64 0, i64 0, i64 0, i64 0, i64 0, i64 0, i8 0, i8 0, .sl 1 [], .sl 1 [], i32 0, i64 0, i8 0, i32 0, i64 0, i8 0, i8 0, i8 0], i64 (checkE (⟨v_kd, v_na, 0, 0, 0, 0, v_no, v_za, 0, v_w, v_b, v_qm, v_qs, v_qz, 0, 0, 0, v_lo, v_hi⟩ : Nod))]) ([(100000, .var (rrC xs r13))]) := by
  have oz0 := @g1
  have oz1 := @g2
  have oz2 := @tells_3 (v_kd) hk
  have oz3 := (show (0 : Int) ≤ (0 : Int) by omega)
  have oz4 := (show (0 : Int) < (↑(6 : Nat) : Int) by omega)
  have oz5 := (show [[bv false], [bv false], [bv true], [bv true], [bv true], [bv true]][(0 : Nat)]? = some [bv false] from rfl)
  have oz6 := (show false = false by with_reducible rfl)
  have oz7 := (show (0 : Int) ≤ (1 : Int) by omega)
  have oz8 := (show (1 : Int) < (↑(6 : Nat) : Int) by omega)
  have oz9 := (show [[bv false], [bv false], [bv true], [bv true], [bv true], [bv true]][(1 : Nat)]? = some [bv false] from rfl)
  have oz21 := (show [[bv false], [bv false], [bv true], [bv true], [bv true], [bv true]][(2 : Nat)]? = some [bv true] from rfl)
  have oz22 := (show true = true by with_reducible rfl)
  have oz23 := @g3
  have oz26 := (show [[bv false], [bv false], [bv true], [bv true], [bv true], [bv true]][(3 : Nat)]? = some [bv true] from rfl)
  have oz28 := @g4
  have oz35 := (show [[bv false], [bv false], [bv true], [bv true], [bv true], [bv true]][(4 : Nat)]? = some [bv true] from rfl)
  have oz37 := @g5
  have oz38 := @g6
  have oz39 := @g7
  have oz40 := @g8
  have oz43 := (show [[bv false], [bv false], [bv true], [bv true], [bv true], [bv true]][(5 : Nat)]? = some [bv true] from rfl)
  have oz45 := @g9
  have oz47 := @g10
  have oz48 := @g11
  have oz53 := @g12
  have oz54 := @g13
  have oz56 := @refCheck_v (Nod.mk v_kd v_na 0 0 0 0 v_no v_za 0 v_w v_b v_qm v_qs v_qz 0 0 0 v_lo v_hi) hw hb h9
  exact VM.run (fn := Try.f41) (W := [.r [] [], .r [] [.callm [(100000, 100000)] [] (rM oz0) (oM oz0), .callm [(100000, 100000)] [] (rM oz1) (oM oz1)], .r [] [.callr (rO oz2)], .r [] [.row (sO oz5)], .br false, .r [] [.row (sO oz5)], .br false, .r [] [.row (sO oz5), .br true, .br true, .br true, .br false], .br false, .r [] [.row (sO oz21)], .br true, .r [] [.callm [(100000, 100000)] [] (rM oz23) (oM oz23)], .r [] [.row (sO oz26)], .br true, .r [] [.callm [(100000, 100000)] [] (rM oz28) (oM oz28)], .r [] [.row (sO oz5)], .br false, .r [] [.row (sO oz35)], .br true, .r [] [.callm [(100000, 100000)] [] (rM oz37) (oM oz37), .callm [(100000, 100000)] [] (rM oz38) (oM oz38)], .r [] [.callm [(100000, 100000)] [] (rM oz39) (oM oz39), .callm [(100000, 100000)] [] (rM oz40) (oM oz40)], .r [] [.row (sO oz43)], .br true, .r [] [.callm [(100000, 100000)] [] (rM oz45) (oM oz45), .n v_qm, .callm [(100000, 100000)] [] (rM oz47) (oM oz47), .callm [(100000, 100000)] [] (rM oz48) (oM oz48)], .r [] [.row (sO oz5)], .br false, .r [] [.callm [(100000, 100000)] [] (rM oz53) (oM oz53)], .r [] [.callm [(100000, 100000)] [] (rM oz54) (oM oz54)], .r [] [], .br false, .r [] [.callr (rO oz56)], .r [] [], .br true, .r [] []]) (G := [.drop [2, 4, 5], .weak 0 (AV.tup [AV.agg [i64 0, i64 0, i64 0, i64 0, i64 0, i64 0, i64 0, i8 0, i8 0, AV.sl 1 [], AV.sl 1 [], i32 0, i64 0, i8 0, i32 0, i64 0, i8 0, i8 0, i8 0], i64 (checkE (Nod.mk v_kd v_na 0 0 0 0 v_no v_za 0 v_w v_b v_qm v_qs v_qz 0 0 0 v_lo v_hi))]), .sort]) Try.func41 (by kernel_rfl) (.c oz0 <| .c oz1 <| .c oz2 <| .c oz3 <| .c oz4 <| .c oz5 <| .c oz6 <| .c oz7 <| .c oz8 <| .c oz9 <| .c oz6 <| .c oz7 <| .c oz8 <| .c oz9 <| .c oz6 <| .c oz6 <| .c oz6 <| .c oz6 <| .c (show (v_kd == 8) = false by (refine decide_eq_false ?_; omega)) <| .c (show (0 : Int) ≤ (2 : Int) by omega) <| .c (show (2 : Int) < (↑(6 : Nat) : Int) by omega) <| .c oz21 <| .c oz22 <| .c oz23 <| .c (show (0 : Int) ≤ (3 : Int) by omega) <| .c (show (3 : Int) < (↑(6 : Nat) : Int) by omega) <| .c oz26 <| .c oz22 <| .c oz28 <| .c oz3 <| .c oz4 <| .c oz5 <| .c oz6 <| .c (show (0 : Int) ≤ (4 : Int) by omega) <| .c (show (4 : Int) < (↑(6 : Nat) : Int) by omega) <| .c oz35 <| .c oz22 <| .c oz37 <| .c oz38 <| .c oz39 <| .c oz40 <| .c (show (0 : Int) ≤ (5 : Int) by omega) <| .c (show (5 : Int) < (↑(6 : Nat) : Int) by omega) <| .c oz43 <| .c oz22 <| .c oz45 <| .c (IntWalk.i32_in v_qm (by omega)) <| .c oz47 <| .c oz48 <| .c oz3 <| .c oz4 <| .c oz5 <| .c oz6 <| .c oz53 <| .c oz54 <| .c (show (r13.snd != 0) = false by (simp; omega)) <| .c oz56 <| .c (show (checkE (Nod.mk v_kd v_na 0 0 0 0 v_no v_za 0 v_w v_b v_qm v_qs v_qz 0 0 0 v_lo v_hi) != 0) = true by (simp; omega)) <| .c (show Weak (AV.tup [AV.agg [i64 0, i64 0, i64 0, i64 0, i64 0, i64 0, i64 0, i8 0, i8 0, AV.lit (Value.slice none 0 0), AV.lit (Value.slice none 0 0), i32 0, i64 0, i8 0, i32 0, i64 0, i8 0, i8 0, i8 0], i64 (checkE (Nod.mk v_kd v_na 0 0 0 0 v_no v_za 0 v_w v_b v_qm v_qs v_qz 0 0 0 v_lo v_hi))]) (AV.tup [AV.agg [i64 0, i64 0, i64 0, i64 0, i64 0, i64 0, i64 0, i8 0, i8 0, AV.sl 1 [], AV.sl 1 [], i32 0, i64 0, i8 0, i32 0, i64 0, i8 0, i8 0, i8 0], i64 (checkE (Nod.mk v_kd v_na 0 0 0 0 v_no v_za 0 v_w v_b v_qm v_qs v_qz 0 0 0 v_lo v_hi))]) from (Weak.tup (.cons (Weak.agg (.cons (.refl _) (.cons (.refl _) (.cons (.refl _) (.cons (.refl _) (.cons (.refl _) (.cons (.refl _) (.cons (.refl _) (.cons (.refl _) (.cons (.refl _) (.cons (Weak.nil _) (.cons (Weak.nil _) (.cons (.refl _) (.cons (.refl _) (.cons (.refl _) (.cons (.refl _) (.cons (.refl _) (.cons (.refl _) (.cons (.refl _) (.cons (.refl _) .nil)))))))))))))))))))) (.cons (.refl _) .nil)))) <| .n)

set_option maxRecDepth 100000 in
set_option maxHeartbeats 2000000 in
theorem rw_3y (xs : List Int) (r r1 r2 r3 r4 r5 r6 r7 r8 r9 r10 r11 r12 r13 : Rrf) (v_kd v_na v_no v_za v_cw v_cb v_qm v_qs v_qz v_lo v_hi : Int) (v_w v_b : List Int) (g1 : VM Try.prog 109 [.ptr 100000 0 0, i64 9] [(100000, .var (rrC xs r))] (i64 v_kd) [(100000, .var (rrC xs r1))]) (g2 : VM Try.prog 109 [.ptr 100000 0 0, i64 1024] [(100000, .var (rrC xs r1))] (i64 v_na) [(100000, .var (rrC xs r2))]) (g3 : VM Try.prog 109 [.ptr 100000 0 0, i64 1024] [(100000, .var (rrC xs r2))] (i64 v_no) [(100000, .var (rrC xs r3))]) (g4 : VM Try.prog 111 [.ptr 100000 0 0] [(100000, .var (rrC xs r3))] (i8 v_za) [(100000, .var (rrC xs r4))]) (g5 : VM Try.prog 109 [.ptr 100000 0 0, i64 16384] [(100000, .var (rrC xs r4))] (i64 v_cw) [(100000, .var (rrC xs r5))]) (g6 : VM Try.prog 112 [.ptr 100000 0 0, i64 v_cw] [(100000, .var (rrC xs r5))] (.sl 1 (v_w.map (row1 .i8))) [(100000, .var (rrC xs r6))]) (g7 : VM Try.prog 109 [.ptr 100000 0 0, i64 16384] [(100000, .var (rrC xs r6))] (i64 v_cb) [(100000, .var (rrC xs r7))]) (g8 : VM Try.prog 113 [.ptr 100000 0 0, i64 v_cb] [(100000, .var (rrC xs r7))] (.sl 1 (v_b.map (row1 .i32))) [(100000, .var (rrC xs r8))]) (g9 : VM Try.prog 109 [.ptr 100000 0 0, i64 2147483647] [(100000, .var (rrC xs r8))] (i64 v_qm) [(100000, .var (rrC xs r9))]) (g10 : VM Try.prog 109 [.ptr 100000 0 0, i64 62] [(100000, .var (rrC xs r9))] (i64 v_qs) [(100000, .var (rrC xs r10))]) (g11 : VM Try.prog 111 [.ptr 100000 0 0] [(100000, .var (rrC xs r10))] (i8 v_qz) [(100000, .var (rrC xs r11))]) (g12 : VM Try.prog 111 [.ptr 100000 0 0] [(100000, .var (rrC xs r11))] (i8 v_lo) [(100000, .var (rrC xs r12))]) (g13 : VM Try.prog 111 [.ptr 100000 0 0] [(100000, .var (rrC xs r12))] (i8 v_hi) [(100000, .var (rrC xs r13))]) (hk : v_kd = 3) (h9 : In64 v_kd) (h_qm : 0 ≤ v_qm ∧ v_qm ≤ 2147483647) (hbad : r13.2 = 0) (hw : v_w.length ≤ 100000) (hb : v_b.length ≤ 100000) (hc : checkE (⟨v_kd, v_na, 0, 0, 0, 0, v_no, v_za, 0, v_w, v_b, v_qm, v_qs, v_qz, 0, 0, 0, v_lo, v_hi⟩ : Nod) = 0) : VM Try.prog 41 ([.ptr 100000 0 0]) ([(100000, .var (rrC xs r))]) (.tup [nod (⟨v_kd, v_na, 0, 0, 0, 0, v_no, v_za, 0, v_w, v_b, v_qm, v_qs, v_qz, 0, 0, 0, v_lo, v_hi⟩ : Nod), i64 0]) ([(100000, .var (rrC xs r13))]) := by
  have oz0 := @g1
  have oz1 := @g2
  have oz2 := @tells_3 (v_kd) hk
  have oz3 := (show (0 : Int) ≤ (0 : Int) by omega)
  have oz4 := (show (0 : Int) < (↑(6 : Nat) : Int) by omega)
  have oz5 := (show [[bv false], [bv false], [bv true], [bv true], [bv true], [bv true]][(0 : Nat)]? = some [bv false] from rfl)
  have oz6 := (show false = false by with_reducible rfl)
  have oz7 := (show (0 : Int) ≤ (1 : Int) by omega)
  have oz8 := (show (1 : Int) < (↑(6 : Nat) : Int) by omega)
  have oz9 := (show [[bv false], [bv false], [bv true], [bv true], [bv true], [bv true]][(1 : Nat)]? = some [bv false] from rfl)
  have oz21 := (show [[bv false], [bv false], [bv true], [bv true], [bv true], [bv true]][(2 : Nat)]? = some [bv true] from rfl)
  have oz22 := (show true = true by with_reducible rfl)
  have oz23 := @g3
  have oz26 := (show [[bv false], [bv false], [bv true], [bv true], [bv true], [bv true]][(3 : Nat)]? = some [bv true] from rfl)
  have oz28 := @g4
  have oz35 := (show [[bv false], [bv false], [bv true], [bv true], [bv true], [bv true]][(4 : Nat)]? = some [bv true] from rfl)
  have oz37 := @g5
  have oz38 := @g6
  have oz39 := @g7
  have oz40 := @g8
  have oz43 := (show [[bv false], [bv false], [bv true], [bv true], [bv true], [bv true]][(5 : Nat)]? = some [bv true] from rfl)
  have oz45 := @g9
  have oz47 := @g10
  have oz48 := @g11
  have oz53 := @g12
  have oz54 := @g13
  have oz56 := @refCheck_v (Nod.mk v_kd v_na 0 0 0 0 v_no v_za 0 v_w v_b v_qm v_qs v_qz 0 0 0 v_lo v_hi) hw hb h9
  exact VM.run (fn := Try.f41) (W := [.r [] [], .r [] [.callm [(100000, 100000)] [] (rM oz0) (oM oz0), .callm [(100000, 100000)] [] (rM oz1) (oM oz1)], .r [] [.callr (rO oz2)], .r [] [.row (sO oz5)], .br false, .r [] [.row (sO oz5)], .br false, .r [] [.row (sO oz5), .br true, .br true, .br true, .br false], .br false, .r [] [.row (sO oz21)], .br true, .r [] [.callm [(100000, 100000)] [] (rM oz23) (oM oz23)], .r [] [.row (sO oz26)], .br true, .r [] [.callm [(100000, 100000)] [] (rM oz28) (oM oz28)], .r [] [.row (sO oz5)], .br false, .r [] [.row (sO oz35)], .br true, .r [] [.callm [(100000, 100000)] [] (rM oz37) (oM oz37), .callm [(100000, 100000)] [] (rM oz38) (oM oz38)], .r [] [.callm [(100000, 100000)] [] (rM oz39) (oM oz39), .callm [(100000, 100000)] [] (rM oz40) (oM oz40)], .r [] [.row (sO oz43)], .br true, .r [] [.callm [(100000, 100000)] [] (rM oz45) (oM oz45), .n v_qm, .callm [(100000, 100000)] [] (rM oz47) (oM oz47), .callm [(100000, 100000)] [] (rM oz48) (oM oz48)], .r [] [.row (sO oz5)], .br false, .r [] [.callm [(100000, 100000)] [] (rM oz53) (oM oz53)], .r [] [.callm [(100000, 100000)] [] (rM oz54) (oM oz54)], .r [] [], .br false, .r [] [.callr (rO oz56)], .r [] [], .br false, .r [] []]) (G := [.drop [2, 4, 5], .sort]) Try.func41 (by kernel_rfl) (.c oz0 <| .c oz1 <| .c oz2 <| .c oz3 <| .c oz4 <| .c oz5 <| .c oz6 <| .c oz7 <| .c oz8 <| .c oz9 <| .c oz6 <| .c oz7 <| .c oz8 <| .c oz9 <| .c oz6 <| .c oz6 <| .c oz6 <| .c oz6 <| .c (show (v_kd == 8) = false by (refine decide_eq_false ?_; omega)) <| .c (show (0 : Int) ≤ (2 : Int) by omega) <| .c (show (2 : Int) < (↑(6 : Nat) : Int) by omega) <| .c oz21 <| .c oz22 <| .c oz23 <| .c (show (0 : Int) ≤ (3 : Int) by omega) <| .c (show (3 : Int) < (↑(6 : Nat) : Int) by omega) <| .c oz26 <| .c oz22 <| .c oz28 <| .c oz3 <| .c oz4 <| .c oz5 <| .c oz6 <| .c (show (0 : Int) ≤ (4 : Int) by omega) <| .c (show (4 : Int) < (↑(6 : Nat) : Int) by omega) <| .c oz35 <| .c oz22 <| .c oz37 <| .c oz38 <| .c oz39 <| .c oz40 <| .c (show (0 : Int) ≤ (5 : Int) by omega) <| .c (show (5 : Int) < (↑(6 : Nat) : Int) by omega) <| .c oz43 <| .c oz22 <| .c oz45 <| .c (IntWalk.i32_in v_qm (by omega)) <| .c oz47 <| .c oz48 <| .c oz3 <| .c oz4 <| .c oz5 <| .c oz6 <| .c oz53 <| .c oz54 <| .c (show (r13.snd != 0) = false by (simp; omega)) <| .c oz56 <| .c (show (checkE (Nod.mk v_kd v_na 0 0 0 0 v_no v_za 0 v_w v_b v_qm v_qs v_qz 0 0 0 v_lo v_hi) != 0) = false by (simp; omega)) <| .n)

set_option maxRecDepth 100000 in
set_option maxHeartbeats 2000000 in
theorem rw_4b (xs : List Int) (r r1 r2 r3 r4 r5 : Rrf) (v_kd v_na v_nk v_ns v_np : Int) (g1 : VM Try.prog 109 [.ptr 100000 0 0, i64 9] [(100000, .var (rrC xs r))] (i64 v_kd) [(100000, .var (rrC xs r1))]) (g2 : VM Try.prog 109 [.ptr 100000 0 0, i64 1024] [(100000, .var (rrC xs r1))] (i64 v_na) [(100000, .var (rrC xs r2))]) (g3 : VM Try.prog 109 [.ptr 100000 0 0, i64 1024] [(100000, .var (rrC xs r2))] (i64 v_nk) [(100000, .var (rrC xs r3))]) (g4 : VM Try.prog 109 [.ptr 100000 0 0, i64 1024] [(100000, .var (rrC xs r3))] (i64 v_ns) [(100000, .var (rrC xs r4))]) (g5 : VM Try.prog 109 [.ptr 100000 0 0, i64 1024] [(100000, .var (rrC xs r4))] (i64 v_np) [(100000, .var (rrC xs r5))]) (hk : v_kd = 4 ∨ v_kd = 5) (h9 : In64 v_kd)  (hbad : r5.2 ≠ 0) : VM Try.prog 41 ([.ptr 100000 0 0]) ([(100000, .var (rrC xs r))]) (.tup [.agg [i64 0, i64 0, i64 0, i64 0, i64 0, i64 0, i64 0, i8 0, i8 0, .sl 1 [], .sl 1 [], i32 0, i64 0, i8 0, i32 0, i64 0, i8 0, i8 0, i8 0], i64 r5.2]) ([(100000, .var (rrC xs r5))]) := by
  have oz0 := @g1
  have oz1 := @g2
  have oz2 := @tells_4 (v_kd) hk
  have oz3 := (show (0 : Int) ≤ (0 : Int) by omega)
  have oz4 := (show (0 : Int) < (↑(6 : Nat) : Int) by omega)
  have oz5 := (show [[bv false], [bv true], [bv false], [bv false], [bv false], [bv false]][(0 : Nat)]? = some [bv false] from rfl)
  have oz6 := (show false = false by with_reducible rfl)
  have oz7 := (show (0 : Int) ≤ (1 : Int) by omega)
  have oz8 := (show (1 : Int) < (↑(6 : Nat) : Int) by omega)
  have oz9 := (show [[bv false], [bv true], [bv false], [bv false], [bv false], [bv false]][(1 : Nat)]? = some [bv true] from rfl)
  have oz10 := (show true = true by with_reducible rfl)
  have oz11 := @g3
  have oz12 := @g4
  have oz16 := (show true = !false by (simp; done))
  have oz21 := @g5
  have oz24 := (show [[bv false], [bv true], [bv false], [bv false], [bv false], [bv false]][(2 : Nat)]? = some [bv false] from rfl)
  have oz28 := (show [[bv false], [bv true], [bv false], [bv false], [bv false], [bv false]][(3 : Nat)]? = some [bv false] from rfl)
  have oz36 := (show [[bv false], [bv true], [bv false], [bv false], [bv false], [bv false]][(4 : Nat)]? = some [bv false] from rfl)
  have oz40 := (show [[bv false], [bv true], [bv false], [bv false], [bv false], [bv false]][(5 : Nat)]? = some [bv false] from rfl)
  exact VM.run (fn := Try.f41) (W := [.r [] [], .r [] [.callm [(100000, 100000)] [] (rM oz0) (oM oz0), .callm [(100000, 100000)] [] (rM oz1) (oM oz1)], .r [] [.callr (rO oz2)], .r [] [.row (sO oz5)], .br false, .r [] [.row (sO oz9)], .br true, .r [] [.callm [(100000, 100000)] [] (rM oz11) (oM oz11)], .r [] [.callm [(100000, 100000)] [] (rM oz12) (oM oz12)], .r [] [.row (sO oz9), .br false, .br false, .br false, .br true], .br true, .r [] [.callm [(100000, 100000)] [] (rM oz21) (oM oz21)], .r [] [.row (sO oz24)], .br false, .r [] [.row (sO oz24)], .br false, .r [] [.row (sO oz24)], .br false, .r [] [.row (sO oz24)], .br false, .r [] [.row (sO oz24)], .br false, .r [] [], .br true, .r [] []]) (G := [.drop [2, 4, 5], .weak 0 (AV.tup [AV.agg [i64 0, i64 0, i64 0, i64 0, i64 0, i64 0, i64 0, i8 0, i8 0, AV.sl 1 [], AV.sl 1 [], i32 0, i64 0, i8 0, i32 0, i64 0, i8 0, i8 0, i8 0], i64 r5.snd]), .sort]) Try.func41 (by kernel_rfl) (.c oz0 <| .c oz1 <| .c oz2 <| .c oz3 <| .c oz4 <| .c oz5 <| .c oz6 <| .c oz7 <| .c oz8 <| .c oz9 <| .c oz10 <| .c oz11 <| .c oz12 <| .c oz7 <| .c oz8 <| .c oz9 <| .c oz16 <| .c oz16 <| .c oz16 <| .c oz10 <| .c oz10 <| .c oz21 <| .c (show (0 : Int) ≤ (2 : Int) by omega) <| .c (show (2 : Int) < (↑(6 : Nat) : Int) by omega) <| .c oz24 <| .c oz6 <| .c (show (0 : Int) ≤ (3 : Int) by omega) <| .c (show (3 : Int) < (↑(6 : Nat) : Int) by omega) <| .c oz28 <| .c oz6 <| .c oz3 <| .c oz4 <| .c oz5 <| .c oz6 <| .c (show (0 : Int) ≤ (4 : Int) by omega) <| .c (show (4 : Int) < (↑(6 : Nat) : Int) by omega) <| .c oz36 <| .c oz6 <| .c (show (0 : Int) ≤ (5 : Int) by omega) <| .c (show (5 : Int) < (↑(6 : Nat) : Int) by omega) <| .c oz40 <| .c oz6 <| .c (show (r5.snd != 0) = true by (simp; omega)) <| .c (show Weak (AV.tup [AV.agg [i64 0, i64 0, i64 0, i64 0, i64 0, i64 0, i64 0, i8 0, i8 0, AV.lit (Value.slice none 0 0), AV.lit (Value.slice none 0 0), i32 0, i64 0, i8 0, i32 0, i64 0, i8 0, i8 0, i8 0], i64 r5.snd]) (AV.tup [AV.agg [i64 0, i64 0, i64 0, i64 0, i64 0, i64 0, i64 0, i8 0, i8 0, AV.sl 1 [], AV.sl 1 [], i32 0, i64 0, i8 0, i32 0, i64 0, i8 0, i8 0, i8 0], i64 r5.snd]) from (Weak.tup (.cons (Weak.agg (.cons (.refl _) (.cons (.refl _) (.cons (.refl _) (.cons (.refl _) (.cons (.refl _) (.cons (.refl _) (.cons (.refl _) (.cons (.refl _) (.cons (.refl _) (.cons (Weak.nil _) (.cons (Weak.nil _) (.cons (.refl _) (.cons (.refl _) (.cons (.refl _) (.cons (.refl _) (.cons (.refl _) (.cons (.refl _) (.cons (.refl _) (.cons (.refl _) .nil)))))))))))))))))))) (.cons (.refl _) .nil)))) <| .n)

set_option maxRecDepth 100000 in
set_option maxHeartbeats 2000000 in
theorem rw_4c (xs : List Int) (r r1 r2 r3 r4 r5 : Rrf) (v_kd v_na v_nk v_ns v_np : Int) (g1 : VM Try.prog 109 [.ptr 100000 0 0, i64 9] [(100000, .var (rrC xs r))] (i64 v_kd) [(100000, .var (rrC xs r1))]) (g2 : VM Try.prog 109 [.ptr 100000 0 0, i64 1024] [(100000, .var (rrC xs r1))] (i64 v_na) [(100000, .var (rrC xs r2))]) (g3 : VM Try.prog 109 [.ptr 100000 0 0, i64 1024] [(100000, .var (rrC xs r2))] (i64 v_nk) [(100000, .var (rrC xs r3))]) (g4 : VM Try.prog 109 [.ptr 100000 0 0, i64 1024] [(100000, .var (rrC xs r3))] (i64 v_ns) [(100000, .var (rrC xs r4))]) (g5 : VM Try.prog 109 [.ptr 100000 0 0, i64 1024] [(100000, .var (rrC xs r4))] (i64 v_np) [(100000, .var (rrC xs r5))]) (hk : v_kd = 4 ∨ v_kd = 5) (h9 : In64 v_kd)  (hbad : r5.2 = 0)  (hc : checkE (⟨v_kd, v_na, 0, v_nk, v_ns, v_np, 0, 0, 0, [], [], 0, 0, 0, 0, 0, 0, 0, 0⟩ : Nod) ≠ 0) : VM Try.prog 41 ([.ptr 100000 0 0]) ([(100000, .var (rrC xs r))]) (.tup [.agg [i64 0, i64 0, i64 0, i64 0, i64 0, i64 0, i64 0, i8 0, i8 0, .sl 1 [], .sl 1 [], i32 0, i64 0, i8 0, i32 0, i64 0, i8 0, i8 0, i8 0], i64 (checkE (⟨v_kd, v_na, 0, v_nk, v_ns, v_np, 0, 0, 0, [], [], 0, 0, 0, 0, 0, 0, 0, 0⟩ : Nod))]) ([(100000, .var (rrC xs r5))]) := by
  have oz0 := @g1
  have oz1 := @g2
  have oz2 := @tells_4 (v_kd) hk
  have oz3 := (show (0 : Int) ≤ (0 : Int) by omega)
  have oz4 := (show (0 : Int) < (↑(6 : Nat) : Int) by omega)
  have oz5 := (show [[bv false], [bv true], [bv false], [bv false], [bv false], [bv false]][(0 : Nat)]? = some [bv false] from rfl)
  have oz6 := (show false = false by with_reducible rfl)
  have oz7 := (show (0 : Int) ≤ (1 : Int) by omega)
  have oz8 := (show (1 : Int) < (↑(6 : Nat) : Int) by omega)
  have oz9 := (show [[bv false], [bv true], [bv false], [bv false], [bv false], [bv false]][(1 : Nat)]? = some [bv true] from rfl)
  have oz10 := (show true = true by with_reducible rfl)
  have oz11 := @g3
  have oz12 := @g4
  have oz16 := (show true = !false by (simp; done))
  have oz21 := @g5
  have oz24 := (show [[bv false], [bv true], [bv false], [bv false], [bv false], [bv false]][(2 : Nat)]? = some [bv false] from rfl)
  have oz28 := (show [[bv false], [bv true], [bv false], [bv false], [bv false], [bv false]][(3 : Nat)]? = some [bv false] from rfl)
  have oz36 := (show [[bv false], [bv true], [bv false], [bv false], [bv false], [bv false]][(4 : Nat)]? = some [bv false] from rfl)
  have oz40 := (show [[bv false], [bv true], [bv false], [bv false], [bv false], [bv false]][(5 : Nat)]? = some [bv false] from rfl)
  have oz44 := @refCheck_v (Nod.mk v_kd v_na 0 v_nk v_ns v_np 0 0 0 [] [] 0 0 0 0 0 0 0 0) (by (simp; done)) (by (simp; done)) h9
  exact VM.run (fn := Try.f41) (W := [.r [] [], .r [] [.callm [(100000, 100000)] [] (rM oz0) (oM oz0), .callm [(100000, 100000)] [] (rM oz1) (oM oz1)], .r [] [.callr (rO oz2)], .r [] [.row (sO oz5)], .br false, .r [] [.row (sO oz9)], .br true, .r [] [.callm [(100000, 100000)] [] (rM oz11) (oM oz11)], .r [] [.callm [(100000, 100000)] [] (rM oz12) (oM oz12)], .r [] [.row (sO oz9), .br false, .br false, .br false, .br true], .br true, .r [] [.callm [(100000, 100000)] [] (rM oz21) (oM oz21)], .r [] [.row (sO oz24)], .br false, .r [] [.row (sO oz24)], .br false, .r [] [.row (sO oz24)], .br false, .r [] [.row (sO oz24)], .br false, .r [] [.row (sO oz24)], .br false, .r [] [], .br false, .r [] [.call (aO oz44) (rO oz44)], .r [] [], .br true, .r [] []]) (G := [.drop [2, 4, 5], .weak 0 (AV.tup [AV.agg [i64 0, i64 0, i64 0, i64 0, i64 0, i64 0, i64 0, i8 0, i8 0, AV.sl 1 [], AV.sl 1 [], i32 0, i64 0, i8 0, i32 0, i64 0, i8 0, i8 0, i8 0], i64 (checkE (Nod.mk v_kd v_na 0 v_nk v_ns v_np 0 0 0 [] [] 0 0 0 0 0 0 0 0))]), .sort]) Try.func41 (by kernel_rfl) (.c oz0 <| .c oz1 <| .c oz2 <| .c oz3 <| .c oz4 <| .c oz5 <| .c oz6 <| .c oz7 <| .c oz8 <| .c oz9 <| .c oz10 <| .c oz11 <| .c oz12 <| .c oz7 <| .c oz8 <| .c oz9 <| .c oz16 <| .c oz16 <| .c oz16 <| .c oz10 <| .c oz10 <| .c oz21 <| .c (show (0 : Int) ≤ (2 : Int) by omega) <| .c (show (2 : Int) < (↑(6 : Nat) : Int) by omega) <| .c oz24 <| .c oz6 <| .c (show (0 : Int) ≤ (3 : Int) by omega) <| .c (show (3 : Int) < (↑(6 : Nat) : Int) by omega) <| .c oz28 <| .c oz6 <| .c oz3 <| .c oz4 <| .c oz5 <| .c oz6 <| .c (show (0 : Int) ≤ (4 : Int) by omega) <| .c (show (4 : Int) < (↑(6 : Nat) : Int) by omega) <| .c oz36 <| .c oz6 <| .c (show (0 : Int) ≤ (5 : Int) by omega) <| .c (show (5 : Int) < (↑(6 : Nat) : Int) by omega) <| .c oz40 <| .c oz6 <| .c (show (r5.snd != 0) = false by (simp; omega)) <| .c (show WeakL [AV.agg [i64 v_kd, i64 v_na, i64 0, i64 v_nk, i64 v_ns, i64 v_np, i64 0, i8 0, i8 0, AV.lit (Value.slice none 0 0), AV.lit (Value.slice none 0 0), i32 0, i64 0, i8 0, i32 0, i64 0, i8 0, i8 0, i8 0]] [AV.agg [i64 (Nod.mk v_kd v_na 0 v_nk v_ns v_np 0 0 0 [] [] 0 0 0 0 0 0 0 0).kd, i64 (Nod.mk v_kd v_na 0 v_nk v_ns v_np 0 0 0 [] [] 0 0 0 0 0 0 0 0).na, i64 (Nod.mk v_kd v_na 0 v_nk v_ns v_np 0 0 0 [] [] 0 0 0 0 0 0 0 0).nb, i64 (Nod.mk v_kd v_na 0 v_nk v_ns v_np 0 0 0 [] [] 0 0 0 0 0 0 0 0).nk, i64 (Nod.mk v_kd v_na 0 v_nk v_ns v_np 0 0 0 [] [] 0 0 0 0 0 0 0 0).ns, i64 (Nod.mk v_kd v_na 0 v_nk v_ns v_np 0 0 0 [] [] 0 0 0 0 0 0 0 0).np, i64 (Nod.mk v_kd v_na 0 v_nk v_ns v_np 0 0 0 [] [] 0 0 0 0 0 0 0 0).no, i8 (Nod.mk v_kd v_na 0 v_nk v_ns v_np 0 0 0 [] [] 0 0 0 0 0 0 0 0).za, i8 (Nod.mk v_kd v_na 0 v_nk v_ns v_np 0 0 0 [] [] 0 0 0 0 0 0 0 0).zb, AV.sl 1 [], AV.sl 1 [], i32 (Nod.mk v_kd v_na 0 v_nk v_ns v_np 0 0 0 [] [] 0 0 0 0 0 0 0 0).qm, i64 (Nod.mk v_kd v_na 0 v_nk v_ns v_np 0 0 0 [] [] 0 0 0 0 0 0 0 0).qs, i8 (Nod.mk v_kd v_na 0 v_nk v_ns v_np 0 0 0 [] [] 0 0 0 0 0 0 0 0).qz, i32 (Nod.mk v_kd v_na 0 v_nk v_ns v_np 0 0 0 [] [] 0 0 0 0 0 0 0 0).rm, i64 (Nod.mk v_kd v_na 0 v_nk v_ns v_np 0 0 0 [] [] 0 0 0 0 0 0 0 0).rs, i8 (Nod.mk v_kd v_na 0 v_nk v_ns v_np 0 0 0 [] [] 0 0 0 0 0 0 0 0).rz, i8 (Nod.mk v_kd v_na 0 v_nk v_ns v_np 0 0 0 [] [] 0 0 0 0 0 0 0 0).lo, i8 (Nod.mk v_kd v_na 0 v_nk v_ns v_np 0 0 0 [] [] 0 0 0 0 0 0 0 0).hi]] from (.cons (Weak.agg (.cons (.refl _) (.cons (.refl _) (.cons (.refl _) (.cons (.refl _) (.cons (.refl _) (.cons (.refl _) (.cons (.refl _) (.cons (.refl _) (.cons (.refl _) (.cons (Weak.nil _) (.cons (Weak.nil _) (.cons (.refl _) (.cons (.refl _) (.cons (.refl _) (.cons (.refl _) (.cons (.refl _) (.cons (.refl _) (.cons (.refl _) (.cons (.refl _) .nil)))))))))))))))))))) .nil)) <| .c oz44 <| .c (show (checkE (Nod.mk v_kd v_na 0 v_nk v_ns v_np 0 0 0 [] [] 0 0 0 0 0 0 0 0) != 0) = true by (simp; omega)) <| .c (show Weak (AV.tup [AV.agg [i64 0, i64 0, i64 0, i64 0, i64 0, i64 0, i64 0, i8 0, i8 0, AV.lit (Value.slice none 0 0), AV.lit (Value.slice none 0 0), i32 0, i64 0, i8 0, i32 0, i64 0, i8 0, i8 0, i8 0], i64 (checkE (Nod.mk v_kd v_na 0 v_nk v_ns v_np 0 0 0 [] [] 0 0 0 0 0 0 0 0))]) (AV.tup [AV.agg [i64 0, i64 0, i64 0, i64 0, i64 0, i64 0, i64 0, i8 0, i8 0, AV.sl 1 [], AV.sl 1 [], i32 0, i64 0, i8 0, i32 0, i64 0, i8 0, i8 0, i8 0], i64 (checkE (Nod.mk v_kd v_na 0 v_nk v_ns v_np 0 0 0 [] [] 0 0 0 0 0 0 0 0))]) from (Weak.tup (.cons (Weak.agg (.cons (.refl _) (.cons (.refl _) (.cons (.refl _) (.cons (.refl _) (.cons (.refl _) (.cons (.refl _) (.cons (.refl _) (.cons (.refl _) (.cons (.refl _) (.cons (Weak.nil _) (.cons (Weak.nil _) (.cons (.refl _) (.cons (.refl _) (.cons (.refl _) (.cons (.refl _) (.cons (.refl _) (.cons (.refl _) (.cons (.refl _) (.cons (.refl _) .nil)))))))))))))))))))) (.cons (.refl _) .nil)))) <| .n)

set_option maxRecDepth 100000 in
set_option maxHeartbeats 2000000 in
theorem rw_4y (xs : List Int) (r r1 r2 r3 r4 r5 : Rrf) (v_kd v_na v_nk v_ns v_np : Int) (g1 : VM Try.prog 109 [.ptr 100000 0 0, i64 9] [(100000, .var (rrC xs r))] (i64 v_kd) [(100000, .var (rrC xs r1))]) (g2 : VM Try.prog 109 [.ptr 100000 0 0, i64 1024] [(100000, .var (rrC xs r1))] (i64 v_na) [(100000, .var (rrC xs r2))]) (g3 : VM Try.prog 109 [.ptr 100000 0 0, i64 1024] [(100000, .var (rrC xs r2))] (i64 v_nk) [(100000, .var (rrC xs r3))]) (g4 : VM Try.prog 109 [.ptr 100000 0 0, i64 1024] [(100000, .var (rrC xs r3))] (i64 v_ns) [(100000, .var (rrC xs r4))]) (g5 : VM Try.prog 109 [.ptr 100000 0 0, i64 1024] [(100000, .var (rrC xs r4))] (i64 v_np) [(100000, .var (rrC xs r5))]) (hk : v_kd = 4 ∨ v_kd = 5) (h9 : In64 v_kd)  (hbad : r5.2 = 0)  (hc : checkE (⟨v_kd, v_na, 0, v_nk, v_ns, v_np, 0, 0, 0, [], [], 0, 0, 0, 0, 0, 0, 0, 0⟩ : Nod) = 0) : VM Try.prog 41 ([.ptr 100000 0 0]) ([(100000, .var (rrC xs r))]) (.tup [nod (⟨v_kd, v_na, 0, v_nk, v_ns, v_np, 0, 0, 0, [], [], 0, 0, 0, 0, 0, 0, 0, 0⟩ : Nod), i64 0]) ([(100000, .var (rrC xs r5))]) := by
  have oz0 := @g1
  have oz1 := @g2
  have oz2 := @tells_4 (v_kd) hk
  have oz3 := (show (0 : Int) ≤ (0 : Int) by omega)
  have oz4 := (show (0 : Int) < (↑(6 : Nat) : Int) by omega)
  have oz5 := (show [[bv false], [bv true], [bv false], [bv false], [bv false], [bv false]][(0 : Nat)]? = some [bv false] from rfl)
  have oz6 := (show false = false by with_reducible rfl)
  have oz7 := (show (0 : Int) ≤ (1 : Int) by omega)
  have oz8 := (show (1 : Int) < (↑(6 : Nat) : Int) by omega)
  have oz9 := (show [[bv false], [bv true], [bv false], [bv false], [bv false], [bv false]][(1 : Nat)]? = some [bv true] from rfl)
  have oz10 := (show true = true by with_reducible rfl)
  have oz11 := @g3
  have oz12 := @g4
  have oz16 := (show true = !false by (simp; done))
  have oz21 := @g5
  have oz24 := (show [[bv false], [bv true], [bv false], [bv false], [bv false], [bv false]][(2 : Nat)]? = some [bv false] from rfl)
  have oz28 := (show [[bv false], [bv true], [bv false], [bv false], [bv false], [bv false]][(3 : Nat)]? = some [bv false] from rfl)
  have oz36 := (show [[bv false], [bv true], [bv false], [bv false], [bv false], [bv false]][(4 : Nat)]? = some [bv false] from rfl)
  have oz40 := (show [[bv false], [bv true], [bv false], [bv false], [bv false], [bv false]][(5 : Nat)]? = some [bv false] from rfl)
  have oz44 := @refCheck_v (Nod.mk v_kd v_na 0 v_nk v_ns v_np 0 0 0 [] [] 0 0 0 0 0 0 0 0) (by (simp; done)) (by (simp; done)) h9
  exact VM.run (fn := Try.f41) (W := [.r [] [], .r [] [.callm [(100000, 100000)] [] (rM oz0) (oM oz0), .callm [(100000, 100000)] [] (rM oz1) (oM oz1)], .r [] [.callr (rO oz2)], .r [] [.row (sO oz5)], .br false, .r [] [.row (sO oz9)], .br true, .r [] [.callm [(100000, 100000)] [] (rM oz11) (oM oz11)], .r [] [.callm [(100000, 100000)] [] (rM oz12) (oM oz12)], .r [] [.row (sO oz9), .br false, .br false, .br false, .br true], .br true, .r [] [.callm [(100000, 100000)] [] (rM oz21) (oM oz21)], .r [] [.row (sO oz24)], .br false, .r [] [.row (sO oz24)], .br false, .r [] [.row (sO oz24)], .br false, .r [] [.row (sO oz24)], .br false, .r [] [.row (sO oz24)], .br false, .r [] [], .br false, .r [] [.call (aO oz44) (rO oz44)], .r [] [], .br false, .r [] []]) (G := [.drop [2, 4, 5], .weak 0 (AV.tup [AV.agg [i64 v_kd, i64 v_na, i64 0, i64 v_nk, i64 v_ns, i64 v_np, i64 0, i8 0, i8 0, AV.sl 1 [], AV.sl 1 [], i32 0, i64 0, i8 0, i32 0, i64 0, i8 0, i8 0, i8 0], i64 0]), .sort]) Try.func41 (by kernel_rfl) (.c oz0 <| .c oz1 <| .c oz2 <| .c oz3 <| .c oz4 <| .c oz5 <| .c oz6 <| .c oz7 <| .c oz8 <| .c oz9 <| .c oz10 <| .c oz11 <| .c oz12 <| .c oz7 <| .c oz8 <| .c oz9 <| .c oz16 <| .c oz16 <| .c oz16 <| .c oz10 <| .c oz10 <| .c oz21 <| .c (show (0 : Int) ≤ (2 : Int) by omega) <| .c (show (2 : Int) < (↑(6 : Nat) : Int) by omega) <| .c oz24 <| .c oz6 <| .c (show (0 : Int) ≤ (3 : Int) by omega) <| .c (show (3 : Int) < (↑(6 : Nat) : Int) by omega) <| .c oz28 <| .c oz6 <| .c oz3 <| .c oz4 <| .c oz5 <| .c oz6 <| .c (show (0 : Int) ≤ (4 : Int) by omega) <| .c (show (4 : Int) < (↑(6 : Nat) : Int) by omega) <| .c oz36 <| .c oz6 <| .c (show (0 : Int) ≤ (5 : Int) by omega) <| .c (show (5 : Int) < (↑(6 : Nat) : Int) by omega) <| .c oz40 <| .c oz6 <| .c (show (r5.snd != 0) = false by (simp; omega)) <| .c (show WeakL [AV.agg [i64 v_kd, i64 v_na, i64 0, i64 v_nk, i64 v_ns, i64 v_np, i64 0, i8 0, i8 0, AV.lit (Value.slice none 0 0), AV.lit (Value.slice none 0 0), i32 0, i64 0, i8 0, i32 0, i64 0, i8 0, i8 0, i8 0]] [AV.agg [i64 (Nod.mk v_kd v_na 0 v_nk v_ns v_np 0 0 0 [] [] 0 0 0 0 0 0 0 0).kd, i64 (Nod.mk v_kd v_na 0 v_nk v_ns v_np 0 0 0 [] [] 0 0 0 0 0 0 0 0).na, i64 (Nod.mk v_kd v_na 0 v_nk v_ns v_np 0 0 0 [] [] 0 0 0 0 0 0 0 0).nb, i64 (Nod.mk v_kd v_na 0 v_nk v_ns v_np 0 0 0 [] [] 0 0 0 0 0 0 0 0).nk, i64 (Nod.mk v_kd v_na 0 v_nk v_ns v_np 0 0 0 [] [] 0 0 0 0 0 0 0 0).ns, i64 (Nod.mk v_kd v_na 0 v_nk v_ns v_np 0 0 0 [] [] 0 0 0 0 0 0 0 0).np, i64 (Nod.mk v_kd v_na 0 v_nk v_ns v_np 0 0 0 [] [] 0 0 0 0 0 0 0 0).no, i8 (Nod.mk v_kd v_na 0 v_nk v_ns v_np 0 0 0 [] [] 0 0 0 0 0 0 0 0).za, i8 (Nod.mk v_kd v_na 0 v_nk v_ns v_np 0 0 0 [] [] 0 0 0 0 0 0 0 0).zb, AV.sl 1 [], AV.sl 1 [], i32 (Nod.mk v_kd v_na 0 v_nk v_ns v_np 0 0 0 [] [] 0 0 0 0 0 0 0 0).qm, i64 (Nod.mk v_kd v_na 0 v_nk v_ns v_np 0 0 0 [] [] 0 0 0 0 0 0 0 0).qs, i8 (Nod.mk v_kd v_na 0 v_nk v_ns v_np 0 0 0 [] [] 0 0 0 0 0 0 0 0).qz, i32 (Nod.mk v_kd v_na 0 v_nk v_ns v_np 0 0 0 [] [] 0 0 0 0 0 0 0 0).rm, i64 (Nod.mk v_kd v_na 0 v_nk v_ns v_np 0 0 0 [] [] 0 0 0 0 0 0 0 0).rs, i8 (Nod.mk v_kd v_na 0 v_nk v_ns v_np 0 0 0 [] [] 0 0 0 0 0 0 0 0).rz, i8 (Nod.mk v_kd v_na 0 v_nk v_ns v_np 0 0 0 [] [] 0 0 0 0 0 0 0 0).lo, i8 (Nod.mk v_kd v_na 0 v_nk v_ns v_np 0 0 0 [] [] 0 0 0 0 0 0 0 0).hi]] from (.cons (Weak.agg (.cons (.refl _) (.cons (.refl _) (.cons (.refl _) (.cons (.refl _) (.cons (.refl _) (.cons (.refl _) (.cons (.refl _) (.cons (.refl _) (.cons (.refl _) (.cons (Weak.nil _) (.cons (Weak.nil _) (.cons (.refl _) (.cons (.refl _) (.cons (.refl _) (.cons (.refl _) (.cons (.refl _) (.cons (.refl _) (.cons (.refl _) (.cons (.refl _) .nil)))))))))))))))))))) .nil)) <| .c oz44 <| .c (show (checkE (Nod.mk v_kd v_na 0 v_nk v_ns v_np 0 0 0 [] [] 0 0 0 0 0 0 0 0) != 0) = false by (simp; omega)) <| .c (show Weak (AV.tup [AV.agg [i64 v_kd, i64 v_na, i64 0, i64 v_nk, i64 v_ns, i64 v_np, i64 0, i8 0, i8 0, AV.lit (Value.slice none 0 0), AV.lit (Value.slice none 0 0), i32 0, i64 0, i8 0, i32 0, i64 0, i8 0, i8 0, i8 0], i64 0]) (AV.tup [AV.agg [i64 v_kd, i64 v_na, i64 0, i64 v_nk, i64 v_ns, i64 v_np, i64 0, i8 0, i8 0, AV.sl 1 [], AV.sl 1 [], i32 0, i64 0, i8 0, i32 0, i64 0, i8 0, i8 0, i8 0], i64 0]) from (Weak.tup (.cons (Weak.agg (.cons (.refl _) (.cons (.refl _) (.cons (.refl _) (.cons (.refl _) (.cons (.refl _) (.cons (.refl _) (.cons (.refl _) (.cons (.refl _) (.cons (.refl _) (.cons (Weak.nil _) (.cons (Weak.nil _) (.cons (.refl _) (.cons (.refl _) (.cons (.refl _) (.cons (.refl _) (.cons (.refl _) (.cons (.refl _) (.cons (.refl _) (.cons (.refl _) .nil)))))))))))))))))))) (.cons (.refl _) .nil)))) <| .n)

set_option maxRecDepth 100000 in
set_option maxHeartbeats 2000000 in
theorem rw_6b (xs : List Int) (r r1 r2 r3 r4 r5 r6 r7 r8 r9 r10 r11 r12 : Rrf) (v_kd v_na v_nb v_za v_zb v_qm v_qs v_qz v_rm v_rs v_lo v_hi : Int) (g1 : VM Try.prog 109 [.ptr 100000 0 0, i64 9] [(100000, .var (rrC xs r))] (i64 v_kd) [(100000, .var (rrC xs r1))]) (g2 : VM Try.prog 109 [.ptr 100000 0 0, i64 1024] [(100000, .var (rrC xs r1))] (i64 v_na) [(100000, .var (rrC xs r2))]) (g3 : VM Try.prog 109 [.ptr 100000 0 0, i64 1024] [(100000, .var (rrC xs r2))] (i64 v_nb) [(100000, .var (rrC xs r3))]) (g4 : VM Try.prog 111 [.ptr 100000 0 0] [(100000, .var (rrC xs r3))] (i8 v_za) [(100000, .var (rrC xs r4))]) (g5 : VM Try.prog 111 [.ptr 100000 0 0] [(100000, .var (rrC xs r4))] (i8 v_zb) [(100000, .var (rrC xs r5))]) (g6 : VM Try.prog 109 [.ptr 100000 0 0, i64 2147483647] [(100000, .var (rrC xs r5))] (i64 v_qm) [(100000, .var (rrC xs r6))]) (g7 : VM Try.prog 109 [.ptr 100000 0 0, i64 62] [(100000, .var (rrC xs r6))] (i64 v_qs) [(100000, .var (rrC xs r7))]) (g8 : VM Try.prog 111 [.ptr 100000 0 0] [(100000, .var (rrC xs r7))] (i8 v_qz) [(100000, .var (rrC xs r8))]) (g9 : VM Try.prog 109 [.ptr 100000 0 0, i64 2147483647] [(100000, .var (rrC xs r8))] (i64 v_rm) [(100000, .var (rrC xs r9))]) (g10 : VM Try.prog 109 [.ptr 100000 0 0, i64 62] [(100000, .var (rrC xs r9))] (i64 v_rs) [(100000, .var (rrC xs r10))]) (g11 : VM Try.prog 111 [.ptr 100000 0 0] [(100000, .var (rrC xs r10))] (i8 v_lo) [(100000, .var (rrC xs r11))]) (g12 : VM Try.prog 111 [.ptr 100000 0 0] [(100000, .var (rrC xs r11))] (i8 v_hi) [(100000, .var (rrC xs r12))]) (hk : v_kd = 6) (h9 : In64 v_kd) (h_qm : 0 ≤ v_qm ∧ v_qm ≤ 2147483647) (h_rm : 0 ≤ v_rm ∧ v_rm ≤ 2147483647) (hbad : r12.2 ≠ 0) : VM Try.prog 41 ([.ptr 100000 0 0]) ([(100000, .var (rrC xs r))]) (.tup [.agg [i64 0, i64 0, i64 0, i64 0, i64 0, i64 0, i64 0, i8 0, i8 0, .sl 1 [], .sl 1 [], i32 0, i64 0, i8 0, i32 0, i64 0, i8 0, i8 0, i8 0], i64 r12.2]) ([(100000, .var (rrC xs r12))]) := by
  have oz0 := @g1
  have oz1 := @g2
  have oz2 := @tells_6 (v_kd) hk
  have oz3 := (show (0 : Int) ≤ (0 : Int) by omega)
  have oz4 := (show (0 : Int) < (↑(6 : Nat) : Int) by omega)
  have oz5 := (show [[bv true], [bv false], [bv false], [bv true], [bv false], [bv true]][(0 : Nat)]? = some [bv true] from rfl)
  have oz6 := (show true = true by with_reducible rfl)
  have oz7 := @g3
  have oz8 := (show (0 : Int) ≤ (1 : Int) by omega)
  have oz9 := (show (1 : Int) < (↑(6 : Nat) : Int) by omega)
  have oz10 := (show [[bv true], [bv false], [bv false], [bv true], [bv false], [bv true]][(1 : Nat)]? = some [bv false] from rfl)
  have oz11 := (show false = false by with_reducible rfl)
  have oz22 := (show [[bv true], [bv false], [bv false], [bv true], [bv false], [bv true]][(2 : Nat)]? = some [bv false] from rfl)
  have oz26 := (show [[bv true], [bv false], [bv false], [bv true], [bv false], [bv true]][(3 : Nat)]? = some [bv true] from rfl)
  have oz28 := @g4
  have oz33 := @g5
  have oz36 := (show [[bv true], [bv false], [bv false], [bv true], [bv false], [bv true]][(4 : Nat)]? = some [bv false] from rfl)
  have oz40 := (show [[bv true], [bv false], [bv false], [bv true], [bv false], [bv true]][(5 : Nat)]? = some [bv true] from rfl)
  have oz42 := @g6
  have oz44 := @g7
  have oz45 := @g8
  have oz50 := @g9
  have oz52 := @g10
  have oz53 := @g11
  have oz54 := @g12
  exact VM.run (fn := Try.f41) (W := [.r [] [], .r [] [.callm [(100000, 100000)] [] (rM oz0) (oM oz0), .callm [(100000, 100000)] [] (rM oz1) (oM oz1)], .r [] [.callr (rO oz2)], .r [] [.row (sO oz5)], .br true, .r [] [.callm [(100000, 100000)] [] (rM oz7) (oM oz7)], .r [] [.row (sO oz10)], .br false, .r [] [.row (sO oz10), .br true, .br true, .br true, .br false], .br false, .r [] [.row (sO oz10)], .br false, .r [] [.row (sO oz26)], .br true, .r [] [.callm [(100000, 100000)] [] (rM oz28) (oM oz28)], .r [] [.row (sO oz5)], .br true, .r [] [.callm [(100000, 100000)] [] (rM oz33) (oM oz33)], .r [] [.row (sO oz36)], .br false, .r [] [.row (sO oz40)], .br true, .r [] [.callm [(100000, 100000)] [] (rM oz42) (oM oz42), .n v_qm, .callm [(100000, 100000)] [] (rM oz44) (oM oz44), .callm [(100000, 100000)] [] (rM oz45) (oM oz45)], .r [] [.row (sO oz5)], .br true, .r [] [.callm [(100000, 100000)] [] (rM oz50) (oM oz50), .n v_rm, .callm [(100000, 100000)] [] (rM oz52) (oM oz52)], .r [] [.callm [(100000, 100000)] [] (rM oz53) (oM oz53)], .r [] [.callm [(100000, 100000)] [] (rM oz54) (oM oz54)], .r [] [], .br true, .r [] []]) (G := [.drop [2, 4, 5], .weak 0 (AV.tup [AV.agg [i64 0, i64 0, i64 0, i64 0, i64 0, i64 0, i64 0, i8 0, i8 0, AV.sl 1 [], AV.sl 1 [], i32 0, i64 0, i8 0, i32 0, i64 0, i8 0, i8 0, i8 0], i64 r12.snd]), .sort]) Try.func41 (by kernel_rfl) (.c oz0 <| .c oz1 <| .c oz2 <| .c oz3 <| .c oz4 <| .c oz5 <| .c oz6 <| .c oz7 <| .c oz8 <| .c oz9 <| .c oz10 <| .c oz11 <| .c oz8 <| .c oz9 <| .c oz10 <| .c oz11 <| .c oz11 <| .c oz11 <| .c oz11 <| .c (show (v_kd == 8) = false by (refine decide_eq_false ?_; omega)) <| .c (show (0 : Int) ≤ (2 : Int) by omega) <| .c (show (2 : Int) < (↑(6 : Nat) : Int) by omega) <| .c oz22 <| .c oz11 <| .c (show (0 : Int) ≤ (3 : Int) by omega) <| .c (show (3 : Int) < (↑(6 : Nat) : Int) by omega) <| .c oz26 <| .c oz6 <| .c oz28 <| .c oz3 <| .c oz4 <| .c oz5 <| .c oz6 <| .c oz33 <| .c (show (0 : Int) ≤ (4 : Int) by omega) <| .c (show (4 : Int) < (↑(6 : Nat) : Int) by omega) <| .c oz36 <| .c oz11 <| .c (show (0 : Int) ≤ (5 : Int) by omega) <| .c (show (5 : Int) < (↑(6 : Nat) : Int) by omega) <| .c oz40 <| .c oz6 <| .c oz42 <| .c (IntWalk.i32_in v_qm (by omega)) <| .c oz44 <| .c oz45 <| .c oz3 <| .c oz4 <| .c oz5 <| .c oz6 <| .c oz50 <| .c (IntWalk.i32_in v_rm (by omega)) <| .c oz52 <| .c oz53 <| .c oz54 <| .c (show (r12.snd != 0) = true by (simp; omega)) <| .c (show Weak (AV.tup [AV.agg [i64 0, i64 0, i64 0, i64 0, i64 0, i64 0, i64 0, i8 0, i8 0, AV.lit (Value.slice none 0 0), AV.lit (Value.slice none 0 0), i32 0, i64 0, i8 0, i32 0, i64 0, i8 0, i8 0, i8 0], i64 r12.snd]) (AV.tup [AV.agg [i64 0, i64 0, i64 0, i64 0, i64 0, i64 0, i64 0, i8 0, i8 0, AV.sl 1 [], AV.sl 1 [], i32 0, i64 0, i8 0, i32 0, i64 0, i8 0, i8 0, i8 0], i64 r12.snd]) from (Weak.tup (.cons (Weak.agg (.cons (.refl _) (.cons (.refl _) (.cons (.refl _) (.cons (.refl _) (.cons (.refl _) (.cons (.refl _) (.cons (.refl _) (.cons (.refl _) (.cons (.refl _) (.cons (Weak.nil _) (.cons (Weak.nil _) (.cons (.refl _) (.cons (.refl _) (.cons (.refl _) (.cons (.refl _) (.cons (.refl _) (.cons (.refl _) (.cons (.refl _) (.cons (.refl _) .nil)))))))))))))))))))) (.cons (.refl _) .nil)))) <| .n)

set_option maxRecDepth 100000 in
set_option maxHeartbeats 2000000 in
theorem rw_6c (xs : List Int) (r r1 r2 r3 r4 r5 r6 r7 r8 r9 r10 r11 r12 : Rrf) (v_kd v_na v_nb v_za v_zb v_qm v_qs v_qz v_rm v_rs v_lo v_hi : Int) (g1 : VM Try.prog 109 [.ptr 100000 0 0, i64 9] [(100000, .var (rrC xs r))] (i64 v_kd) [(100000, .var (rrC xs r1))]) (g2 : VM Try.prog 109 [.ptr 100000 0 0, i64 1024] [(100000, .var (rrC xs r1))] (i64 v_na) [(100000, .var (rrC xs r2))]) (g3 : VM Try.prog 109 [.ptr 100000 0 0, i64 1024] [(100000, .var (rrC xs r2))] (i64 v_nb) [(100000, .var (rrC xs r3))]) (g4 : VM Try.prog 111 [.ptr 100000 0 0] [(100000, .var (rrC xs r3))] (i8 v_za) [(100000, .var (rrC xs r4))]) (g5 : VM Try.prog 111 [.ptr 100000 0 0] [(100000, .var (rrC xs r4))] (i8 v_zb) [(100000, .var (rrC xs r5))]) (g6 : VM Try.prog 109 [.ptr 100000 0 0, i64 2147483647] [(100000, .var (rrC xs r5))] (i64 v_qm) [(100000, .var (rrC xs r6))]) (g7 : VM Try.prog 109 [.ptr 100000 0 0, i64 62] [(100000, .var (rrC xs r6))] (i64 v_qs) [(100000, .var (rrC xs r7))]) (g8 : VM Try.prog 111 [.ptr 100000 0 0] [(100000, .var (rrC xs r7))] (i8 v_qz) [(100000, .var (rrC xs r8))]) (g9 : VM Try.prog 109 [.ptr 100000 0 0, i64 2147483647] [(100000, .var (rrC xs r8))] (i64 v_rm) [(100000, .var (rrC xs r9))]) (g10 : VM Try.prog 109 [.ptr 100000 0 0, i64 62] [(100000, .var (rrC xs r9))] (i64 v_rs) [(100000, .var (rrC xs r10))]) (g11 : VM Try.prog 111 [.ptr 100000 0 0] [(100000, .var (rrC xs r10))] (i8 v_lo) [(100000, .var (rrC xs r11))]) (g12 : VM Try.prog 111 [.ptr 100000 0 0] [(100000, .var (rrC xs r11))] (i8 v_hi) [(100000, .var (rrC xs r12))]) (hk : v_kd = 6) (h9 : In64 v_kd) (h_qm : 0 ≤ v_qm ∧ v_qm ≤ 2147483647) (h_rm : 0 ≤ v_rm ∧ v_rm ≤ 2147483647) (hbad : r12.2 = 0)  (hc : checkE (⟨v_kd, v_na, v_nb, 0, 0, 0, 0, v_za, v_zb, [], [], v_qm, v_qs, v_qz, v_rm, v_rs, 0, v_lo, v_hi⟩ : Nod) ≠ 0) : VM Try.prog 41 ([.ptr 100000 0 0]) ([(100000, .var (rrC xs r))]) (.tup [.agg [i64 0, i64 0, i64 0, i64 0, i64 0, i64 0, i64 0, i8 0, i8 0, .sl 1 [], .sl 1 [], i32 0, i64 0, i8 0, i32 0, i64 0, i8 0, i8 0, i8 0], i64 (checkE (⟨v_kd, v_na, v_nb, 0, 0, 0, 0, v_za, v_zb, [], [], v_qm, v_qs, v_qz, v_rm, v_rs, 0, v_lo, v_hi⟩ : Nod))]) ([(100000, .var (rrC xs r12))]) := by
  have oz0 := @g1
  have oz1 := @g2
  have oz2 := @tells_6 (v_kd) hk
  have oz3 := (show (0 : Int) ≤ (0 : Int) by omega)
  have oz4 := (show (0 : Int) < (↑(6 : Nat) : Int) by omega)
  have oz5 := (show [[bv true], [bv false], [bv false], [bv true], [bv false], [bv true]][(0 : Nat)]? = some [bv true] from rfl)
  have oz6 := (show true = true by with_reducible rfl)
  have oz7 := @g3
  have oz8 := (show (0 : Int) ≤ (1 : Int) by omega)
  have oz9 := (show (1 : Int) < (↑(6 : Nat) : Int) by omega)
  have oz10 := (show [[bv true], [bv false], [bv false], [bv true], [bv false], [bv true]][(1 : Nat)]? = some [bv false] from rfl)
  have oz11 := (show false = false by with_reducible rfl)
  have oz22 := (show [[bv true], [bv false], [bv false], [bv true], [bv false], [bv true]][(2 : Nat)]? = some [bv false] from rfl)
  have oz26 := (show [[bv true], [bv false], [bv false], [bv true], [bv false], [bv true]][(3 : Nat)]? = some [bv true] from rfl)
  have oz28 := @g4
  have oz33 := @g5
  have oz36 := (show [[bv true], [bv false], [bv false], [bv true], [bv false], [bv true]][(4 : Nat)]? = some [bv false] from rfl)
  have oz40 := (show [[bv true], [bv false], [bv false], [bv true], [bv false], [bv true]][(5 : Nat)]? = some [bv true] from rfl)
  have oz42 := @g6
  have oz44 := @g7
  have oz45 := @g8
  have oz50 := @g9
  have oz52 := @g10
  have oz53 := @g11
  have oz54 := @g12
  have oz57 := @refCheck_v (Nod.mk v_kd v_na v_nb 0 0 0 0 v_za v_zb [] [] v_qm v_qs v_qz v_rm v_rs 0 v_lo v_hi) (by (simp; done)) (by (simp; done)) h9
  exact VM.run (fn := Try.f41) (W := [.r [] [], .r [] [.callm [(100000, 100000)] [] (rM oz0) (oM oz0), .callm [(100000, 100000)] [] (rM oz1) (oM oz1)], .r [] [.callr (rO oz2)], .r [] [.row (sO oz5)], .br true, .r [] [.callm [(100000, 100000)] [] (rM oz7) (oM oz7)], .r [] [.row (sO oz10)], .br false, .r [] [.row (sO oz10), .br true, .br true, .br true, .br false], .br false, .r [] [.row (sO oz10)], .br false, .r [] [.row (sO oz26)], .br true, .r [] [.callm [(100000, 100000)] [] (rM oz28) (oM oz28)], .r [] [.row (sO oz5)], .br true, .r [] [.callm [(100000, 100000)] [] (rM oz33) (oM oz33)], .r [] [.row (sO oz36)], .br false, .r [] [.row (sO oz40)], .br true, .r [] [.callm [(100000, 100000)] [] (rM oz42) (oM oz42), .n v_qm, .callm [(100000, 100000)] [] (rM oz44) (oM oz44), .callm [(100000, 100000)] [] (rM oz45) (oM oz45)], .r [] [.row (sO oz5)], .br true, .r [] [.callm [(100000, 100000)] [] (rM oz50) (oM oz50), .n v_rm, .callm [(100000, 100000)] [] (rM oz52) (oM oz52)], .r [] [.callm [(100000, 100000)] [] (rM oz53) (oM oz53)], .r [] [.callm [(100000, 100000)] [] (rM oz54) (oM oz54)], .r [] [], .br false, .r [] [.call (aO oz57) (rO oz57)], .r [] [], .br true, .r [] []]) (G := [.drop [2, 4, 5], .weak 0 (AV.tup [AV.agg [i64 0, i64 0, i64 0, i64 0, i64 0, i64 0, i64 0, i8 0, i8 0, AV.sl 1 [], AV.sl 1 [], i32 0, i64 0, i8 0, i32 0, i64 0, i8 0, i8 0, i8 0], i64 (checkE (Nod.mk v_kd v_na v_nb 0 0 0 0 v_za v_zb [] [] v_qm v_qs v_qz v_rm v_rs 0 v_lo v_hi))]), .sort]) Try.func41 (by kernel_rfl) (.c oz0 <| .c oz1 <| .c oz2 <| .c oz3 <| .c oz4 <| .c oz5 <| .c oz6 <| .c oz7 <| .c oz8 <| .c oz9 <| .c oz10 <| .c oz11 <| .c oz8 <| .c oz9 <| .c oz10 <| .c oz11 <| .c oz11 <| .c oz11 <| .c oz11 <| .c (show (v_kd == 8) = false by (refine decide_eq_false ?_; omega)) <| .c (show (0 : Int) ≤ (2 : Int) by omega) <| .c (show (2 : Int) < (↑(6 : Nat) : Int) by omega) <| .c oz22 <| .c oz11 <| .c (show (0 : Int) ≤ (3 : Int) by omega) <| .c (show (3 : Int) < (↑(6 : Nat) : Int) by omega) <| .c oz26 <| .c oz6 <| .c oz28 <| .c oz3 <| .c oz4 <| .c oz5 <| .c oz6 <| .c oz33 <| .c (show (0 : Int) ≤ (4 : Int) by omega) <| .c (show (4 : Int) < (↑(6 : Nat) : Int) by omega) <| .c oz36 <| .c oz11 <| .c (show (0 : Int) ≤ (5 : Int) by omega) <| .c (show (5 : Int) < (↑(6 : Nat) : Int) by omega) <| .c oz40 <| .c oz6 <| .c oz42 <| .c (IntWalk.i32_in v_qm (by omega)) <| .c oz44 <| .c oz45 <| .c oz3 <| .c oz4 <| .c oz5 <| .c oz6 <| .c oz50 <| .c (IntWalk.i32_in v_rm (by omega)) <| .c oz52 <| .c oz53 <| .c oz54 <| .c (show (r12.snd != 0) = false by (simp; omega)) <| .c (show WeakL [AV.agg [i64 v_kd, i64 v_na, i64 v_nb, i64 0, i64 0, i64 0, i64 0, i8 v_za, i8 v_zb, AV.lit (Value.slice none 0 0), AV.lit (Value.slice none 0 0), i32 v_qm, i64 v_qs, i8 v_qz, i32 v_rm, i64 v_rs, i8 0, i8 v_lo, i8 v_hi]] [AV.agg [i64 (Nod.mk v_kd v_na v_nb 0 0 0 0 v_za v_zb [] [] v_qm v_qs v_qz v_rm v_rs 0 v_lo v_hi).kd, i64 (Nod.mk v_kd v_na v_nb 0 0 0 0 v_za v_zb [] [] v_qm v_qs v_qz v_rm v_rs 0 v_lo v_hi).na, i64 (Nod.mk v_kd v_na v_nb 0 0 0 0 v_za v_zb [] [] v_qm v_qs v_qz v_rm v_rs 0 v_lo v_hi).nb, i64 (Nod.mk v_kd v_na v_nb 0 0 0 0 v_za v_zb [] [] v_qm v_qs v_qz v_rm v_rs 0 v_lo v_hi).nk, i64 (Nod.mk v_kd v_na v_nb 0 0 0 0 v_za v_zb [] [] v_qm v_qs v_qz v_rm v_rs 0 v_lo v_hi).ns, i64 (Nod.mk v_kd v_na v_nb 0 0 0 0 v_za v_zb [] [] v_qm v_qs v_qz v_rm v_rs 0 v_lo v_hi).np, i64 (Nod.mk v_kd v_na v_nb 0 0 0 0 v_za v_zb [] [] v_qm v_qs v_qz v_rm v_rs 0 v_lo v_hi).no, i8 (Nod.mk v_kd v_na v_nb 0 0 0 0 v_za v_zb [] [] v_qm v_qs v_qz v_rm v_rs 0 v_lo v_hi).za, i8 (Nod.mk v_kd v_na v_nb 0 0 0 0 v_za v_zb [] [] v_qm v_qs v_qz v_rm v_rs 0 v_lo v_hi).zb, AV.sl 1 [], AV.sl 1 [], i32 (Nod.mk v_kd v_na v_nb 0 0 0 0 v_za v_zb [] [] v_qm v_qs v_qz v_rm v_rs 0 v_lo v_hi).qm, i64 (Nod.mk v_kd v_na v_nb 0 0 0 0 v_za v_zb [] [] v_qm v_qs v_qz v_rm v_rs 0 v_lo v_hi).qs, i8 (Nod.mk v_kd v_na v_nb 0 0 0 0 v_za v_zb [] [] v_qm v_qs v_qz v_rm v_rs 0 v_lo v_hi).qz, i32 (Nod.mk v_kd v_na v_nb 0 0 0 0 v_za v_zb [] [] v_qm v_qs v_qz v_rm v_rs 0 v_lo v_hi).rm, i64 (Nod.mk v_kd v_na v_nb 0 0 0 0 v_za v_zb [] [] v_qm v_qs v_qz v_rm v_rs 0 v_lo v_hi).rs, i8 (Nod.mk v_kd v_na v_nb 0 0 0 0 v_za v_zb [] [] v_qm v_qs v_qz v_rm v_rs 0 v_lo v_hi).rz, i8 (Nod.mk v_kd v_na v_nb 0 0 0 0 v_za v_zb [] [] v_qm v_qs v_qz v_rm v_rs 0 v_lo v_hi).lo, i8 (Nod.mk v_kd v_na v_nb 0 0 0 0 v_za v_zb [] [] v_qm v_qs v_qz v_rm v_rs 0 v_lo v_hi).hi]] from (.cons (Weak.agg (.cons (.refl _) (.cons (.refl _) (.cons (.refl _) (.cons (.refl _) (.cons (.refl _) (.cons (.refl _) (.cons (.refl _) (.cons (.refl _) (.cons (.refl _) (.cons (Weak.nil _) (.cons (Weak.nil _) (.cons (.refl _) (.cons (.refl _) (.cons (.refl _) (.cons (.refl _) (.cons (.refl _) (.cons (.refl _) (.cons (.refl _) (.cons (.refl _) .nil)))))))))))))))))))) .nil)) <| .c oz57 <| .c (show (checkE (Nod.mk v_kd v_na v_nb 0 0 0 0 v_za v_zb [] [] v_qm v_qs v_qz v_rm v_rs 0 v_lo v_hi) != 0) = true by (simp; omega)) <| .c (show Weak (AV.tup [AV.agg [i64 0, i64 0, i64 0, i64 0, i64 0, i64 0, i64 0, i8 0, i8 0, AV.lit (Value.slice none 0 0), AV.lit (Value.slice none 0 0), i32 0, i64 0, i8 0, i32 0, i64 0, i8 0, i8 0, i8 0], i64 (checkE (Nod.mk v_kd v_na v_nb 0 0 0 0 v_za v_zb [] [] v_qm v_qs v_qz v_rm v_rs 0 v_lo v_hi))]) (AV.tup [AV.agg [i64 0, i64 0, i64 0, i64 0, i64 0, i64 0, i64 0, i8 0, i8 0, AV.sl 1 [], AV.sl 1 [], i32 0, i64 0, i8 0, i32 0, i64 0, i8 0, i8 0, i8 0], i64 (checkE (Nod.mk v_kd v_na v_nb 0 0 0 0 v_za v_zb [] [] v_qm v_qs v_qz v_rm v_rs 0 v_lo v_hi))]) from (Weak.tup (.cons (Weak.agg (.cons (.refl _) (.cons (.refl _) (.cons (.refl _) (.cons (.refl _) (.cons (.refl _) (.cons (.refl _) (.cons (.refl _) (.cons (.refl _) (.cons (.refl _) (.cons (Weak.nil _) (.cons (Weak.nil _) (.cons (.refl _) (.cons (.refl _) (.cons (.refl _) (.cons (.refl _) (.cons (.refl _) (.cons (.refl _) (.cons (.refl _) (.cons (.refl _) .nil)))))))))))))))))))) (.cons (.refl _) .nil)))) <| .n)

set_option maxRecDepth 100000 in
set_option maxHeartbeats 2000000 in
theorem rw_6y (xs : List Int) (r r1 r2 r3 r4 r5 r6 r7 r8 r9 r10 r11 r12 : Rrf) (v_kd v_na v_nb v_za v_zb v_qm v_qs v_qz v_rm v_rs v_lo v_hi : Int) (g1 : VM Try.prog 109 [.ptr 100000 0 0, i64 9] [(100000, .var (rrC xs r))] (i64 v_kd) [(100000, .var (rrC xs r1))]) (g2 : VM Try.prog 109 [.ptr 100000 0 0, i64 1024] [(100000, .var (rrC xs r1))] (i64 v_na) [(100000, .var (rrC xs r2))]) (g3 : VM Try.prog 109 [.ptr 100000 0 0, i64 1024] [(100000, .var (rrC xs r2))] (i64 v_nb) [(100000, .var (rrC xs r3))]) (g4 : VM Try.prog 111 [.ptr 100000 0 0] [(100000, .var (rrC xs r3))] (i8 v_za) [(100000, .var (rrC xs r4))]) (g5 : VM Try.prog 111 [.ptr 100000 0 0] [(100000, .var (rrC xs r4))] (i8 v_zb) [(100000, .var (rrC xs r5))]) (g6 : VM Try.prog 109 [.ptr 100000 0 0, i64 2147483647] [(100000, .var (rrC xs r5))] (i64 v_qm) [(100000, .var (rrC xs r6))]) (g7 : VM Try.prog 109 [.ptr 100000 0 0, i64 62] [(100000, .var (rrC xs r6))] (i64 v_qs) [(100000, .var (rrC xs r7))]) (g8 : VM Try.prog 111 [.ptr 100000 0 0] [(100000, .var (rrC xs r7))] (i8 v_qz) [(100000, .var (rrC xs r8))]) (g9 : VM Try.prog 109 [.ptr 100000 0 0, i64 2147483647] [(100000, .var (rrC xs r8))] (i64 v_rm) [(100000, .var (rrC xs r9))]) (g10 : VM Try.prog 109 [.ptr 100000 0 0, i64 62] [(100000, .var (rrC xs r9))] (i64 v_rs) [(100000, .var (rrC xs r10))]) (g11 : VM Try.prog 111 [.ptr 100000 0 0] [(100000, .var (rrC xs r10))] (i8 v_lo) [(100000, .var (rrC xs r11))]) (g12 : VM Try.prog 111 [.ptr 100000 0 0] [(100000, .var (rrC xs r11))] (i8 v_hi) [(100000, .var (rrC xs r12))]) (hk : v_kd = 6) (h9 : In64 v_kd) (h_qm : 0 ≤ v_qm ∧ v_qm ≤ 2147483647) (h_rm : 0 ≤ v_rm ∧ v_rm ≤ 2147483647) (hbad : r12.2 = 0)  (hc : checkE (⟨v_kd, v_na, v_nb, 0, 0, 0, 0, v_za, v_zb, [], [], v_qm, v_qs, v_qz, v_rm, v_rs, 0, v_lo, v_hi⟩ : Nod) = 0) : VM Try.prog 41 ([.ptr 100000 0 0]) ([(100000, .var (rrC xs r))]) (.tup [nod (⟨v_kd, v_na, v_nb, 0, 0, 0, 0, v_za, v_zb, [], [], v_qm, v_qs, v_qz, v_rm, v_rs, 0, v_lo, v_hi⟩ : Nod), i64 0]) ([(100000, .var (rrC xs r12))]) := by
  have oz0 := @g1
  have oz1 := @g2
  have oz2 := @tells_6 (v_kd) hk
  have oz3 := (show (0 : Int) ≤ (0 : Int) by omega)
  have oz4 := (show (0 : Int) < (↑(6 : Nat) : Int) by omega)
  have oz5 := (show [[bv true], [bv false], [bv false], [bv true], [bv false], [bv true]][(0 : Nat)]? = some [bv true] from rfl)
  have oz6 := (show true = true by with_reducible rfl)
  have oz7 := @g3
  have oz8 := (show (0 : Int) ≤ (1 : Int) by omega)
  have oz9 := (show (1 : Int) < (↑(6 : Nat) : Int) by omega)
  have oz10 := (show [[bv true], [bv false], [bv false], [bv true], [bv false], [bv true]][(1 : Nat)]? = some [bv false] from rfl)
  have oz11 := (show false = false by with_reducible rfl)
  have oz22 := (show [[bv true], [bv false], [bv false], [bv true], [bv false], [bv true]][(2 : Nat)]? = some [bv false] from rfl)
  have oz26 := (show [[bv true], [bv false], [bv false], [bv true], [bv false], [bv true]][(3 : Nat)]? = some [bv true] from rfl)
  have oz28 := @g4
  have oz33 := @g5
  have oz36 := (show [[bv true], [bv false], [bv false], [bv true], [bv false], [bv true]][(4 : Nat)]? = some [bv false] from rfl)
  have oz40 := (show [[bv true], [bv false], [bv false], [bv true], [bv false], [bv true]][(5 : Nat)]? = some [bv true] from rfl)
  have oz42 := @g6
  have oz44 := @g7
  have oz45 := @g8
  have oz50 := @g9
  have oz52 := @g10
  have oz53 := @g11
  have oz54 := @g12
  have oz57 := @refCheck_v (Nod.mk v_kd v_na v_nb 0 0 0 0 v_za v_zb [] [] v_qm v_qs v_qz v_rm v_rs 0 v_lo v_hi) (by (simp; done)) (by (simp; done)) h9
  exact VM.run (fn := Try.f41) (W := [.r [] [], .r [] [.callm [(100000, 100000)] [] (rM oz0) (oM oz0), .callm [(100000, 100000)] [] (rM oz1) (oM oz1)], .r [] [.callr (rO oz2)], .r [] [.row (sO oz5)], .br true, .r [] [.callm [(100000, 100000)] [] (rM oz7) (oM oz7)], .r [] [.row (sO oz10)], .br false, .r [] [.row (sO oz10), .br true, .br true, .br true, .br false], .br false, .r [] [.row (sO oz10)], .br false, .r [] [.row (sO oz26)], .br true, .r [] [.callm [(100000, 100000)] [] (rM oz28) (oM oz28)], .r [] [.row (sO oz5)], .br true, .r [] [.callm [(100000, 100000)] [] (rM oz33) (oM oz33)], .r [] [.row (sO oz36)], .br false, .r [] [.row (sO oz40)], .br true, .r [] [.callm [(100000, 100000)] [] (rM oz42) (oM oz42), .n v_qm, .callm [(100000, 100000)] [] (rM oz44) (oM oz44), .callm [(100000, 100000)] [] (rM oz45) (oM oz45)], .r [] [.row (sO oz5)], .br true, .r [] [.callm [(100000, 100000)] [] (rM oz50) (oM oz50), .n v_rm, .callm [(100000, 100000)] [] (rM oz52) (oM oz52)], .r [] [.callm [(100000, 100000)] [] (rM oz53) (oM oz53)], .r [] [.callm [(100000, 100000)] [] (rM oz54) (oM oz54)], .r [] [], .br false, .r [] [.call (aO oz57) (rO oz57)], .r [] [], .br false, .r [] []]) (G := [.drop [2, 4, 5], .weak 0 (AV.tup [AV.agg [i64 v_kd, i64 v_na, i64 v_nb, i64 0, i64 0, i64 0, i64 0, i8 v_za, i8 v_zb, AV.sl 1 [], AV.sl 1 [], i32 v_qm, i64 v_qs, i8 v_qz, i32 v_rm, i64 v_rs, i8 0, i8 v_lo, i8 v_hi], i64 0]), .sort]) Try.func41 (by kernel_rfl) (.c oz0 <| .c oz1 <| .c oz2 <| .c oz3 <| .c oz4 <| .c oz5 <| .c oz6 <| .c oz7 <| .c oz8 <| .c oz9 <| .c oz10 <| .c oz11 <| .c oz8 <| .c oz9 <| .c oz10 <| .c oz11 <| .c oz11 <| .c oz11 <| .c oz11 <| .c (show (v_kd == 8) = false by (refine decide_eq_false ?_; omega)) <| .c (show (0 : Int) ≤ (2 : Int) by omega) <| .c (show (2 : Int) < (↑(6 : Nat) : Int) by omega) <| .c oz22 <| .c oz11 <| .c (show (0 : Int) ≤ (3 : Int) by omega) <| .c (show (3 : Int) < (↑(6 : Nat) : Int) by omega) <| .c oz26 <| .c oz6 <| .c oz28 <| .c oz3 <| .c oz4 <| .c oz5 <| .c oz6 <| .c oz33 <| .c (show (0 : Int) ≤ (4 : Int) by omega) <| .c (show (4 : Int) < (↑(6 : Nat) : Int) by omega) <| .c oz36 <| .c oz11 <| .c (show (0 : Int) ≤ (5 : Int) by omega) <| .c (show (5 : Int) < (↑(6 : Nat) : Int) by omega) <| .c oz40 <| .c oz6 <| .c oz42 <| .c (IntWalk.i32_in v_qm (by omega)) <| .c oz44 <| .c oz45 <| .c oz3 <| .c oz4 <| .c oz5 <| .c oz6 <| .c oz50 <| .c (IntWalk.i32_in v_rm (by omega)) <| .c oz52 <| .c oz53 <| .c oz54 <| .c (show (r12.snd != 0) = false by (simp; omega)) <| .c (show WeakL [AV.agg [i64 v_kd, i64 v_na, i64 v_nb, i64 0, i64 0, i64 0, i64 0, i8 v_za, i8 v_zb, AV.lit (Value.slice none 0 0), AV.lit (Value.slice none 0 0), i32 v_qm, i64 v_qs, i8 v_qz, i32 v_rm, i64 v_rs, i8 0, i8 v_lo, i8 v_hi]] [AV.agg [i64 (Nod.mk v_kd v_na v_nb 0 0 0 0 v_za v_zb [] [] v_qm v_qs v_qz v_rm v_rs 0 v_lo v_hi).kd, i64 (Nod.mk v_kd v_na v_nb 0 0 0 0 v_za v_zb [] [] v_qm v_qs v_qz v_rm v_rs 0 v_lo v_hi).na, i64 (Nod.mk v_kd v_na v_nb 0 0 0 0 v_za v_zb [] [] v_qm v_qs v_qz v_rm v_rs 0 v_lo v_hi).nb, i64 (Nod.mk v_kd v_na v_nb 0 0 0 0 v_za v_zb [] [] v_qm v_qs v_qz v_rm v_rs 0 v_lo v_hi).nk, i64 (Nod.mk v_kd v_na v_nb 0 0 0 0 v_za v_zb [] [] v_qm v_qs v_qz v_rm v_rs 0 v_lo v_hi).ns, i64 (Nod.mk v_kd v_na v_nb 0 0 0 0 v_za v_zb [] [] v_qm v_qs v_qz v_rm v_rs 0 v_lo v_hi).np, i64 (Nod.mk v_kd v_na v_nb 0 0 0 0 v_za v_zb [] [] v_qm v_qs v_qz v_rm v_rs 0 v_lo v_hi).no, i8 (Nod.mk v_kd v_na v_nb 0 0 0 0 v_za v_zb [] [] v_qm v_qs v_qz v_rm v_rs 0 v_lo v_hi).za, i8 (Nod.mk v_kd v_na v_nb 0 0 0 0 v_za v_zb [] [] v_qm v_qs v_qz v_rm v_rs 0 v_lo v_hi).zb, AV.sl 1 [], AV.sl 1 [], i32 (Nod.mk v_kd v_na v_nb 0 0 0 0 v_za v_zb [] [] v_qm v_qs v_qz v_rm v_rs 0 v_lo v_hi).qm, i64 (Nod.mk v_kd v_na v_nb 0 0 0 0 v_za v_zb [] [] v_qm v_qs v_qz v_rm v_rs 0 v_lo v_hi).qs, i8 (Nod.mk v_kd v_na v_nb 0 0 0 0 v_za v_zb [] [] v_qm v_qs v_qz v_rm v_rs 0 v_lo v_hi).qz, i32 (Nod.mk v_kd v_na v_nb 0 0 0 0 v_za v_zb [] [] v_qm v_qs v_qz v_rm v_rs 0 v_lo v_hi).rm, i64 (Nod.mk v_kd v_na v_nb 0 0 0 0 v_za v_zb [] [] v_qm v_qs v_qz v_rm v_rs 0 v_lo v_hi).rs, i8 (Nod.mk v_kd v_na v_nb 0 0 0 0 v_za v_zb [] [] v_qm v_qs v_qz v_rm v_rs 0 v_lo v_hi).rz, i8 (Nod.mk v_kd v_na v_nb 0 0 0 0 v_za v_zb [] [] v_qm v_qs v_qz v_rm v_rs 0 v_lo v_hi).lo, i8 (Nod.mk v_kd v_na v_nb 0 0 0 0 v_za v_zb [] [] v_qm v_qs v_qz v_rm v_rs 0 v_lo v_hi).hi]] from (.cons (Weak.agg (.cons (.refl _) (.cons (.refl _) (.cons (.refl _) (.cons (.refl _) (.cons (.refl _) (.cons (.refl _) (.cons (.refl _) (.cons (.refl _) (.cons (.refl _) (.cons (Weak.nil _) (.cons (Weak.nil _) (.cons (.refl _) (.cons (.refl _) (.cons (.refl _) (.cons (.refl _) (.cons (.refl _) (.cons (.refl _) (.cons (.refl _) (.cons (.refl _) .nil)))))))))))))))))))) .nil)) <| .c oz57 <| .c (show (checkE (Nod.mk v_kd v_na v_nb 0 0 0 0 v_za v_zb [] [] v_qm v_qs v_qz v_rm v_rs 0 v_lo v_hi) != 0) = false by (simp; omega)) <| .c (show Weak (AV.tup [AV.agg [i64 v_kd, i64 v_na, i64 v_nb, i64 0, i64 0, i64 0, i64 0, i8 v_za, i8 v_zb, AV.lit (Value.slice none 0 0), AV.lit (Value.slice none 0 0), i32 v_qm, i64 v_qs, i8 v_qz, i32 v_rm, i64 v_rs, i8 0, i8 v_lo, i8 v_hi], i64 0]) (AV.tup [AV.agg [i64 v_kd, i64 v_na, i64 v_nb, i64 0, i64 0, i64 0, i64 0, i8 v_za, i8 v_zb, AV.sl 1 [], AV.sl 1 [], i32 v_qm, i64 v_qs, i8 v_qz, i32 v_rm, i64 v_rs, i8 0, i8 v_lo, i8 v_hi], i64 0]) from (Weak.tup (.cons (Weak.agg (.cons (.refl _) (.cons (.refl _) (.cons (.refl _) (.cons (.refl _) (.cons (.refl _) (.cons (.refl _) (.cons (.refl _) (.cons (.refl _) (.cons (.refl _) (.cons (Weak.nil _) (.cons (Weak.nil _) (.cons (.refl _) (.cons (.refl _) (.cons (.refl _) (.cons (.refl _) (.cons (.refl _) (.cons (.refl _) (.cons (.refl _) (.cons (.refl _) .nil)))))))))))))))))))) (.cons (.refl _) .nil)))) <| .n)

set_option maxRecDepth 100000 in
set_option maxHeartbeats 2000000 in
theorem rw_7b (xs : List Int) (r r1 r2 r3 r4 r5 r6 r7 r8 : Rrf) (v_kd v_na v_za v_qm v_qs v_qz v_lo v_hi : Int) (g1 : VM Try.prog 109 [.ptr 100000 0 0, i64 9] [(100000, .var (rrC xs r))] (i64 v_kd) [(100000, .var (rrC xs r1))]) (g2 : VM Try.prog 109 [.ptr 100000 0 0, i64 1024] [(100000, .var (rrC xs r1))] (i64 v_na) [(100000, .var (rrC xs r2))]) (g3 : VM Try.prog 111 [.ptr 100000 0 0] [(100000, .var (rrC xs r2))] (i8 v_za) [(100000, .var (rrC xs r3))]) (g4 : VM Try.prog 109 [.ptr 100000 0 0, i64 2147483647] [(100000, .var (rrC xs r3))] (i64 v_qm) [(100000, .var (rrC xs r4))]) (g5 : VM Try.prog 109 [.ptr 100000 0 0, i64 62] [(100000, .var (rrC xs r4))] (i64 v_qs) [(100000, .var (rrC xs r5))]) (g6 : VM Try.prog 111 [.ptr 100000 0 0] [(100000, .var (rrC xs r5))] (i8 v_qz) [(100000, .var (rrC xs r6))]) (g7 : VM Try.prog 111 [.ptr 100000 0 0] [(100000, .var (rrC xs r6))] (i8 v_lo) [(100000, .var (rrC xs r7))]) (g8 : VM Try.prog 111 [.ptr 100000 0 0] [(100000, .var (rrC xs r7))] (i8 v_hi) [(100000, .var (rrC xs r8))]) (hk : v_kd = 7) (h9 : In64 v_kd) (h_qm : 0 ≤ v_qm ∧ v_qm ≤ 2147483647) (hbad : r8.2 ≠ 0) : VM Try.prog 41 ([.ptr 100000 0 0]) ([(100000, .var (rrC xs r))]) (.tup [.agg [i64 0, i64 0, i64 0, i64 0, i64 0, i64 0, i64 0, i8 0, i8 0, .sl 1 [], .sl 1 [], i32 0, i64 0, i8 0, i32 0, i64 0, i8 0, i8 0, i8 0], i64 r8.2]) ([(100000, .var (rrC xs r8))]) := by
  have oz0 := @g1
  have oz1 := @g2
  have oz2 := @tells_7 (v_kd) hk
  have oz3 := (show (0 : Int) ≤ (0 : Int) by omega)
  have oz4 := (show (0 : Int) < (↑(6 : Nat) : Int) by omega)
  have oz5 := (show [[bv false], [bv false], [bv false], [bv true], [bv false], [bv true]][(0 : Nat)]? = some [bv false] from rfl)
  have oz6 := (show false = false by with_reducible rfl)
  have oz7 := (show (0 : Int) ≤ (1 : Int) by omega)
  have oz8 := (show (1 : Int) < (↑(6 : Nat) : Int) by omega)
  have oz9 := (show [[bv false], [bv false], [bv false], [bv true], [bv false], [bv true]][(1 : Nat)]? = some [bv false] from rfl)
  have oz21 := (show [[bv false], [bv false], [bv false], [bv true], [bv false], [bv true]][(2 : Nat)]? = some [bv false] from rfl)
  have oz25 := (show [[bv false], [bv false], [bv false], [bv true], [bv false], [bv true]][(3 : Nat)]? = some [bv true] from rfl)
  have oz26 := (show true = true by with_reducible rfl)
  have oz27 := @g3
  have oz34 := (show [[bv false], [bv false], [bv false], [bv true], [bv false], [bv true]][(4 : Nat)]? = some [bv false] from rfl)
  have oz38 := (show [[bv false], [bv false], [bv false], [bv true], [bv false], [bv true]][(5 : Nat)]? = some [bv true] from rfl)
  have oz40 := @g4
  have oz42 := @g5
  have oz43 := @g6
  have oz48 := @g7
  have oz49 := @g8
  exact VM.run (fn := Try.f41) (W := [.r [] [], .r [] [.callm [(100000, 100000)] [] (rM oz0) (oM oz0), .callm [(100000, 100000)] [] (rM oz1) (oM oz1)], .r [] [.callr (rO oz2)], .r [] [.row (sO oz5)], .br false, .r [] [.row (sO oz5)], .br false, .r [] [.row (sO oz5), .br true, .br true, .br true, .br false], .br false, .r [] [.row (sO oz5)], .br false, .r [] [.row (sO oz25)], .br true, .r [] [.callm [(100000, 100000)] [] (rM oz27) (oM oz27)], .r [] [.row (sO oz5)], .br false, .r [] [.row (sO oz5)], .br false, .r [] [.row (sO oz38)], .br true, .r [] [.callm [(100000, 100000)] [] (rM oz40) (oM oz40), .n v_qm, .callm [(100000, 100000)] [] (rM oz42) (oM oz42), .callm [(100000, 100000)] [] (rM oz43) (oM oz43)], .r [] [.row (sO oz5)], .br false, .r [] [.callm [(100000, 100000)] [] (rM oz48) (oM oz48)], .r [] [.callm [(100000, 100000)] [] (rM oz49) (oM oz49)], .r [] [], .br true, .r [] []]) (G := [.drop [2, 4, 5], .weak 0 (AV.tup [AV.agg [i64 0, i64 0, i64 0, i64 0, i64 0, i64 0, i64 0, i8 0, i8 0, AV.sl 1 [], AV.sl 1 [], i32 0, i64 0, i8 0, i32 0, i64 0, i8 0, i8 0, i8 0], i64 r8.snd]), .sort]) Try.func41 (by kernel_rfl) (.c oz0 <| .c oz1 <| .c oz2 <| .c oz3 <| .c oz4 <| .c oz5 <| .c oz6 <| .c oz7 <| .c oz8 <| .c oz9 <| .c oz6 <| .c oz7 <| .c oz8 <| .c oz9 <| .c oz6 <| .c oz6 <| .c oz6 <| .c oz6 <| .c (show (v_kd == 8) = false by (refine decide_eq_false ?_; omega)) <| .c (show (0 : Int) ≤ (2 : Int) by omega) <| .c (show (2 : Int) < (↑(6 : Nat) : Int) by omega) <| .c oz21 <| .c oz6 <| .c (show (0 : Int) ≤ (3 : Int) by omega) <| .c (show (3 : Int) < (↑(6 : Nat) : Int) by omega) <| .c oz25 <| .c oz26 <| .c oz27 <| .c oz3 <| .c oz4 <| .c oz5 <| .c oz6 <| .c (show (0 : Int) ≤ (4 : Int) by omega) <| .c (show (4 : Int) < (↑(6 : Nat) : Int) by omega) <| .c oz34 <| .c oz6 <| .c (show (0 : Int) ≤ (5 : Int) by omega) <| .c (show (5 : Int) < (↑(6 : Nat) : Int) by omega) <| .c oz38 <| .c oz26 <| .c oz40 <| .c (IntWalk.i32_in v_qm (by omega)) <| .c oz42 <| .c oz43 <| .c oz3 <| .c oz4 <| .c oz5 <| .c oz6 <| .c oz48 <| .c oz49 <| .c (show (r8.snd != 0) = true by (simp; omega)) <| .c (show Weak (AV.tup [AV.agg [i64 0, i64 0, i64 0, i64 0, i64 0, i64 0, i64 0, i8 0, i8 0, AV.lit (Value.slice none 0 0), AV.lit (Value.slice none 0 0), i32 0, i64 0, i8 0, i32 0, i64 0, i8 0, i8 0, i8 0], i64 r8.snd]) (AV.tup [AV.agg [i64 0, i64 0, i64 0, i64 0, i64 0, i64 0, i64 0, i8 0, i8 0, AV.sl 1 [], AV.sl 1 [], i32 0, i64 0, i8 0, i32 0, i64 0, i8 0, i8 0, i8 0], i64 r8.snd]) from (Weak.tup (.cons (Weak.agg (.cons (.refl _) (.cons (.refl _) (.cons (.refl _) (.cons (.refl _) (.cons (.refl _) (.cons (.refl _) (.cons (.refl _) (.cons (.refl _) (.cons (.refl _) (.cons (Weak.nil _) (.cons (Weak.nil _) (.cons (.refl _) (.cons (.refl _) (.cons (.refl _) (.cons (.refl _) (.cons (.refl _) (.cons (.refl _) (.cons (.refl _) (.cons (.refl _) .nil)))))))))))))))))))) (.cons (.refl _) .nil)))) <| .n)

set_option maxRecDepth 100000 in
set_option maxHeartbeats 2000000 in
theorem rw_7c (xs : List Int) (r r1 r2 r3 r4 r5 r6 r7 r8 : Rrf) (v_kd v_na v_za v_qm v_qs v_qz v_lo v_hi : Int) (g1 : VM Try.prog 109 [.ptr 100000 0 0, i64 9] [(100000, .var (rrC xs r))] (i64 v_kd) [(100000, .var (rrC xs r1))]) (g2 : VM Try.prog 109 [.ptr 100000 0 0, i64 1024] [(100000, .var (rrC xs r1))] (i64 v_na) [(100000, .var (rrC xs r2))]) (g3 : VM Try.prog 111 [.ptr 100000 0 0] [(100000, .var (rrC xs r2))] (i8 v_za) [(100000, .var (rrC xs r3))]) (g4 : VM Try.prog 109 [.ptr 100000 0 0, i64 2147483647] [(100000, .var (rrC xs r3))] (i64 v_qm) [(100000, .var (rrC xs r4))]) (g5 : VM Try.prog 109 [.ptr 100000 0 0, i64 62] [(100000, .var (rrC xs r4))] (i64 v_qs) [(100000, .var (rrC xs r5))]) (g6 : VM Try.prog 111 [.ptr 100000 0 0] [(100000, .var (rrC xs r5))] (i8 v_qz) [(100000, .var (rrC xs r6))]) (g7 : VM Try.prog 111 [.ptr 100000 0 0] [(100000, .var (rrC xs r6))] (i8 v_lo) [(100000, .var (rrC xs r7))]) (g8 : VM Try.prog 111 [.ptr 100000 0 0] [(100000, .var (rrC xs r7))] (i8 v_hi) [(100000, .var (rrC xs r8))]) (hk : v_kd = 7) (h9 : In64 v_kd) (h_qm : 0 ≤ v_qm ∧ v_qm ≤ 2147483647) (hbad : r8.2 = 0)  (hc : checkE (⟨v_kd, v_na, 0, 0, 0, 0, 0, v_za, 0, [], [], v_qm, v_qs, v_qz, 0, 0, 0, v_lo, v_hi⟩ : Nod) ≠ 0) : VM Try.prog 41 ([.ptr 100000 0 0]) ([(100000, .var (rrC xs r))]) (.tup [.agg [i64 0, i64 0, i64 0, i64 0, i64 0, i64 0, i64 0, i8 0, i8 0, .sl 1 [], .sl 1 [], i32 0, i64 0, i8 0, i32 0, i64 0, i8 0, i8 0, i8 0], i64 (checkE (⟨v_kd, v_na, 0, 0, 0, 0, 0, v_za, 0, [], [], v_qm, v_qs, v_qz, 0, 0, 0, v_lo, v_hi⟩ : Nod))]) ([(100000, .var (rrC xs r8))]) := by
  have oz0 := @g1
  have oz1 := @g2
  have oz2 := @tells_7 (v_kd) hk
  have oz3 := (show (0 : Int) ≤ (0 : Int) by omega)
  have oz4 := (show (0 : Int) < (↑(6 : Nat) : Int) by omega)
  have oz5 := (show [[bv false], [bv false], [bv false], [bv true], [bv false], [bv true]][(0 : Nat)]? = some [bv false] from rfl)
  have oz6 := (show false = false by with_reducible rfl)
  have oz7 := (show (0 : Int) ≤ (1 : Int) by omega)
  have oz8 := (show (1 : Int) < (↑(6 : Nat) : Int) by omega)
  have oz9 := (show [[bv false], [bv false], [bv false], [bv true], [bv false], [bv true]][(1 : Nat)]? = some [bv false] from rfl)
  have oz21 := (show [[bv false], [bv false], [bv false], [bv true], [bv false], [bv true]][(2 : Nat)]? = some [bv false] from rfl)
  have oz25 := (show [[bv false], [bv false], [bv false], [bv true], [bv false], [bv true]][(3 : Nat)]? = some [bv true] from rfl)
  have oz26 := (show true = true by with_reducible rfl)
  have oz27 := @g3
  have oz34 := (show [[bv false], [bv false], [bv false], [bv true], [bv false], [bv true]][(4 : Nat)]? = some [bv false] from rfl)
  have oz38 := (show [[bv false], [bv false], [bv false], [bv true], [bv false], [bv true]][(5 : Nat)]? = some [bv true] from rfl)
  have oz40 := @g4
  have oz42 := @g5
  have oz43 := @g6
  have oz48 := @g7
  have oz49 := @g8
  have oz52 := @refCheck_v (Nod.mk v_kd v_na 0 0 0 0 0 v_za 0 [] [] v_qm v_qs v_qz 0 0 0 v_lo v_hi) (by (simp; done)) (by (simp; done)) h9
  exact VM.run (fn := Try.f41) (W := [.r [] [], .r [] [.callm [(100000, 100000)] [] (rM oz0) (oM oz0), .callm [(100000, 100000)] [] (rM oz1) (oM oz1)], .r [] [.callr (rO oz2)], .r [] [.row (sO oz5)], .br false, .r [] [.row (sO oz5)], .br false, .r [] [.row (sO oz5), .br true, .br true, .br true, .br false], .br false, .r [] [.row (sO oz5)], .br false, .r [] [.row (sO oz25)], .br true, .r [] [.callm [(100000, 100000)] [] (rM oz27) (oM oz27)], .r [] [.row (sO oz5)], .br false, .r [] [.row (sO oz5)], .br false, .r [] [.row (sO oz38)], .br true, .r [] [.callm [(100000, 100000)] [] (rM oz40) (oM oz40), .n v_qm, .callm [(100000, 100000)] [] (rM oz42) (oM oz42), .callm [(100000, 100000)] [] (rM oz43) (oM oz43)], .r [] [.row (sO oz5)], .br false, .r [] [.callm [(100000, 100000)] [] (rM oz48) (oM oz48)], .r [] [.callm [(100000, 100000)] [] (rM oz49) (oM oz49)], .r [] [], .br false, .r [] [.call (aO oz52) (rO oz52)], .r [] [], .br true, .r [] []]) (G := [.drop [2, 4, 5], .weak 0 (AV.tup [AV.agg [i64 0, i64 0, i64 0, i64 0, i64 0, i64 0, i64 0, i8 0, i8 0, AV.sl 1 [], AV.sl 1 [], i32 0, i64 0, i8 0, i32 0, i64 0, i8 0, i8 0, i8 0], i64 (checkE (Nod.mk v_kd v_na 0 0 0 0 0 v_za 0 [] [] v_qm v_qs v_qz 0 0 0 v_lo v_hi))]), .sort]) Try.func41 (by kernel_rfl) (.c oz0 <| .c oz1 <| .c oz2 <| .c oz3 <| .c oz4 <| .c oz5 <| .c oz6 <| .c oz7 <| .c oz8 <| .c oz9 <| .c oz6 <| .c oz7 <| .c oz8 <| .c oz9 <| .c oz6 <| .c oz6 <| .c oz6 <| .c oz6 <| .c (show (v_kd == 8) = false by (refine decide_eq_false ?_; omega)) <| .c (show (0 : Int) ≤ (2 : Int) by omega) <| .c (show (2 : Int) < (↑(6 : Nat) : Int) by omega) <| .c oz21 <| .c oz6 <| .c (show (0 : Int) ≤ (3 : Int) by omega) <| .c (show (3 : Int) < (↑(6 : Nat) : Int) by omega) <| .c oz25 <| .c oz26 <| .c oz27 <| .c oz3 <| .c oz4 <| .c oz5 <| .c oz6 <| .c (show (0 : Int) ≤ (4 : Int) by omega) <| .c (show (4 : Int) < (↑(6 : Nat) : Int) by omega) <| .c oz34 <| .c oz6 <| .c (show (0 : Int) ≤ (5 : Int) by omega) <| .c (show (5 : Int) < (↑(6 : Nat) : Int) by omega) <| .c oz38 <| .c oz26 <| .c oz40 <| .c (IntWalk.i32_in v_qm (by omega)) <| .c oz42 <| .c oz43 <| .c oz3 <| .c oz4 <| .c oz5 <| .c oz6 <| .c oz48 <| .c oz49 <| .c (show (r8.snd != 0) = false by (simp; omega)) <| .c (show WeakL [AV.agg [i64 v_kd, i64 v_na, i64 0, i64 0, i64 0, i64 0, i64 0, i8 v_za, i8 0, AV.lit (Value.slice none 0 0), AV.lit (Value.slice none 0 0), i32 v_qm, i64 v_qs, i8 v_qz, i32 0, i64 0, i8 0, i8 v_lo, i8 v_hi]] [AV.agg [i64 (Nod.mk v_kd v_na 0 0 0 0 0 v_za 0 [] [] v_qm v_qs v_qz 0 0 0 v_lo v_hi).kd, i64 (Nod.mk v_kd v_na 0 0 0 0 0 v_za 0 [] [] v_qm v_qs v_qz 0 0 0 v_lo v_hi).na, i64 (Nod.mk v_kd v_na 0 0 0 0 0 v_za 0 [] [] v_qm v_qs v_qz 0 0 0 v_lo v_hi).nb, i64 (Nod.mk v_kd v_na 0 0 0 0 0 v_za 0 [] [] v_qm v_qs v_qz 0 0 0 v_lo v_hi).nk, i64 (Nod.mk v_kd v_na 0 0 0 0 0 v_za 0 [] [] v_qm v_qs v_qz 0 0 0 v_lo v_hi).ns, i64 (Nod.mk v_kd v_na 0 0 0 0 0 v_za 0 [] [] v_qm v_qs v_qz 0 0 0 v_lo v_hi).np, i64 (Nod.mk v_kd v_na 0 0 0 0 0 v_za 0 [] [] v_qm v_qs v_qz 0 0 0 v_lo v_hi).no, i8 (Nod.mk v_kd v_na 0 0 0 0 0 v_za 0 [] [] v_qm v_qs v_qz 0 0 0 v_lo v_hi).za, i8 (Nod.mk v_kd v_na 0 0 0 0 0 v_za 0 [] [] v_qm v_qs v_qz 0 0 0 v_lo v_hi).zb, AV.sl 1 [], AV.sl 1 [], i32 (Nod.mk v_kd v_na 0 0 0 0 0 v_za 0 [] [] v_qm v_qs v_qz 0 0 0 v_lo v_hi).qm, i64 (Nod.mk v_kd v_na 0 0 0 0 0 v_za 0 [] [] v_qm v_qs v_qz 0 0 0 v_lo v_hi).qs, i8 (Nod.mk v_kd v_na 0 0 0 0 0 v_za 0 [] [] v_qm v_qs v_qz 0 0 0 v_lo v_hi).qz, i32 (Nod.mk v_kd v_na 0 0 0 0 0 v_za 0 [] [] v_qm v_qs v_qz 0 0 0 v_lo v_hi).rm, i64 (Nod.mk v_kd v_na 0 0 0 0 0 v_za 0 [] [] v_qm v_qs v_qz 0 0 0 v_lo v_hi).rs, i8 (Nod.mk v_kd v_na 0 0 0 0 0 v_za 0 [] [] v_qm v_qs v_qz 0 0 0 v_lo v_hi).rz, i8 (Nod.mk v_kd v_na 0 0 0 0 0 v_za 0 [] [] v_qm v_qs v_qz 0 0 0 v_lo v_hi).lo, i8 (Nod.mk v_kd v_na 0 0 0 0 0 v_za 0 [] [] v_qm v_qs v_qz 0 0 0 v_lo v_hi).hi]] from (.cons (Weak.agg (.cons (.refl _) (.cons (.refl _) (.cons (.refl _) (.cons (.refl _) (.cons (.refl _) (.cons (.refl _) (.cons (.refl _) (.cons (.refl _) (.cons (.refl _) (.cons (Weak.nil _) (.cons (Weak.nil _) (.cons (.refl _) (.cons (.refl _) (.cons (.refl _) (.cons (.refl _) (.cons (.refl _) (.cons (.refl _) (.cons (.refl _) (.cons (.refl _) .nil)))))))))))))))))))) .nil)) <| .c oz52 <| .c (show (checkE (Nod.mk v_kd v_na 0 0 0 0 0 v_za 0 [] [] v_qm v_qs v_qz 0 0 0 v_lo v_hi) != 0) = true by (simp; omega)) <| .c (show Weak (AV.tup [AV.agg [i64 0, i64 0, i64 0, i64 0, i64 0, i64 0, i64 0, i8 0, i8 0, AV.lit (Value.slice none 0 0), AV.lit (Value.slice none 0 0), i32 0, i64 0, i8 0, i32 0, i64 0, i8 0, i8 0, i8 0], i64 (checkE (Nod.mk v_kd v_na 0 0 0 0 0 v_za 0 [] [] v_qm v_qs v_qz 0 0 0 v_lo v_hi))]) (AV.tup [AV.agg [i64 0, i64 0, i64 0, i64 0, i64 0, i64 0, i64 0, i8 0, i8 0, AV.sl 1 [], AV.sl 1 [], i32 0, i64 0, i8 0, i32 0, i64 0, i8 0, i8 0, i8 0], i64 (checkE (Nod.mk v_kd v_na 0 0 0 0 0 v_za 0 [] [] v_qm v_qs v_qz 0 0 0 v_lo v_hi))]) from (Weak.tup (.cons (Weak.agg (.cons (.refl _) (.cons (.refl _) (.cons (.refl _) (.cons (.refl _) (.cons (.refl _) (.cons (.refl _) (.cons (.refl _) (.cons (.refl _) (.cons (.refl _) (.cons (Weak.nil _) (.cons (Weak.nil _) (.cons (.refl _) (.cons (.refl _) (.cons (.refl _) (.cons (.refl _) (.cons (.refl _) (.cons (.refl _) (.cons (.refl _) (.cons (.refl _) .nil)))))))))))))))))))) (.cons (.refl _) .nil)))) <| .n)

set_option maxRecDepth 100000 in
set_option maxHeartbeats 2000000 in
theorem rw_7y (xs : List Int) (r r1 r2 r3 r4 r5 r6 r7 r8 : Rrf) (v_kd v_na v_za v_qm v_qs v_qz v_lo v_hi : Int) (g1 : VM Try.prog 109 [.ptr 100000 0 0, i64 9] [(100000, .var (rrC xs r))] (i64 v_kd) [(100000, .var (rrC xs r1))]) (g2 : VM Try.prog 109 [.ptr 100000 0 0, i64 1024] [(100000, .var (rrC xs r1))] (i64 v_na) [(100000, .var (rrC xs r2))]) (g3 : VM Try.prog 111 [.ptr 100000 0 0] [(100000, .var (rrC xs r2))] (i8 v_za) [(100000, .var (rrC xs r3))]) (g4 : VM Try.prog 109 [.ptr 100000 0 0, i64 2147483647] [(100000, .var (rrC xs r3))] (i64 v_qm) [(100000, .var (rrC xs r4))]) (g5 : VM Try.prog 109 [.ptr 100000 0 0, i64 62] [(100000, .var (rrC xs r4))] (i64 v_qs) [(100000, .var (rrC xs r5))]) (g6 : VM Try.prog 111 [.ptr 100000 0 0] [(100000, .var (rrC xs r5))] (i8 v_qz) [(100000, .var (rrC xs r6))]) (g7 : VM Try.prog 111 [.ptr 100000 0 0] [(100000, .var (rrC xs r6))] (i8 v_lo) [(100000, .var (rrC xs r7))]) (g8 : VM Try.prog 111 [.ptr 100000 0 0] [(100000, .var (rrC xs r7))] (i8 v_hi) [(100000, .var (rrC xs r8))]) (hk : v_kd = 7) (h9 : In64 v_kd) (h_qm : 0 ≤ v_qm ∧ v_qm ≤ 2147483647) (hbad : r8.2 = 0)  (hc : checkE (⟨v_kd, v_na, 0, 0, 0, 0, 0, v_za, 0, [], [], v_qm, v_qs, v_qz, 0, 0, 0, v_lo, v_hi⟩ : Nod) = 0) : VM Try.prog 41 ([.ptr 100000 0 0]) ([(100000, .var (rrC xs r))]) (.tup [nod (⟨v_kd, v_na, 0, 0, 0, 0, 0, v_za, 0, [], [], v_qm, v_qs, v_qz, 0, 0, 0, v_lo, v_hi⟩ : Nod), i64 0]) ([(100000, .var (rrC xs r8))]) := by
  have oz0 := @g1
  have oz1 := @g2
  have oz2 := @tells_7 (v_kd) hk
  have oz3 := (show (0 : Int) ≤ (0 : Int) by omega)
  have oz4 := (show (0 : Int) < (↑(6 : Nat) : Int) by omega)
  have oz5 := (show [[bv false], [bv false], [bv false], [bv true], [bv false], [bv true]][(0 : Nat)]? = some [bv false] from rfl)
  have oz6 := (show false = false by with_reducible rfl)
  have oz7 := (show (0 : Int) ≤ (1 : Int) by omega)
  have oz8 := (show (1 : Int) < (↑(6 : Nat) : Int) by omega)
  have oz9 := (show [[bv false], [bv false], [bv false], [bv true], [bv false], [bv true]][(1 : Nat)]? = some [bv false] from rfl)
  have oz21 := (show [[bv false], [bv false], [bv false], [bv true], [bv false], [bv true]][(2 : Nat)]? = some [bv false] from rfl)
  have oz25 := (show [[bv false], [bv false], [bv false], [bv true], [bv false], [bv true]][(3 : Nat)]? = some [bv true] from rfl)
  have oz26 := (show true = true by with_reducible rfl)
  have oz27 := @g3
  have oz34 := (show [[bv false], [bv false], [bv false], [bv true], [bv false], [bv true]][(4 : Nat)]? = some [bv false] from rfl)
  have oz38 := (show [[bv false], [bv false], [bv false], [bv true], [bv false], [bv true]][(5 : Nat)]? = some [bv true] from rfl)
  have oz40 := @g4
  have oz42 := @g5
  have oz43 := @g6
  have oz48 := @g7
  have oz49 := @g8
  have oz52 := @refCheck_v (Nod.mk v_kd v_na 0 0 0 0 0 v_za 0 [] [] v_qm v_qs v_qz 0 0 0 v_lo v_hi) (by (simp; done)) (by (simp; done)) h9
  exact VM.run (fn := Try.f41) (W := [.r [] [], .r [] [.callm [(100000, 100000)] [] (rM oz0) (oM oz0), .callm [(100000, 100000)] [] (rM oz1) (oM oz1)], .r [] [.callr (rO oz2)], .r [] [.row (sO oz5)], .br false, .r [] [.row (sO oz5)], .br false, .r [] [.row (sO oz5), .br true, .br true, .br true, .br false], .br false, .r [] [.row (sO oz5)], .br false, .r [] [.row (sO oz25)], .br true, .r [] [.callm [(100000, 100000)] [] (rM oz27) (oM oz27)], .r [] [.row (sO oz5)], .br false, .r [] [.row (sO oz5)], .br false, .r [] [.row (sO oz38)], .br true, .r [] [.callm [(100000, 100000)] [] (rM oz40) (oM oz40), .n v_qm, .callm [(100000, 100000)] [] (rM oz42) (oM oz42), .callm [(100000, 100000)] [] (rM oz43) (oM oz43)], .r [] [.row (sO oz5)], .br false, .r [] [.callm [(100000, 100000)] [] (rM oz48) (oM oz48)], .r [] [.callm [(100000, 100000)] [] (rM oz49) (oM oz49)], .r [] [], .br false, .r [] [.call (aO oz52) (rO oz52)], .r [] [], .br false, .r [] []]) (G := [.drop [2, 4, 5], .weak 0 (AV.tup [AV.agg [i64 v_kd, i64 v_na, i64 0, i64 0, i64 0, i64 0, i64 0, i8 v_za, i8 0, AV.sl 1 [], AV.sl 1 [], i32 v_qm, i64 v_qs, i8 v_qz, i32 0, i64 0, i8 0, i8 v_lo, i8 v_hi], i64 0]), .sort]) Try.func41 (by kernel_rfl) (.c oz0 <| .c oz1 <| .c oz2 <| .c oz3 <| .c oz4 <| .c oz5 <| .c oz6 <| .c oz7 <| .c oz8 <| .c oz9 <| .c oz6 <| .c oz7 <| .c oz8 <| .c oz9 <| .c oz6 <| .c oz6 <| .c oz6 <| .c oz6 <| .c (show (v_kd == 8) = false by (refine decide_eq_false ?_; omega)) <| .c (show (0 : Int) ≤ (2 : Int) by omega) <| .c (show (2 : Int) < (↑(6 : Nat) : Int) by omega) <| .c oz21 <| .c oz6 <| .c (show (0 : Int) ≤ (3 : Int) by omega) <| .c (show (3 : Int) < (↑(6 : Nat) : Int) by omega) <| .c oz25 <| .c oz26 <| .c oz27 <| .c oz3 <| .c oz4 <| .c oz5 <| .c oz6 <| .c (show (0 : Int) ≤ (4 : Int) by omega) <| .c (show (4 : Int) < (↑(6 : Nat) : Int) by omega) <| .c oz34 <| .c oz6 <| .c (show (0 : Int) ≤ (5 : Int) by omega) <| .c (show (5 : Int) < (↑(6 : Nat) : Int) by omega) <| .c oz38 <| .c oz26 <| .c oz40 <| .c (IntWalk.i32_in v_qm (by omega)) <| .c oz42 <| .c oz43 <| .c oz3 <| .c oz4 <| .c oz5 <| .c oz6 <| .c oz48 <| .c oz49 <| .c (show (r8.snd != 0) = false by (simp; omega)) <| .c (show WeakL [AV.agg [i64 v_kd, i64 v_na, i64 0, i64 0, i64 0, i64 0, i64 0, i8 v_za, i8 0, AV.lit (Value.slice none 0 0), AV.lit (Value.slice none 0 0), i32 v_qm, i64 v_qs, i8 v_qz, i32 0, i64 0, i8 0, i8 v_lo, i8 v_hi]] [AV.agg [i64 (Nod.mk v_kd v_na 0 0 0 0 0 v_za 0 [] [] v_qm v_qs v_qz 0 0 0 v_lo v_hi).kd, i64 (Nod.mk v_kd v_na 0 0 0 0 0 v_za 0 [] [] v_qm v_qs v_qz 0 0 0 v_lo v_hi).na, i64 (Nod.mk v_kd v_na 0 0 0 0 0 v_za 0 [] [] v_qm v_qs v_qz 0 0 0 v_lo v_hi).nb, i64 (Nod.mk v_kd v_na 0 0 0 0 0 v_za 0 [] [] v_qm v_qs v_qz 0 0 0 v_lo v_hi).nk, i64 (Nod.mk v_kd v_na 0 0 0 0 0 v_za 0 [] [] v_qm v_qs v_qz 0 0 0 v_lo v_hi).ns, i64 (Nod.mk v_kd v_na 0 0 0 0 0 v_za 0 [] [] v_qm v_qs v_qz 0 0 0 v_lo v_hi).np, i64 (Nod.mk v_kd v_na 0 0 0 0 0 v_za 0 [] [] v_qm v_qs v_qz 0 0 0 v_lo v_hi).no, i8 (Nod.mk v_kd v_na 0 0 0 0 0 v_za 0 [] [] v_qm v_qs v_qz 0 0 0 v_lo v_hi).za, i8 (Nod.mk v_kd v_na 0 0 0 0 0 v_za 0 [] [] v_qm v_qs v_qz 0 0 0 v_lo v_hi).zb, AV.sl 1 [], AV.sl 1 [], i32 (Nod.mk v_kd v_na 0 0 0 0 0 v_za 0 [] [] v_qm v_qs v_qz 0 0 0 v_lo v_hi).qm, i64 (Nod.mk v_kd v_na 0 0 0 0 0 v_za 0 [] [] v_qm v_qs v_qz 0 0 0 v_lo v_hi).qs, i8 (Nod.mk v_kd v_na 0 0 0 0 0 v_za 0 [] [] v_qm v_qs v_qz 0 0 0 v_lo v_hi).qz, i32 (Nod.mk v_kd v_na 0 0 0 0 0 v_za 0 [] [] v_qm v_qs v_qz 0 0 0 v_lo v_hi).rm, i64 (Nod.mk v_kd v_na 0 0 0 0 0 v_za 0 [] [] v_qm v_qs v_qz 0 0 0 v_lo v_hi).rs, i8 (Nod.mk v_kd v_na 0 0 0 0 0 v_za 0 [] [] v_qm v_qs v_qz 0 0 0 v_lo v_hi).rz, i8 (Nod.mk v_kd v_na 0 0 0 0 0 v_za 0 [] [] v_qm v_qs v_qz 0 0 0 v_lo v_hi).lo, i8 (Nod.mk v_kd v_na 0 0 0 0 0 v_za 0 [] [] v_qm v_qs v_qz 0 0 0 v_lo v_hi).hi]] from (.cons (Weak.agg (.cons (.refl _) (.cons (.refl _) (.cons (.refl _) (.cons (.refl _) (.cons (.refl _) (.cons (.refl _) (.cons (.refl _) (.cons (.refl _) (.cons (.refl _) (.cons (Weak.nil _) (.cons (Weak.nil _) (.cons (.refl _) (.cons (.refl _) (.cons (.refl _) (.cons (.refl _) (.cons (.refl _) (.cons (.refl _) (.cons (.refl _) (.cons (.refl _) .nil)))))))))))))))))))) .nil)) <| .c oz52 <| .c (show (checkE (Nod.mk v_kd v_na 0 0 0 0 0 v_za 0 [] [] v_qm v_qs v_qz 0 0 0 v_lo v_hi) != 0) = false by (simp; omega)) <| .c (show Weak (AV.tup [AV.agg [i64 v_kd, i64 v_na, i64 0, i64 0, i64 0, i64 0, i64 0, i8 v_za, i8 0, AV.lit (Value.slice none 0 0), AV.lit (Value.slice none 0 0), i32 v_qm, i64 v_qs, i8 v_qz, i32 0, i64 0, i8 0, i8 v_lo, i8 v_hi], i64 0]) (AV.tup [AV.agg [i64 v_kd, i64 v_na, i64 0, i64 0, i64 0, i64 0, i64 0, i8 v_za, i8 0, AV.sl 1 [], AV.sl 1 [], i32 v_qm, i64 v_qs, i8 v_qz, i32 0, i64 0, i8 0, i8 v_lo, i8 v_hi], i64 0]) from (Weak.tup (.cons (Weak.agg (.cons (.refl _) (.cons (.refl _) (.cons (.refl _) (.cons (.refl _) (.cons (.refl _) (.cons (.refl _) (.cons (.refl _) (.cons (.refl _) (.cons (.refl _) (.cons (Weak.nil _) (.cons (Weak.nil _) (.cons (.refl _) (.cons (.refl _) (.cons (.refl _) (.cons (.refl _) (.cons (.refl _) (.cons (.refl _) (.cons (.refl _) (.cons (.refl _) .nil)))))))))))))))))))) (.cons (.refl _) .nil)))) <| .n)

set_option maxRecDepth 100000 in
set_option maxHeartbeats 2000000 in
theorem rw_8b (xs : List Int) (r r1 r2 r3 r4 : Rrf) (v_kd v_na v_np v_za : Int) (g1 : VM Try.prog 109 [.ptr 100000 0 0, i64 9] [(100000, .var (rrC xs r))] (i64 v_kd) [(100000, .var (rrC xs r1))]) (g2 : VM Try.prog 109 [.ptr 100000 0 0, i64 1024] [(100000, .var (rrC xs r1))] (i64 v_na) [(100000, .var (rrC xs r2))]) (g3 : VM Try.prog 109 [.ptr 100000 0 0, i64 1024] [(100000, .var (rrC xs r2))] (i64 v_np) [(100000, .var (rrC xs r3))]) (g4 : VM Try.prog 111 [.ptr 100000 0 0] [(100000, .var (rrC xs r3))] (i8 v_za) [(100000, .var (rrC xs r4))]) (hk : v_kd = 8) (h9 : In64 v_kd)  (hbad : r4.2 ≠ 0) : VM Try.prog 41 ([.ptr 100000 0 0]) ([(100000, .var (rrC xs r))]) (.tup [.agg [i64 0, i64 0, i64 0, i64 0, i64 0, i64 0, i64 0, i8 0, i8 0, .sl 1 [], .sl 1 [], i32 0, i64 0, i8 0, i32 0, i64 0, i8 0, i8 0, i8 0], i64 r4.2]) ([(100000, .var (rrC xs r4))]) := by
  have oz0 := @g1
  have oz1 := @g2
  have oz2 := @tells_8 (v_kd) hk
  have oz3 := (show (0 : Int) ≤ (0 : Int) by omega)
  have oz4 := (show (0 : Int) < (↑(6 : Nat) : Int) by omega)
  have oz5 := (show [[bv false], [bv false], [bv false], [bv true], [bv false], [bv false]][(0 : Nat)]? = some [bv false] from rfl)
  have oz6 := (show false = false by with_reducible rfl)
  have oz7 := (show (0 : Int) ≤ (1 : Int) by omega)
  have oz8 := (show (1 : Int) < (↑(6 : Nat) : Int) by omega)
  have oz9 := (show [[bv false], [bv false], [bv false], [bv true], [bv false], [bv false]][(1 : Nat)]? = some [bv false] from rfl)
  have oz19 := @g3
  have oz22 := (show [[bv false], [bv false], [bv false], [bv true], [bv false], [bv false]][(2 : Nat)]? = some [bv false] from rfl)
  have oz26 := (show [[bv false], [bv false], [bv false], [bv true], [bv false], [bv false]][(3 : Nat)]? = some [bv true] from rfl)
  have oz28 := @g4
  have oz35 := (show [[bv false], [bv false], [bv false], [bv true], [bv false], [bv false]][(4 : Nat)]? = some [bv false] from rfl)
  have oz39 := (show [[bv false], [bv false], [bv false], [bv true], [bv false], [bv false]][(5 : Nat)]? = some [bv false] from rfl)
  exact VM.run (fn := Try.f41) (W := [.r [] [], .r [] [.callm [(100000, 100000)] [] (rM oz0) (oM oz0), .callm [(100000, 100000)] [] (rM oz1) (oM oz1)], .r [] [.callr (rO oz2)], .r [] [.row (sO oz5)], .br false, .r [] [.row (sO oz5)], .br false, .r [] [.row (sO oz5), .br true, .br true, .br true, .br false], .br true, .r [] [.callm [(100000, 100000)] [] (rM oz19) (oM oz19)], .r [] [.row (sO oz22)], .br false, .r [] [.row (sO oz26)], .br true, .r [] [.callm [(100000, 100000)] [] (rM oz28) (oM oz28)], .r [] [.row (sO oz5)], .br false, .r [] [.row (sO oz5)], .br false, .r [] [.row (sO oz5)], .br false, .r [] [], .br true, .r [] []]) (G := [.drop [2, 4, 5], .weak 0 (AV.tup [AV.agg [i64 0, i64 0, i64 0, i64 0, i64 0, i64 0, i64 0, i8 0, i8 0, AV.sl 1 [], AV.sl 1 [], i32 0, i64 0, i8 0, i32 0, i64 0, i8 0, i8 0, i8 0], i64 r4.snd]), .sort]) Try.func41 (by kernel_rfl) (.c oz0 <| .c oz1 <| .c oz2 <| .c oz3 <| .c oz4 <| .c oz5 <| .c oz6 <| .c oz7 <| .c oz8 <| .c oz9 <| .c oz6 <| .c oz7 <| .c oz8 <| .c oz9 <| .c oz6 <| .c oz6 <| .c oz6 <| .c oz6 <| .c (show (v_kd == 8) = true by (refine decide_eq_true ?_; omega)) <| .c oz19 <| .c (show (0 : Int) ≤ (2 : Int) by omega) <| .c (show (2 : Int) < (↑(6 : Nat) : Int) by omega) <| .c oz22 <| .c oz6 <| .c (show (0 : Int) ≤ (3 : Int) by omega) <| .c (show (3 : Int) < (↑(6 : Nat) : Int) by omega) <| .c oz26 <| .c (show true = true by with_reducible rfl) <| .c oz28 <| .c oz3 <| .c oz4 <| .c oz5 <| .c oz6 <| .c (show (0 : Int) ≤ (4 : Int) by omega) <| .c (show (4 : Int) < (↑(6 : Nat) : Int) by omega) <| .c oz35 <| .c oz6 <| .c (show (0 : Int) ≤ (5 : Int) by omega) <| .c (show (5 : Int) < (↑(6 : Nat) : Int) by omega) <| .c oz39 <| .c oz6 <| .c (show (r4.snd != 0) = true by (simp; omega)) <| .c (show Weak (AV.tup [AV.agg [i64 0, i64 0, i64 0, i64 0, i64 0, i64 0, i64 0, i8 0, i8 0, AV.lit (Value.slice none 0 0), AV.lit (Value.slice none 0 0), i32 0, i64 0, i8 0, i32 0, i64 0, i8 0, i8 0, i8 0], i64 r4.snd]) (AV.tup [AV.agg [i64 0, i64 0, i64 0, i64 0, i64 0, i64 0, i64 0, i8 0, i8 0, AV.sl 1 [], AV.sl 1 [], i32 0, i64 0, i8 0, i32 0, i64 0, i8 0, i8 0, i8 0], i64 r4.snd]) from (Weak.tup (.cons (Weak.agg (.cons (.refl _) (.cons (.refl _) (.cons (.refl _) (.cons (.refl _) (.cons (.refl _) (.cons (.refl _) (.cons (.refl _) (.cons (.refl _) (.cons (.refl _) (.cons (Weak.nil _) (.cons (Weak.nil _) (.cons (.refl _) (.cons (.refl _) (.cons (.refl _) (.cons (.refl _) (.cons (.refl _) (.cons (.refl _) (.cons (.refl _) (.cons (.refl _) .nil)))))))))))))))))))) (.cons (.refl _) .nil)))) <| .n)

set_option maxRecDepth 100000 in
set_option maxHeartbeats 2000000 in
theorem rw_8c (xs : List Int) (r r1 r2 r3 r4 : Rrf) (v_kd v_na v_np v_za : Int) (g1 : VM Try.prog 109 [.ptr 100000 0 0, i64 9] [(100000, .var (rrC xs r))] (i64 v_kd) [(100000, .var (rrC xs r1))]) (g2 : VM Try.prog 109 [.ptr 100000 0 0, i64 1024] [(100000, .var (rrC xs r1))] (i64 v_na) [(100000, .var (rrC xs r2))]) (g3 : VM Try.prog 109 [.ptr 100000 0 0, i64 1024] [(100000, .var (rrC xs r2))] (i64 v_np) [(100000, .var (rrC xs r3))]) (g4 : VM Try.prog 111 [.ptr 100000 0 0] [(100000, .var (rrC xs r3))] (i8 v_za) [(100000, .var (rrC xs r4))]) (hk : v_kd = 8) (h9 : In64 v_kd)  (hbad : r4.2 = 0)  (hc : checkE (⟨v_kd, v_na, 0, 0, 0, v_np, 0, v_za, 0, [], [], 0, 0, 0, 0, 0, 0, 0, 0⟩ : Nod) ≠ 0) : VM Try.prog 41 ([.ptr 100000 0 0]) ([(100000, .var (rrC xs r))]) (.tup [.agg [i64 0, i64 0, i64 0, i64 0, i64 0, i64 0, i64 0, i8 0, i8 0, .sl 1 [], .sl 1 [], i32 0, i64 0, i8 0, i32 0, i64 0, i8 0, i8 0, i8 0], i64 (checkE (⟨v_kd, v_na, 0, 0, 0, v_np, 0, v_za, 0, [], [], 0, 0, 0, 0, 0, 0, 0, 0⟩ : Nod))]) ([(100000, .var (rrC xs r4))]) := by
  have oz0 := @g1
  have oz1 := @g2
  have oz2 := @tells_8 (v_kd) hk
  have oz3 := (show (0 : Int) ≤ (0 : Int) by omega)
  have oz4 := (show (0 : Int) < (↑(6 : Nat) : Int) by omega)
  have oz5 := (show [[bv false], [bv false], [bv false], [bv true], [bv false], [bv false]][(0 : Nat)]? = some [bv false] from rfl)
  have oz6 := (show false = false by with_reducible rfl)
  have oz7 := (show (0 : Int) ≤ (1 : Int) by omega)
  have oz8 := (show (1 : Int) < (↑(6 : Nat) : Int) by omega)
  have oz9 := (show [[bv false], [bv false], [bv false], [bv true], [bv false], [bv false]][(1 : Nat)]? = some [bv false] from rfl)
  have oz19 := @g3
  have oz22 := (show [[bv false], [bv false], [bv false], [bv true], [bv false], [bv false]][(2 : Nat)]? = some [bv false] from rfl)
  have oz26 := (show [[bv false], [bv false], [bv false], [bv true], [bv false], [bv false]][(3 : Nat)]? = some [bv true] from rfl)
  have oz28 := @g4
  have oz35 := (show [[bv false], [bv false], [bv false], [bv true], [bv false], [bv false]][(4 : Nat)]? = some [bv false] from rfl)
  have oz39 := (show [[bv false], [bv false], [bv false], [bv true], [bv false], [bv false]][(5 : Nat)]? = some [bv false] from rfl)
  have oz43 := @refCheck_v (Nod.mk v_kd v_na 0 0 0 v_np 0 v_za 0 [] [] 0 0 0 0 0 0 0 0) (by (simp; done)) (by (simp; done)) h9
  exact VM.run (fn := Try.f41) (W := [.r [] [], .r [] [.callm [(100000, 100000)] [] (rM oz0) (oM oz0), .callm [(100000, 100000)] [] (rM oz1) (oM oz1)], .r [] [.callr (rO oz2)], .r [] [.row (sO oz5)], .br false, .r [] [.row (sO oz5)], .br false, .r [] [.row (sO oz5), .br true, .br true, .br true, .br false], .br true, .r [] [.callm [(100000, 100000)] [] (rM oz19) (oM oz19)], .r [] [.row (sO oz22)], .br false, .r [] [.row (sO oz26)], .br true, .r [] [.callm [(100000, 100000)] [] (rM oz28) (oM oz28)], .r [] [.row (sO oz5)], .br false, .r [] [.row (sO oz5)], .br false, .r [] [.row (sO oz5)], .br false, .r [] [], .br false, .r [] [.call (aO oz43) (rO oz43)], .r [] [], .br true, .r [] []]) (G := [.drop [2, 4, 5], .weak 0 (AV.tup [AV.agg [i64 0, i64 0, i64 0, i64 0, i64 0, i64 0, i64 0, i8 0, i8 0, AV.sl 1 [], AV.sl 1 [], i32 0, i64 0, i8 0, i32 0, i64 0, i8 0, i8 0, i8 0], i64 (checkE (Nod.mk v_kd v_na 0 0 0 v_np 0 v_za 0 [] [] 0 0 0 0 0 0 0 0))]), .sort]) Try.func41 (by kernel_rfl) (.c oz0 <| .c oz1 <| .c oz2 <| .c oz3 <| .c oz4 <| .c oz5 <| .c oz6 <| .c oz7 <| .c oz8 <| .c oz9 <| .c oz6 <| .c oz7 <| .c oz8 <| .c oz9 <| .c oz6 <| .c oz6 <| .c oz6 <| .c oz6 <| .c (show (v_kd == 8) = true by (refine decide_eq_true ?_; omega)) <| .c oz19 <| .c (show (0 : Int) ≤ (2 : Int) by omega) <| .c (show (2 : Int) < (↑(6 : Nat) : Int) by omega) <| .c oz22 <| .c oz6 <| .c (show (0 : Int) ≤ (3 : Int) by omega) <| .c (show (3 : Int) < (↑(6 : Nat) : Int) by omega) <| .c oz26 <| .c (show true = true by with_reducible rfl) <| .c oz28 <| .c oz3 <| .c oz4 <| .c oz5 <| .c oz6 <| .c (show (0 : Int) ≤ (4 : Int) by omega) <| .c (show (4 : Int) < (↑(6 : Nat) : Int) by omega) <| .c oz35 <| .c oz6 <| .c (show (0 : Int) ≤ (5 : Int) by omega) <| .c (show (5 : Int) < (↑(6 : Nat) : Int) by omega) <| .c oz39 <| .c oz6 <| .c (show (r4.snd != 0) = false by (simp; omega)) <| .c (show WeakL [AV.agg [i64 v_kd, i64 v_na, i64 0, i64 0, i64 0, i64 v_np, i64 0, i8 v_za, i8 0, AV.lit (Value.slice none 0 0), AV.lit (Value.slice none 0 0), i32 0, i64 0, i8 0, i32 0, i64 0, i8 0, i8 0, i8 0]] [AV.agg [i64 (Nod.mk v_kd v_na 0 0 0 v_np 0 v_za 0 [] [] 0 0 0 0 0 0 0 0).kd, i64 (Nod.mk v_kd v_na 0 0 0 v_np 0 v_za 0 [] [] 0 0 0 0 0 0 0 0).na, i64 (Nod.mk v_kd v_na 0 0 0 v_np 0 v_za 0 [] [] 0 0 0 0 0 0 0 0).nb, i64 (Nod.mk v_kd v_na 0 0 0 v_np 0 v_za 0 [] [] 0 0 0 0 0 0 0 0).nk, i64 (Nod.mk v_kd v_na 0 0 0 v_np 0 v_za 0 [] [] 0 0 0 0 0 0 0 0).ns, i64 (Nod.mk v_kd v_na 0 0 0 v_np 0 v_za 0 [] [] 0 0 0 0 0 0 0 0).np, i64 (Nod.mk v_kd v_na 0 0 0 v_np 0 v_za 0 [] [] 0 0 0 0 0 0 0 0).no, i8 (Nod.mk v_kd v_na 0 0 0 v_np 0 v_za 0 [] [] 0 0 0 0 0 0 0 0).za, i8 (Nod.mk v_kd v_na 0 0 0 v_np 0 v_za 0 [] [] 0 0 0 0 0 0 0 0).zb, AV.sl 1 [], AV.sl 1 [], i32 (Nod.mk v_kd v_na 0 0 0 v_np 0 v_za 0 [] [] 0 0 0 0 0 0 0 0).qm, i64 (Nod.mk v_kd v_na 0 0 0 v_np 0 v_za 0 [] [] 0 0 0 0 0 0 0 0).qs, i8 (Nod.mk v_kd v_na 0 0 0 v_np 0 v_za 0 [] [] 0 0 0 0 0 0 0 0).qz, i32 (Nod.mk v_kd v_na 0 0 0 v_np 0 v_za 0 [] [] 0 0 0 0 0 0 0 0).rm, i64 (Nod.mk v_kd v_na 0 0 0 v_np 0 v_za 0 [] [] 0 0 0 0 0 0 0 0).rs, i8 (Nod.mk v_kd v_na 0 0 0 v_np 0 v_za 0 [] [] 0 0 0 0 0 0 0 0).rz, i8 (Nod.mk v_kd v_na 0 0 0 v_np 0 v_za 0 [] [] 0 0 0 0 0 0 0 0).lo, i8 (Nod.mk v_kd v_na 0 0 0 v_np 0 v_za 0 [] [] 0 0 0 0 0 0 0 0).hi]] from (.cons (Weak.agg (.cons (.refl _) (.cons (.refl _) (.cons (.refl _) (.cons (.refl _) (.cons (.refl _) (.cons (.refl _) (.cons (.refl _) (.cons (.refl _) (.cons (.refl _) (.cons (Weak.nil _) (.cons (Weak.nil _) (.cons (.refl _) (.cons (.refl _) (.cons (.refl _) (.cons (.refl _) (.cons (.refl _) (.cons (.refl _) (.cons (.refl _) (.cons (.refl _) .nil)))))))))))))))))))) .nil)) <| .c oz43 <| .c (show (checkE (Nod.mk v_kd v_na 0 0 0 v_np 0 v_za 0 [] [] 0 0 0 0 0 0 0 0) != 0) = true by (simp; omega)) <| .c (show Weak (AV.tup [AV.agg [i64 0, i64 0, i64 0, i64 0, i64 0, i64 0, i64 0, i8 0, i8 0, AV.lit (Value.slice none 0 0), AV.lit (Value.slice none 0 0), i32 0, i64 0, i8 0, i32 0, i64 0, i8 0, i8 0, i8 0], i64 (checkE (Nod.mk v_kd v_na 0 0 0 v_np 0 v_za 0 [] [] 0 0 0 0 0 0 0 0))]) (AV.tup [AV.agg [i64 0, i64 0, i64 0, i64 0, i64 0, i64 0, i64 0, i8 0, i8 0, AV.sl 1 [], AV.sl 1 [], i32 0, i64 0, i8 0, i32 0, i64 0, i8 0, i8 0, i8 0], i64 (checkE (Nod.mk v_kd v_na 0 0 0 v_np 0 v_za 0 [] [] 0 0 0 0 0 0 0 0))]) from (Weak.tup (.cons (Weak.agg (.cons (.refl _) (.cons (.refl _) (.cons (.refl _) (.cons (.refl _) (.cons (.refl _) (.cons (.refl _) (.cons (.refl _) (.cons (.refl _) (.cons (.refl _) (.cons (Weak.nil _) (.cons (Weak.nil _) (.cons (.refl _) (.cons (.refl _) (.cons (.refl _) (.cons (.refl _) (.cons (.refl _) (.cons (.refl _) (.cons (.refl _) (.cons (.refl _) .nil)))))))))))))))))))) (.cons (.refl _) .nil)))) <| .n)

set_option maxRecDepth 100000 in
set_option maxHeartbeats 2000000 in
theorem rw_8y (xs : List Int) (r r1 r2 r3 r4 : Rrf) (v_kd v_na v_np v_za : Int) (g1 : VM Try.prog 109 [.ptr 100000 0 0, i64 9] [(100000, .var (rrC xs r))] (i64 v_kd) [(100000, .var (rrC xs r1))]) (g2 : VM Try.prog 109 [.ptr 100000 0 0, i64 1024] [(100000, .var (rrC xs r1))] (i64 v_na) [(100000, .var (rrC xs r2))]) (g3 : VM Try.prog 109 [.ptr 100000 0 0, i64 1024] [(100000, .var (rrC xs r2))] (i64 v_np) [(100000, .var (rrC xs r3))]) (g4 : VM Try.prog 111 [.ptr 100000 0 0] [(100000, .var (rrC xs r3))] (i8 v_za) [(100000, .var (rrC xs r4))]) (hk : v_kd = 8) (h9 : In64 v_kd)  (hbad : r4.2 = 0)  (hc : checkE (⟨v_kd, v_na, 0, 0, 0, v_np, 0, v_za, 0, [], [], 0, 0, 0, 0, 0, 0, 0, 0⟩ : Nod) = 0) : VM Try.prog 41 ([.ptr 100000 0 0]) ([(100000, .var (rrC xs r))]) (.tup [nod (⟨v_kd, v_na, 0, 0, 0, v_np, 0, v_za, 0, [], [], 0, 0, 0, 0, 0, 0, 0, 0⟩ : Nod), i64 0]) ([(100000, .var (rrC xs r4))]) := by
  have oz0 := @g1
  have oz1 := @g2
  have oz2 := @tells_8 (v_kd) hk
  have oz3 := (show (0 : Int) ≤ (0 : Int) by omega)
  have oz4 := (show (0 : Int) < (↑(6 : Nat) : Int) by omega)
  have oz5 := (show [[bv false], [bv false], [bv false], [bv true], [bv false], [bv false]][(0 : Nat)]? = some [bv false] from rfl)
  have oz6 := (show false = false by with_reducible rfl)
  have oz7 := (show (0 : Int) ≤ (1 : Int) by omega)
  have oz8 := (show (1 : Int) < (↑(6 : Nat) : Int) by omega)
  have oz9 := (show [[bv false], [bv false], [bv false], [bv true], [bv false], [bv false]][(1 : Nat)]? = some [bv false] from rfl)
  have oz19 := @g3
  have oz22 := (show [[bv false], [bv false], [bv false], [bv true], [bv false], [bv false]][(2 : Nat)]? = some [bv false] from rfl)
  have oz26 := (show [[bv false], [bv false], [bv false], [bv true], [bv false], [bv false]][(3 : Nat)]? = some [bv true] from rfl)
  have oz28 := @g4
  have oz35 := (show [[bv false], [bv false], [bv false], [bv true], [bv false], [bv false]][(4 : Nat)]? = some [bv false] from rfl)
  have oz39 := (show [[bv false], [bv false], [bv false], [bv true], [bv false], [bv false]][(5 : Nat)]? = some [bv false] from rfl)
  have oz43 := @refCheck_v (Nod.mk v_kd v_na 0 0 0 v_np 0 v_za 0 [] [] 0 0 0 0 0 0 0 0) (by (simp; done)) (by (simp; done)) h9
  exact VM.run (fn := Try.f41) (W := [.r [] [], .r [] [.callm [(100000, 100000)] [] (rM oz0) (oM oz0), .callm [(100000, 100000)] [] (rM oz1) (oM oz1)], .r [] [.callr (rO oz2)], .r [] [.row (sO oz5)], .br false, .r [] [.row (sO oz5)], .br false, .r [] [.row (sO oz5), .br true, .br true, .br true, .br false], .br true, .r [] [.callm [(100000, 100000)] [] (rM oz19) (oM oz19)], .r [] [.row (sO oz22)], .br false, .r [] [.row (sO oz26)], .br true, .r [] [.callm [(100000, 100000)] [] (rM oz28) (oM oz28)], .r [] [.row (sO oz5)], .br false, .r [] [.row (sO oz5)], .br false, .r [] [.row (sO oz5)], .br false, .r [] [], .br false, .r [] [.call (aO oz43) (rO oz43)], .r [] [], .br false, .r [] []]) (G := [.drop [2, 4, 5], .weak 0 (AV.tup [AV.agg [i64 v_kd, i64 v_na, i64 0, i64 0, i64 0, i64 v_np, i64 0, i8 v_za, i8 0, AV.sl 1 [], AV.sl 1 [], i32 0, i64 0, i8 0, i32 0, i64 0, i8 0, i8 0, i8 0], i64 0]), .sort]) Try.func41 (by kernel_rfl) (.c oz0 <| .c oz1 <| .c oz2 <| .c oz3 <| .c oz4 <| .c oz5 <| .c oz6 <| .c oz7 <| .c oz8 <| .c oz9 <| .c oz6 <| .c oz7 <| .c oz8 <| .c oz9 <| .c oz6 <| .c oz6 <| .c oz6 <| .c oz6 <| .c (show (v_kd == 8) = true by (refine decide_eq_true ?_; omega)) <| .c oz19 <| .c (show (0 : Int) ≤ (2 : Int) by omega) <| .c (show (2 : Int) < (↑(6 : Nat) : Int) by omega) <| .c oz22 <| .c oz6 <| .c (show (0 : Int) ≤ (3 : Int) by omega) <| .c (show (3 : Int) < (↑(6 : Nat) : Int) by omega) <| .c oz26 <| .c (show true = true by with_reducible rfl) <| .c oz28 <| .c oz3 <| .c oz4 <| .c oz5 <| .c oz6 <| .c (show (0 : Int) ≤ (4 : Int) by omega) <| .c (show (4 : Int) < (↑(6 : Nat) : Int) by omega) <| .c oz35 <| .c oz6 <| .c (show (0 : Int) ≤ (5 : Int) by omega) <| .c (show (5 : Int) < (↑(6 : Nat) : Int) by omega) <| .c oz39 <| .c oz6 <| .c (show (r4.snd != 0) = false by (simp; omega)) <| .c (show WeakL [AV.agg [i64 v_kd, i64 v_na, i64 0, i64 0, i64 0, i64 v_np, i64 0, i8 v_za, i8 0, AV.lit (Value.slice none 0 0), AV.lit (Value.slice none 0 0), i32 0, i64 0, i8 0, i32 0, i64 0, i8 0, i8 0, i8 0]] [AV.agg [i64 (Nod.mk v_kd v_na 0 0 0 v_np 0 v_za 0 [] [] 0 0 0 0 0 0 0 0).kd, i64 (Nod.mk v_kd v_na 0 0 0 v_np 0 v_za 0 [] [] 0 0 0 0 0 0 0 0).na, i64 (Nod.mk v_kd v_na 0 0 0 v_np 0 v_za 0 [] [] 0 0 0 0 0 0 0 0).nb, i64 (Nod.mk v_kd v_na 0 0 0 v_np 0 v_za 0 [] [] 0 0 0 0 0 0 0 0).nk, i64 (Nod.mk v_kd v_na 0 0 0 v_np 0 v_za 0 [] [] 0 0 0 0 0 0 0 0).ns, i64 (Nod.mk v_kd v_na 0 0 0 v_np 0 v_za 0 [] [] 0 0 0 0 0 0 0 0).np, i64 (Nod.mk v_kd v_na 0 0 0 v_np 0 v_za 0 [] [] 0 0 0 0 0 0 0 0).no, i8 (Nod.mk v_kd v_na 0 0 0 v_np 0 v_za 0 [] [] 0 0 0 0 0 0 0 0).za, i8 (Nod.mk v_kd v_na 0 0 0 v_np 0 v_za 0 [] [] 0 0 0 0 0 0 0 0).zb, AV.sl 1 [], AV.sl 1 [], i32 (Nod.mk v_kd v_na 0 0 0 v_np 0 v_za 0 [] [] 0 0 0 0 0 0 0 0).qm, i64 (Nod.mk v_kd v_na 0 0 0 v_np 0 v_za 0 [] [] 0 0 0 0 0 0 0 0).qs, i8 (Nod.mk v_kd v_na 0 0 0 v_np 0 v_za 0 [] [] 0 0 0 0 0 0 0 0).qz, i32 (Nod.mk v_kd v_na 0 0 0 v_np 0 v_za 0 [] [] 0 0 0 0 0 0 0 0).rm, i64 (Nod.mk v_kd v_na 0 0 0 v_np 0 v_za 0 [] [] 0 0 0 0 0 0 0 0).rs, i8 (Nod.mk v_kd v_na 0 0 0 v_np 0 v_za 0 [] [] 0 0 0 0 0 0 0 0).rz, i8 (Nod.mk v_kd v_na 0 0 0 v_np 0 v_za 0 [] [] 0 0 0 0 0 0 0 0).lo, i8 (Nod.mk v_kd v_na 0 0 0 v_np 0 v_za 0 [] [] 0 0 0 0 0 0 0 0).hi]] from (.cons (Weak.agg (.cons (.refl _) (.cons (.refl _) (.cons (.refl _) (.cons (.refl _) (.cons (.refl _) (.cons (.refl _) (.cons (.refl _) (.cons (.refl _) (.cons (.refl _) (.cons (Weak.nil _) (.cons (Weak.nil _) (.cons (.refl _) (.cons (.refl _) (.cons (.refl _) (.cons (.refl _) (.cons (.refl _) (.cons (.refl _) (.cons (.refl _) (.cons (.refl _) .nil)))))))))))))))))))) .nil)) <| .c oz43 <| .c (show (checkE (Nod.mk v_kd v_na 0 0 0 v_np 0 v_za 0 [] [] 0 0 0 0 0 0 0 0) != 0) = false by (simp; omega)) <| .c (show Weak (AV.tup [AV.agg [i64 v_kd, i64 v_na, i64 0, i64 0, i64 0, i64 v_np, i64 0, i8 v_za, i8 0, AV.lit (Value.slice none 0 0), AV.lit (Value.slice none 0 0), i32 0, i64 0, i8 0, i32 0, i64 0, i8 0, i8 0, i8 0], i64 0]) (AV.tup [AV.agg [i64 v_kd, i64 v_na, i64 0, i64 0, i64 0, i64 v_np, i64 0, i8 v_za, i8 0, AV.sl 1 [], AV.sl 1 [], i32 0, i64 0, i8 0, i32 0, i64 0, i8 0, i8 0, i8 0], i64 0]) from (Weak.tup (.cons (Weak.agg (.cons (.refl _) (.cons (.refl _) (.cons (.refl _) (.cons (.refl _) (.cons (.refl _) (.cons (.refl _) (.cons (.refl _) (.cons (.refl _) (.cons (.refl _) (.cons (Weak.nil _) (.cons (Weak.nil _) (.cons (.refl _) (.cons (.refl _) (.cons (.refl _) (.cons (.refl _) (.cons (.refl _) (.cons (.refl _) (.cons (.refl _) (.cons (.refl _) .nil)))))))))))))))))))) (.cons (.refl _) .nil)))) <| .n)

set_option maxRecDepth 100000 in
set_option maxHeartbeats 2000000 in
theorem rw_9b (xs : List Int) (r r1 r2 : Rrf) (v_kd v_na : Int) (g1 : VM Try.prog 109 [.ptr 100000 0 0, i64 9] [(100000, .var (rrC xs r))] (i64 v_kd) [(100000, .var (rrC xs r1))]) (g2 : VM Try.prog 109 [.ptr 100000 0 0, i64 1024] [(100000, .var (rrC xs r1))] (i64 v_na) [(100000, .var (rrC xs r2))]) (hk : v_kd < 1 ∨ 8 < v_kd) (h9 : In64 v_kd)  (hbad : r2.2 ≠ 0) : VM Try.prog 41 ([.ptr 100000 0 0]) ([(100000, .var (rrC xs r))]) (.tup [.agg [i64 0, i64 0, i64 0, i64 0, i64 0, i64 0, i64 0, i8 0, i8 0, .sl 1 [], .sl 1 [], i32 0, i64 0, i8 0, i32 0, i64 0, i8 0, i8 0, i8 0], i64 r2.2]) ([(100000, .var (rrC xs r2))]) := by
  have oz0 := @g1
  have oz1 := @g2
  have oz2 := @tells_9 (v_kd) hk
  have oz3 := (show (0 : Int) ≤ (0 : Int) by omega)
  have oz4 := (show (0 : Int) < (↑(6 : Nat) : Int) by omega)
  have oz5 := (show [[bv false], [bv false], [bv false], [bv false], [bv false], [bv false]][(0 : Nat)]? = some [bv false] from rfl)
  have oz6 := (show false = false by with_reducible rfl)
  have oz7 := (show (0 : Int) ≤ (1 : Int) by omega)
  have oz8 := (show (1 : Int) < (↑(6 : Nat) : Int) by omega)
  have oz9 := (show [[bv false], [bv false], [bv false], [bv false], [bv false], [bv false]][(1 : Nat)]? = some [bv false] from rfl)
  have oz21 := (show [[bv false], [bv false], [bv false], [bv false], [bv false], [bv false]][(2 : Nat)]? = some [bv false] from rfl)
  have oz25 := (show [[bv false], [bv false], [bv false], [bv false], [bv false], [bv false]][(3 : Nat)]? = some [bv false] from rfl)
  have oz33 := (show [[bv false], [bv false], [bv false], [bv false], [bv false], [bv false]][(4 : Nat)]? = some [bv false] from rfl)
  have oz37 := (show [[bv false], [bv false], [bv false], [bv false], [bv false], [bv false]][(5 : Nat)]? = some [bv false] from rfl)
  exact VM.run (fn := Try.f41) (W := [.r [] [], .r [] [.callm [(100000, 100000)] [] (rM oz0) (oM oz0), .callm [(100000, 100000)] [] (rM oz1) (oM oz1)], .r [] [.callr (rO oz2)], .r [] [.row (sO oz5)], .br false, .r [] [.row (sO oz5)], .br false, .r [] [.row (sO oz5), .br true, .br true, .br true, .br false], .br false, .r [] [.row (sO oz5)], .br false, .r [] [.row (sO oz5)], .br false, .r [] [.row (sO oz5)], .br false, .r [] [.row (sO oz5)], .br false, .r [] [.row (sO oz5)], .br false, .r [] [], .br true, .r [] []]) (G := [.drop [2, 4, 5], .weak 0 (AV.tup [AV.agg [i64 0, i64 0, i64 0, i64 0, i64 0, i64 0, i64 0, i8 0, i8 0, AV.sl 1 [], AV.sl 1 [], i32 0, i64 0, i8 0, i32 0, i64 0, i8 0, i8 0, i8 0], i64 r2.snd]), .sort]) Try.func41 (by kernel_rfl) (.c oz0 <| .c oz1 <| .c oz2 <| .c oz3 <| .c oz4 <| .c oz5 <| .c oz6 <| .c oz7 <| .c oz8 <| .c oz9 <| .c oz6 <| .c oz7 <| .c oz8 <| .c oz9 <| .c oz6 <| .c oz6 <| .c oz6 <| .c oz6 <| .c (show (v_kd == 8) = false by (refine decide_eq_false ?_; omega)) <| .c (show (0 : Int) ≤ (2 : Int) by omega) <| .c (show (2 : Int) < (↑(6 : Nat) : Int) by omega) <| .c oz21 <| .c oz6 <| .c (show (0 : Int) ≤ (3 : Int) by omega) <| .c (show (3 : Int) < (↑(6 : Nat) : Int) by omega) <| .c oz25 <| .c oz6 <| .c oz3 <| .c oz4 <| .c oz5 <| .c oz6 <| .c (show (0 : Int) ≤ (4 : Int) by omega) <| .c (show (4 : Int) < (↑(6 : Nat) : Int) by omega) <| .c oz33 <| .c oz6 <| .c (show (0 : Int) ≤ (5 : Int) by omega) <| .c (show (5 : Int) < (↑(6 : Nat) : Int) by omega) <| .c oz37 <| .c oz6 <| .c (show (r2.snd != 0) = true by (simp; omega)) <| .c (show Weak (AV.tup [AV.agg [i64 0, i64 0, i64 0, i64 0, i64 0, i64 0, i64 0, i8 0, i8 0, AV.lit (Value.slice none 0 0), AV.lit (Value.slice none 0 0), i32 0, i64 0, i8 0, i32 0, i64 0, i8 0, i8 0, i8 0], i64 r2.snd]) (AV.tup [AV.agg [i64 0, i64 0, i64 0, i64 0, i64 0, i64 0, i64 0, i8 0, i8 0, AV.sl 1 [], AV.sl 1 [], i32 0, i64 0, i8 0, i32 0, i64 0, i8 0, i8 0, i8 0], i64 r2.snd]) from (Weak.tup (.cons (Weak.agg (.cons (.refl _) (.cons (.refl _) (.cons (.refl _) (.cons (.refl _) (.cons (.refl _) (.cons (.refl _) (.cons (.refl _) (.cons (.refl _) (.cons (.refl _) (.cons (Weak.nil _) (.cons (Weak.nil _) (.cons (.refl _) (.cons (.refl _) (.cons (.refl _) (.cons (.refl _) (.cons (.refl _) (.cons (.refl _) (.cons (.refl _) (.cons (.refl _) .nil)))))))))))))))))))) (.cons (.refl _) .nil)))) <| .n)

set_option maxRecDepth 100000 in
set_option maxHeartbeats 2000000 in
theorem rw_9c (xs : List Int) (r r1 r2 : Rrf) (v_kd v_na : Int) (g1 : VM Try.prog 109 [.ptr 100000 0 0, i64 9] [(100000, .var (rrC xs r))] (i64 v_kd) [(100000, .var (rrC xs r1))]) (g2 : VM Try.prog 109 [.ptr 100000 0 0, i64 1024] [(100000, .var (rrC xs r1))] (i64 v_na) [(100000, .var (rrC xs r2))]) (hk : v_kd < 1 ∨ 8 < v_kd) (h9 : In64 v_kd)  (hbad : r2.2 = 0)  (hc : checkE (⟨v_kd, v_na, 0, 0, 0, 0, 0, 0, 0, [], [], 0, 0, 0, 0, 0, 0, 0, 0⟩ : Nod) ≠ 0) : VM Try.prog 41 ([.ptr 100000 0 0]) ([(100000, .var (rrC xs r))]) (.tup [.agg [i64 0, i64 0, i64 0, i64 0, i64 0, i64 0, i64 0, i8 0, i8 0, .sl 1 [], .sl 1 [], i32 0, i64 0, i8 0, i32 0, i64 0, i8 0, i8 0, i8 0], i64 (checkE (⟨v_kd, v_na, 0, 0, 0, 0, 0, 0, 0, [], [], 0, 0, 0, 0, 0, 0, 0, 0⟩ : Nod))]) ([(100000, .var (rrC xs r2))]) := by
  have oz0 := @g1
  have oz1 := @g2
  have oz2 := @tells_9 (v_kd) hk
  have oz3 := (show (0 : Int) ≤ (0 : Int) by omega)
  have oz4 := (show (0 : Int) < (↑(6 : Nat) : Int) by omega)
  have oz5 := (show [[bv false], [bv false], [bv false], [bv false], [bv false], [bv false]][(0 : Nat)]? = some [bv false] from rfl)
  have oz6 := (show false = false by with_reducible rfl)
  have oz7 := (show (0 : Int) ≤ (1 : Int) by omega)
  have oz8 := (show (1 : Int) < (↑(6 : Nat) : Int) by omega)
  have oz9 := (show [[bv false], [bv false], [bv false], [bv false], [bv false], [bv false]][(1 : Nat)]? = some [bv false] from rfl)
  have oz21 := (show [[bv false], [bv false], [bv false], [bv false], [bv false], [bv false]][(2 : Nat)]? = some [bv false] from rfl)
  have oz25 := (show [[bv false], [bv false], [bv false], [bv false], [bv false], [bv false]][(3 : Nat)]? = some [bv false] from rfl)
  have oz33 := (show [[bv false], [bv false], [bv false], [bv false], [bv false], [bv false]][(4 : Nat)]? = some [bv false] from rfl)
  have oz37 := (show [[bv false], [bv false], [bv false], [bv false], [bv false], [bv false]][(5 : Nat)]? = some [bv false] from rfl)
  have oz41 := @refCheck_v (Nod.mk v_kd v_na 0 0 0 0 0 0 0 [] [] 0 0 0 0 0 0 0 0) (by (simp; done)) (by (simp; done)) h9
  exact VM.run (fn := Try.f41) (W := [.r [] [], .r [] [.callm [(100000, 100000)] [] (rM oz0) (oM oz0), .callm [(100000, 100000)] [] (rM oz1) (oM oz1)], .r [] [.callr (rO oz2)], .r [] [.row (sO oz5)], .br false, .r [] [.row (sO oz5)], .br false, .r [] [.row (sO oz5), .br true, .br true, .br true, .br false], .br false, .r [] [.row (sO oz5)], .br false, .r [] [.row (sO oz5)], .br false, .r [] [.row (sO oz5)], .br false, .r [] [.row (sO oz5)], .br false, .r [] [.row (sO oz5)], .br false, .r [] [], .br false, .r [] [.call (aO oz41) (rO oz41)], .r [] [], .br true, .r [] []]) (G := [.drop [2, 4, 5], .weak 0 (AV.tup [AV.agg [i64 0, i64 0, i64 0, i64 0, i64 0, i64 0, i64 0, i8 0, i8 0, AV.sl 1 [], AV.sl 1 [], i32 0, i64 0, i8 0, i32 0, i64 0, i8 0, i8 0, i8 0], i64 (checkE (Nod.mk v_kd v_na 0 0 0 0 0 0 0 [] [] 0 0 0 0 0 0 0 0))]), .sort]) Try.func41 (by kernel_rfl) (.c oz0 <| .c oz1 <| .c oz2 <| .c oz3 <| .c oz4 <| .c oz5 <| .c oz6 <| .c oz7 <| .c oz8 <| .c oz9 <| .c oz6 <| .c oz7 <| .c oz8 <| .c oz9 <| .c oz6 <| .c oz6 <| .c oz6 <| .c oz6 <| .c (show (v_kd == 8) = false by (refine decide_eq_false ?_; omega)) <| .c (show (0 : Int) ≤ (2 : Int) by omega) <| .c (show (2 : Int) < (↑(6 : Nat) : Int) by omega) <| .c oz21 <| .c oz6 <| .c (show (0 : Int) ≤ (3 : Int) by omega) <| .c (show (3 : Int) < (↑(6 : Nat) : Int) by omega) <| .c oz25 <| .c oz6 <| .c oz3 <| .c oz4 <| .c oz5 <| .c oz6 <| .c (show (0 : Int) ≤ (4 : Int) by omega) <| .c (show (4 : Int) < (↑(6 : Nat) : Int) by omega) <| .c oz33 <| .c oz6 <| .c (show (0 : Int) ≤ (5 : Int) by omega) <| .c (show (5 : Int) < (↑(6 : Nat) : Int) by omega) <| .c oz37 <| .c oz6 <| .c (show (r2.snd != 0) = false by (simp; omega)) <| .c (show WeakL [AV.agg [i64 v_kd, i64 v_na, i64 0, i64 0, i64 0, i64 0, i64 0, i8 0, i8 0, AV.lit (Value.slice none 0 0), AV.lit (Value.slice none 0 0), i32 0, i64 0, i8 0, i32 0, i64 0, i8 0, i8 0, i8 0]] [AV.agg [i64 (Nod.mk v_kd v_na 0 0 0 0 0 0 0 [] [] 0 0 0 0 0 0 0 0).kd, i64 (Nod.mk v_kd v_na 0 0 0 0 0 0 0 [] [] 0 0 0 0 0 0 0 0).na, i64 (Nod.mk v_kd v_na 0 0 0 0 0 0 0 [] [] 0 0 0 0 0 0 0 0).nb, i64 (Nod.mk v_kd v_na 0 0 0 0 0 0 0 [] [] 0 0 0 0 0 0 0 0).nk, i64 (Nod.mk v_kd v_na 0 0 0 0 0 0 0 [] [] 0 0 0 0 0 0 0 0).ns, i64 (Nod.mk v_kd v_na 0 0 0 0 0 0 0 [] [] 0 0 0 0 0 0 0 0).np, i64 (Nod.mk v_kd v_na 0 0 0 0 0 0 0 [] [] 0 0 0 0 0 0 0 0).no, i8 (Nod.mk v_kd v_na 0 0 0 0 0 0 0 [] [] 0 0 0 0 0 0 0 0).za, i8 (Nod.mk v_kd v_na 0 0 0 0 0 0 0 [] [] 0 0 0 0 0 0 0 0).zb, AV.sl 1 [], AV.sl 1 [], i32 (Nod.mk v_kd v_na 0 0 0 0 0 0 0 [] [] 0 0 0 0 0 0 0 0).qm, i64 (Nod.mk v_kd v_na 0 0 0 0 0 0 0 [] [] 0 0 0 0 0 0 0 0).qs, i8 (Nod.mk v_kd v_na 0 0 0 0 0 0 0 [] [] 0 0 0 0 0 0 0 0).qz, i32 (Nod.mk v_kd v_na 0 0 0 0 0 0 0 [] [] 0 0 0 0 0 0 0 0).rm, i64 (Nod.mk v_kd v_na 0 0 0 0 0 0 0 [] [] 0 0 0 0 0 0 0 0).rs, i8 (Nod.mk v_kd v_na 0 0 0 0 0 0 0 [] [] 0 0 0 0 0 0 0 0).rz, i8 (Nod.mk v_kd v_na 0 0 0 0 0 0 0 [] [] 0 0 0 0 0 0 0 0).lo, i8 (Nod.mk v_kd v_na 0 0 0 0 0 0 0 [] [] 0 0 0 0 0 0 0 0).hi]] from (.cons (Weak.agg (.cons (.refl _) (.cons (.refl _) (.cons (.refl _) (.cons (.refl _) (.cons (.refl _) (.cons (.refl _) (.cons (.refl _) (.cons (.refl _) (.cons (.refl _) (.cons (Weak.nil _) (.cons (Weak.nil _) (.cons (.refl _) (.cons (.refl _) (.cons (.refl _) (.cons (.refl _) (.cons (.refl _) (.cons (.refl _) (.cons (.refl _) (.cons (.refl _) .nil)))))))))))))))))))) .nil)) <| .c oz41 <| .c (show (checkE (Nod.mk v_kd v_na 0 0 0 0 0 0 0 [] [] 0 0 0 0 0 0 0 0) != 0) = true by (simp; omega)) <| .c (show Weak (AV.tup [AV.agg [i64 0, i64 0, i64 0, i64 0, i64 0, i64 0, i64 0, i8 0, i8 0, AV.lit (Value.slice none 0 0), AV.lit (Value.slice none 0 0), i32 0, i64 0, i8 0, i32 0, i64 0, i8 0, i8 0, i8 0], i64 (checkE (Nod.mk v_kd v_na 0 0 0 0 0 0 0 [] [] 0 0 0 0 0 0 0 0))]) (AV.tup [AV.agg [i64 0, i64 0, i64 0, i64 0, i64 0, i64 0, i64 0, i8 0, i8 0, AV.sl 1 [], AV.sl 1 [], i32 0, i64 0, i8 0, i32 0, i64 0, i8 0, i8 0, i8 0], i64 (checkE (Nod.mk v_kd v_na 0 0 0 0 0 0 0 [] [] 0 0 0 0 0 0 0 0))]) from (Weak.tup (.cons (Weak.agg (.cons (.refl _) (.cons (.refl _) (.cons (.refl _) (.cons (.refl _) (.cons (.refl _) (.cons (.refl _) (.cons (.refl _) (.cons (.refl _) (.cons (.refl _) (.cons (Weak.nil _) (.cons (Weak.nil _) (.cons (.refl _) (.cons (.refl _) (.cons (.refl _) (.cons (.refl _) (.cons (.refl _) (.cons (.refl _) (.cons (.refl _) (.cons (.refl _) .nil)))))))))))))))))))) (.cons (.refl _) .nil)))) <| .n)

set_option maxRecDepth 100000 in
set_option maxHeartbeats 2000000 in
theorem rw_9y (xs : List Int) (r r1 r2 : Rrf) (v_kd v_na : Int) (g1 : VM Try.prog 109 [.ptr 100000 0 0, i64 9] [(100000, .var (rrC xs r))] (i64 v_kd) [(100000, .var (rrC xs r1))]) (g2 : VM Try.prog 109 [.ptr 100000 0 0, i64 1024] [(100000, .var (rrC xs r1))] (i64 v_na) [(100000, .var (rrC xs r2))]) (hk : v_kd < 1 ∨ 8 < v_kd) (h9 : In64 v_kd)  (hbad : r2.2 = 0)  (hc : checkE (⟨v_kd, v_na, 0, 0, 0, 0, 0, 0, 0, [], [], 0, 0, 0, 0, 0, 0, 0, 0⟩ : Nod) = 0) : VM Try.prog 41 ([.ptr 100000 0 0]) ([(100000, .var (rrC xs r))]) (.tup [nod (⟨v_kd, v_na, 0, 0, 0, 0, 0, 0, 0, [], [], 0, 0, 0, 0, 0, 0, 0, 0⟩ : Nod), i64 0]) ([(100000, .var (rrC xs r2))]) := by
  have oz0 := @g1
  have oz1 := @g2
  have oz2 := @tells_9 (v_kd) hk
  have oz3 := (show (0 : Int) ≤ (0 : Int) by omega)
  have oz4 := (show (0 : Int) < (↑(6 : Nat) : Int) by omega)
  have oz5 := (show [[bv false], [bv false], [bv false], [bv false], [bv false], [bv false]][(0 : Nat)]? = some [bv false] from rfl)
  have oz6 := (show false = false by with_reducible rfl)
  have oz7 := (show (0 : Int) ≤ (1 : Int) by omega)
  have oz8 := (show (1 : Int) < (↑(6 : Nat) : Int) by omega)
  have oz9 := (show [[bv false], [bv false], [bv false], [bv false], [bv false], [bv false]][(1 : Nat)]? = some [bv false] from rfl)
  have oz21 := (show [[bv false], [bv false], [bv false], [bv false], [bv false], [bv false]][(2 : Nat)]? = some [bv false] from rfl)
  have oz25 := (show [[bv false], [bv false], [bv false], [bv false], [bv false], [bv false]][(3 : Nat)]? = some [bv false] from rfl)
  have oz33 := (show [[bv false], [bv false], [bv false], [bv false], [bv false], [bv false]][(4 : Nat)]? = some [bv false] from rfl)
  have oz37 := (show [[bv false], [bv false], [bv false], [bv false], [bv false], [bv false]][(5 : Nat)]? = some [bv false] from rfl)
  have oz41 := @refCheck_v (Nod.mk v_kd v_na 0 0 0 0 0 0 0 [] [] 0 0 0 0 0 0 0 0) (by (simp; done)) (by (simp; done)) h9
  exact VM.run (fn := Try.f41) (W := [.r [] [], .r [] [.callm [(100000, 100000)] [] (rM oz0) (oM oz0), .callm [(100000, 100000)] [] (rM oz1) (oM oz1)], .r [] [.callr (rO oz2)], .r [] [.row (sO oz5)], .br false, .r [] [.row (sO oz5)], .br false, .r [] [.row (sO oz5), .br true, .br true, .br true, .br false], .br false, .r [] [.row (sO oz5)], .br false, .r [] [.row (sO oz5)], .br false, .r [] [.row (sO oz5)], .br false, .r [] [.row (sO oz5)], .br false, .r [] [.row (sO oz5)], .br false, .r [] [], .br false, .r [] [.call (aO oz41) (rO oz41)], .r [] [], .br false, .r [] []]) (G := [.drop [2, 4, 5], .weak 0 (AV.tup [AV.agg [i64 v_kd, i64 v_na, i64 0, i64 0, i64 0, i64 0, i64 0, i8 0, i8 0, AV.sl 1 [], AV.sl 1 [], i32 0, i64 0, i8 0, i32 0, i64 0, i8 0, i8 0, i8 0], i64 0]), .sort]) Try.func41 (by kernel_rfl) (.c oz0 <| .c oz1 <| .c oz2 <| .c oz3 <| .c oz4 <| .c oz5 <| .c oz6 <| .c oz7 <| .c oz8 <| .c oz9 <| .c oz6 <| .c oz7 <| .c oz8 <| .c oz9 <| .c oz6 <| .c oz6 <| .c oz6 <| .c oz6 <| .c (show (v_kd == 8) = false by (refine decide_eq_false ?_; omega)) <| .c (show (0 : Int) ≤ (2 : Int) by omega) <| .c (show (2 : Int) < (↑(6 : Nat) : Int) by omega) <| .c oz21 <| .c oz6 <| .c (show (0 : Int) ≤ (3 : Int) by omega) <| .c (show (3 : Int) < (↑(6 : Nat) : Int) by omega) <| .c oz25 <| .c oz6 <| .c oz3 <| .c oz4 <| .c oz5 <| .c oz6 <| .c (show (0 : Int) ≤ (4 : Int) by omega) <| .c (show (4 : Int) < (↑(6 : Nat) : Int) by omega) <| .c oz33 <| .c oz6 <| .c (show (0 : Int) ≤ (5 : Int) by omega) <| .c (show (5 : Int) < (↑(6 : Nat) : Int) by omega) <| .c oz37 <| .c oz6 <| .c (show (r2.snd != 0) = false by (simp; omega)) <| .c (show WeakL [AV.agg [i64 v_kd, i64 v_na, i64 0, i64 0, i64 0, i64 0, i64 0, i8 0, i8 0, AV.lit (Value.slice none 0 0), AV.lit (Value.slice none 0 0), i32 0, i64 0, i8 0, i32 0, i64 0, i8 0, i8 0, i8 0]] [AV.agg [i64 (Nod.mk v_kd v_na 0 0 0 0 0 0 0 [] [] 0 0 0 0 0 0 0 0).kd, i64 (Nod.mk v_kd v_na 0 0 0 0 0 0 0 [] [] 0 0 0 0 0 0 0 0).na, i64 (Nod.mk v_kd v_na 0 0 0 0 0 0 0 [] [] 0 0 0 0 0 0 0 0).nb, i64 (Nod.mk v_kd v_na 0 0 0 0 0 0 0 [] [] 0 0 0 0 0 0 0 0).nk, i64 (Nod.mk v_kd v_na 0 0 0 0 0 0 0 [] [] 0 0 0 0 0 0 0 0).ns, i64 (Nod.mk v_kd v_na 0 0 0 0 0 0 0 [] [] 0 0 0 0 0 0 0 0).np, i64 (Nod.mk v_kd v_na 0 0 0 0 0 0 0 [] [] 0 0 0 0 0 0 0 0).no, i8 (Nod.mk v_kd v_na 0 0 0 0 0 0 0 [] [] 0 0 0 0 0 0 0 0).za, i8 (Nod.mk v_kd v_na 0 0 0 0 0 0 0 [] [] 0 0 0 0 0 0 0 0).zb, AV.sl 1 [], AV.sl 1 [], i32 (Nod.mk v_kd v_na 0 0 0 0 0 0 0 [] [] 0 0 0 0 0 0 0 0).qm, i64 (Nod.mk v_kd v_na 0 0 0 0 0 0 0 [] [] 0 0 0 0 0 0 0 0).qs, i8 (Nod.mk v_kd v_na 0 0 0 0 0 0 0 [] [] 0 0 0 0 0 0 0 0).qz, i32 (Nod.mk v_kd v_na 0 0 0 0 0 0 0 [] [] 0 0 0 0 0 0 0 0).rm, i64 (Nod.mk v_kd v_na 0 0 0 0 0 0 0 [] [] 0 0 0 0 0 0 0 0).rs, i8 (Nod.mk v_kd v_na 0 0 0 0 0 0 0 [] [] 0 0 0 0 0 0 0 0).rz, i8 (Nod.mk v_kd v_na 0 0 0 0 0 0 0 [] [] 0 0 0 0 0 0 0 0).lo, i8 (Nod.mk v_kd v_na 0 0 0 0 0 0 0 [] [] 0 0 0 0 0 0 0 0).hi]] from (.cons (Weak.agg (.cons (.refl _) (.cons (.refl _) (.cons (.refl _) (.cons (.refl _) (.cons (.refl _) (.cons (.refl _) (.cons (.refl _) (.cons (.refl _) (.cons (.refl _) (.cons (Weak.nil _) (.cons (Weak.nil _) (.cons (.refl _) (.cons (.refl _) (.cons (.refl _) (.cons (.refl _) (.cons (.refl _) (.cons (.refl _) (.cons (.refl _) (.cons (.refl _) .nil)))))))))))))))))))) .nil)) <| .c oz41 <| .c (show (checkE (Nod.mk v_kd v_na 0 0 0 0 0 0 0 [] [] 0 0 0 0 0 0 0 0) != 0) = false by (simp; omega)) <| .c (show Weak (AV.tup [AV.agg [i64 v_kd, i64 v_na, i64 0, i64 0, i64 0, i64 0, i64 0, i8 0, i8 0, AV.lit (Value.slice none 0 0), AV.lit (Value.slice none 0 0), i32 0, i64 0, i8 0, i32 0, i64 0, i8 0, i8 0, i8 0], i64 0]) (AV.tup [AV.agg [i64 v_kd, i64 v_na, i64 0, i64 0, i64 0, i64 0, i64 0, i8 0, i8 0, AV.sl 1 [], AV.sl 1 [], i32 0, i64 0, i8 0, i32 0, i64 0, i8 0, i8 0, i8 0], i64 0]) from (Weak.tup (.cons (Weak.agg (.cons (.refl _) (.cons (.refl _) (.cons (.refl _) (.cons (.refl _) (.cons (.refl _) (.cons (.refl _) (.cons (.refl _) (.cons (.refl _) (.cons (.refl _) (.cons (Weak.nil _) (.cons (Weak.nil _) (.cons (.refl _) (.cons (.refl _) (.cons (.refl _) (.cons (.refl _) (.cons (.refl _) (.cons (.refl _) (.cons (.refl _) (.cons (.refl _) .nil)))))))))))))))))))) (.cons (.refl _) .nil)))) <| .n)
end Go.Proofs.Ytgecmooedhnenaa

/- The document's taker of a node, of all kinds. No condition. -/
namespace Go.Proofs.Ytgecmooedhnenaa
open Go.RowKit
set_option linter.unusedSimpArgs false
set_option linter.unusedVariables false
set_option linter.unnecessarySimpa false

theorem toS_2 (xs : List Int) (r : Rrf) : (toS xs r).2 = r.2 := by
  unfold toS; split
  · rename_i h; exact h.symm
  · rfl
def d1_1 (xs : List Int) (r : Rrf) : Rrf := cntR xs r 9
def d1_2 (xs : List Int) (r : Rrf) : Rrf := cntR xs (d1_1 xs r) 1024
def d1_3 (xs : List Int) (r : Rrf) : Rrf := cntR xs (d1_2 xs r) 1024
def d1_4 (xs : List Int) (r : Rrf) : Rrf := cntR xs (d1_3 xs r) 1024
def d1_5 (xs : List Int) (r : Rrf) : Rrf := cntR xs (d1_4 xs r) 1024
def d1_6 (xs : List Int) (r : Rrf) : Rrf := cntR xs (d1_5 xs r) 1024
def d1_7 (xs : List Int) (r : Rrf) : Rrf := smlR xs (d1_6 xs r) 1
def d1_8 (xs : List Int) (r : Rrf) : Rrf := cntR xs (d1_7 xs r) 16384
def d1_9 (xs : List Int) (r : Rrf) : Rrf := smlR xs (d1_8 xs r) (cntV (toS xs (d1_7 xs r)) 16384)
def d1_10 (xs : List Int) (r : Rrf) : Rrf := cntR xs (d1_9 xs r) 16384
def d1_11 (xs : List Int) (r : Rrf) : Rrf := widR xs (d1_10 xs r) (cntV (toS xs (d1_9 xs r)) 16384)
def d1_12 (xs : List Int) (r : Rrf) : Rrf := cntR xs (d1_11 xs r) 2147483647
def d1_13 (xs : List Int) (r : Rrf) : Rrf := cntR xs (d1_12 xs r) 62
def d1_14 (xs : List Int) (r : Rrf) : Rrf := smlR xs (d1_13 xs r) 1
def d1_15 (xs : List Int) (r : Rrf) : Rrf := smlR xs (d1_14 xs r) 1
def d1_16 (xs : List Int) (r : Rrf) : Rrf := smlR xs (d1_15 xs r) 1
theorem d1_in {xs : List Int} {r : Rrf} (i0 : Rrf.In xs r) : Rrf.In xs (d1_16 xs r) := by
  have i1 : Rrf.In xs (d1_1 xs r) := cntR_in i0 _
  have i2 : Rrf.In xs (d1_2 xs r) := cntR_in i1 _
  have i3 : Rrf.In xs (d1_3 xs r) := cntR_in i2 _
  have i4 : Rrf.In xs (d1_4 xs r) := cntR_in i3 _
  have i5 : Rrf.In xs (d1_5 xs r) := cntR_in i4 _
  have i6 : Rrf.In xs (d1_6 xs r) := cntR_in i5 _
  have i7 : Rrf.In xs (d1_7 xs r) := smlR_in i6 _
  have i8 : Rrf.In xs (d1_8 xs r) := cntR_in i7 _
  have i9 : Rrf.In xs (d1_9 xs r) := smlR_in i8 _
  have i10 : Rrf.In xs (d1_10 xs r) := cntR_in i9 _
  have i11 : Rrf.In xs (d1_11 xs r) := widR_in i10 _
  have i12 : Rrf.In xs (d1_12 xs r) := cntR_in i11 _
  have i13 : Rrf.In xs (d1_13 xs r) := cntR_in i12 _
  have i14 : Rrf.In xs (d1_14 xs r) := smlR_in i13 _
  have i15 : Rrf.In xs (d1_15 xs r) := smlR_in i14 _
  have i16 : Rrf.In xs (d1_16 xs r) := smlR_in i15 _
  exact i16
set_option maxHeartbeats 2000000 in
theorem d1_s (xs : List Int) (r : Rrf) : toS xs (d1_16 xs r) = ts_1 (toS xs r) := by
  have t1 : toS xs (d1_1 xs r) = cntS (toS xs r) 9 := toS_cnt xs r _
  have t2 : toS xs (d1_2 xs r) = cntS (toS xs (d1_1 xs r)) 1024 := toS_cnt xs (d1_1 xs r) _
  have t3 : toS xs (d1_3 xs r) = cntS (toS xs (d1_2 xs r)) 1024 := toS_cnt xs (d1_2 xs r) _
  have t4 : toS xs (d1_4 xs r) = cntS (toS xs (d1_3 xs r)) 1024 := toS_cnt xs (d1_3 xs r) _
  have t5 : toS xs (d1_5 xs r) = cntS (toS xs (d1_4 xs r)) 1024 := toS_cnt xs (d1_4 xs r) _
  have t6 : toS xs (d1_6 xs r) = cntS (toS xs (d1_5 xs r)) 1024 := toS_cnt xs (d1_5 xs r) _
  have t7 : toS xs (d1_7 xs r) = smlS (toS xs (d1_6 xs r)) 1 := toS_sml xs (d1_6 xs r) _
  have t8 : toS xs (d1_8 xs r) = cntS (toS xs (d1_7 xs r)) 16384 := toS_cnt xs (d1_7 xs r) _
  have t9 : toS xs (d1_9 xs r) = smlS (toS xs (d1_8 xs r)) (cntV (toS xs (d1_7 xs r)) 16384) := toS_sml xs (d1_8 xs r) _
  have t10 : toS xs (d1_10 xs r) = cntS (toS xs (d1_9 xs r)) 16384 := toS_cnt xs (d1_9 xs r) _
  have t11 : toS xs (d1_11 xs r) = widS (toS xs (d1_10 xs r)) (cntV (toS xs (d1_9 xs r)) 16384) := toS_wid xs (d1_10 xs r) _
  have t12 : toS xs (d1_12 xs r) = cntS (toS xs (d1_11 xs r)) 2147483647 := toS_cnt xs (d1_11 xs r) _
  have t13 : toS xs (d1_13 xs r) = cntS (toS xs (d1_12 xs r)) 62 := toS_cnt xs (d1_12 xs r) _
  have t14 : toS xs (d1_14 xs r) = smlS (toS xs (d1_13 xs r)) 1 := toS_sml xs (d1_13 xs r) _
  have t15 : toS xs (d1_15 xs r) = smlS (toS xs (d1_14 xs r)) 1 := toS_sml xs (d1_14 xs r) _
  have t16 : toS xs (d1_16 xs r) = smlS (toS xs (d1_15 xs r)) 1 := toS_sml xs (d1_15 xs r) _
  unfold ts_1
  simp only [lstS, lst1, sclS, t1, t2, t3, t4, t5, t6, t7, t8, t9, t10, t11, t12, t13, t14, t15, t16]
set_option maxHeartbeats 2000000 in
theorem d1_n (xs : List Int) (r : Rrf) : tn_1 (toS xs r) nod0 = (⟨cntV (toS xs r) 9, cntV (toS xs (d1_1 xs r)) 1024, 0, cntV (toS xs (d1_2 xs r)) 1024, cntV (toS xs (d1_3 xs r)) 1024, cntV (toS xs (d1_4 xs r)) 1024, cntV (toS xs (d1_5 xs r)) 1024, oneV (toS xs (d1_6 xs r)), 0, smlV (toS xs (d1_8 xs r)) (cntV (toS xs (d1_7 xs r)) 16384), widV (toS xs (d1_10 xs r)) (cntV (toS xs (d1_9 xs r)) 16384), cntV (toS xs (d1_11 xs r)) 2147483647, cntV (toS xs (d1_12 xs r)) 62, oneV (toS xs (d1_13 xs r)), 0, 0, 0, oneV (toS xs (d1_14 xs r)), oneV (toS xs (d1_15 xs r))⟩ : Nod) := by
  have t1 : toS xs (d1_1 xs r) = cntS (toS xs r) 9 := toS_cnt xs r _
  have t2 : toS xs (d1_2 xs r) = cntS (toS xs (d1_1 xs r)) 1024 := toS_cnt xs (d1_1 xs r) _
  have t3 : toS xs (d1_3 xs r) = cntS (toS xs (d1_2 xs r)) 1024 := toS_cnt xs (d1_2 xs r) _
  have t4 : toS xs (d1_4 xs r) = cntS (toS xs (d1_3 xs r)) 1024 := toS_cnt xs (d1_3 xs r) _
  have t5 : toS xs (d1_5 xs r) = cntS (toS xs (d1_4 xs r)) 1024 := toS_cnt xs (d1_4 xs r) _
  have t6 : toS xs (d1_6 xs r) = cntS (toS xs (d1_5 xs r)) 1024 := toS_cnt xs (d1_5 xs r) _
  have t7 : toS xs (d1_7 xs r) = smlS (toS xs (d1_6 xs r)) 1 := toS_sml xs (d1_6 xs r) _
  have t8 : toS xs (d1_8 xs r) = cntS (toS xs (d1_7 xs r)) 16384 := toS_cnt xs (d1_7 xs r) _
  have t9 : toS xs (d1_9 xs r) = smlS (toS xs (d1_8 xs r)) (cntV (toS xs (d1_7 xs r)) 16384) := toS_sml xs (d1_8 xs r) _
  have t10 : toS xs (d1_10 xs r) = cntS (toS xs (d1_9 xs r)) 16384 := toS_cnt xs (d1_9 xs r) _
  have t11 : toS xs (d1_11 xs r) = widS (toS xs (d1_10 xs r)) (cntV (toS xs (d1_9 xs r)) 16384) := toS_wid xs (d1_10 xs r) _
  have t12 : toS xs (d1_12 xs r) = cntS (toS xs (d1_11 xs r)) 2147483647 := toS_cnt xs (d1_11 xs r) _
  have t13 : toS xs (d1_13 xs r) = cntS (toS xs (d1_12 xs r)) 62 := toS_cnt xs (d1_12 xs r) _
  have t14 : toS xs (d1_14 xs r) = smlS (toS xs (d1_13 xs r)) 1 := toS_sml xs (d1_13 xs r) _
  have t15 : toS xs (d1_15 xs r) = smlS (toS xs (d1_14 xs r)) 1 := toS_sml xs (d1_14 xs r) _
  have t16 : toS xs (d1_16 xs r) = smlS (toS xs (d1_15 xs r)) 1 := toS_sml xs (d1_15 xs r) _
  unfold tn_1
  simp only [lstW, lstB, lst1, lstS, sclM, sclH, sclS, t1, t2, t3, t4, t5, t6, t7, t8, t9, t10, t11, t12, t13, t14, t15, t16]; rfl
set_option maxHeartbeats 2000000 in
theorem rtake_1v (xs : List Int) (r : Rrf) (i0 : Rrf.In xs r) (hf : (toS xs r).Fit) (hk : cntV (toS xs r) 9 = 1) : VM Try.prog 41 [.ptr 100000 0 0] [(100000, .var (rrC xs r))] (.tup [nod (takeR (toS xs r)).1, i64 (takeR (toS xs r)).2]) [(100000, .var (rrC xs (d1_16 xs r)))] := by
  have e1 : takeS (toS xs r) = ts_1 (toS xs r) := by unfold takeS; rw [if_pos hk]
  have e2 : takeN (toS xs r) = tn_1 (toS xs r) nod0 := by unfold takeN; rw [if_pos hk]
  have e4 : (takeS (toS xs r)).2 = (d1_16 xs r).2 := by rw [e1, ← d1_s, toS_2]
  have e5 := e2.trans (d1_n xs r)
  have bound := takeN_le hf
  have h9 : In64 (cntV (toS xs r) 9) := by have := cntV_rng (m := 9) (toS_in i0) (by decide); exact ⟨by omega, by omega⟩
  have i1 : Rrf.In xs (d1_1 xs r) := cntR_in i0 _
  have i2 : Rrf.In xs (d1_2 xs r) := cntR_in i1 _
  have i3 : Rrf.In xs (d1_3 xs r) := cntR_in i2 _
  have i4 : Rrf.In xs (d1_4 xs r) := cntR_in i3 _
  have i5 : Rrf.In xs (d1_5 xs r) := cntR_in i4 _
  have i6 : Rrf.In xs (d1_6 xs r) := cntR_in i5 _
  have i7 : Rrf.In xs (d1_7 xs r) := smlR_in i6 _
  have i8 : Rrf.In xs (d1_8 xs r) := cntR_in i7 _
  have i9 : Rrf.In xs (d1_9 xs r) := smlR_in i8 _
  have i10 : Rrf.In xs (d1_10 xs r) := cntR_in i9 _
  have i11 : Rrf.In xs (d1_11 xs r) := widR_in i10 _
  have i12 : Rrf.In xs (d1_12 xs r) := cntR_in i11 _
  have i13 : Rrf.In xs (d1_13 xs r) := cntR_in i12 _
  have i14 : Rrf.In xs (d1_14 xs r) := smlR_in i13 _
  have i15 : Rrf.In xs (d1_15 xs r) := smlR_in i14 _
  unfold takeR
  rw [e4, e5]
  rw [e5] at bound
  by_cases hb : (d1_16 xs r).2 = 0
  · rw [if_neg (by simpa using hb)]
    by_cases hc : checkE (⟨cntV (toS xs r) 9, cntV (toS xs (d1_1 xs r)) 1024, 0, cntV (toS xs (d1_2 xs r)) 1024, cntV (toS xs (d1_3 xs r)) 1024, cntV (toS xs (d1_4 xs r)) 1024, cntV (toS xs (d1_5 xs r)) 1024, oneV (toS xs (d1_6 xs r)), 0, smlV (toS xs (d1_8 xs r)) (cntV (toS xs (d1_7 xs r)) 16384), widV (toS xs (d1_10 xs r)) (cntV (toS xs (d1_9 xs r)) 16384), cntV (toS xs (d1_11 xs r)) 2147483647, cntV (toS xs (d1_12 xs r)) 62, oneV (toS xs (d1_13 xs r)), 0, 0, 0, oneV (toS xs (d1_14 xs r)), oneV (toS xs (d1_15 xs r))⟩ : Nod) = 0
    · rw [if_neg (by simpa using hc)]
      exact rw_1y xs r _ _ _ _ _ _ _ _ _ _ _ _ _ _ _ _ _ _ _ _ _ _ _ _ _ _ _ _ _ _ _ _ (rcnt_v xs r 9 i0 (by decide) (by decide)) (rcnt_v xs (d1_1 xs r) 1024 i1 (by decide) (by decide)) (rcnt_v xs (d1_2 xs r) 1024 i2 (by decide) (by decide)) (rcnt_v xs (d1_3 xs r) 1024 i3 (by decide) (by decide)) (rcnt_v xs (d1_4 xs r) 1024 i4 (by decide) (by decide)) (rcnt_v xs (d1_5 xs r) 1024 i5 (by decide) (by decide)) (rone_v xs (d1_6 xs r) i6) (rcnt_v xs (d1_7 xs r) 16384 i7 (by decide) (by decide)) (rsmall_v xs (d1_8 xs r) _ i8) (rcnt_v xs (d1_9 xs r) 16384 i9 (by decide) (by decide)) (rwide_v xs (d1_10 xs r) _ i10) (rcnt_v xs (d1_11 xs r) 2147483647 i11 (by decide) (by decide)) (rcnt_v xs (d1_12 xs r) 62 i12 (by decide) (by decide)) (rone_v xs (d1_13 xs r) i13) (rone_v xs (d1_14 xs r) i14) (rone_v xs (d1_15 xs r) i15) hk h9 (cntV_rng (toS_in i11) (by decide)) hb bound.1 bound.2 hc
    · rw [if_pos hc]
      exact rw_1c xs r _ _ _ _ _ _ _ _ _ _ _ _ _ _ _ _ _ _ _ _ _ _ _ _ _ _ _ _ _ _ _ _ (rcnt_v xs r 9 i0 (by decide) (by decide)) (rcnt_v xs (d1_1 xs r) 1024 i1 (by decide) (by decide)) (rcnt_v xs (d1_2 xs r) 1024 i2 (by decide) (by decide)) (rcnt_v xs (d1_3 xs r) 1024 i3 (by decide) (by decide)) (rcnt_v xs (d1_4 xs r) 1024 i4 (by decide) (by decide)) (rcnt_v xs (d1_5 xs r) 1024 i5 (by decide) (by decide)) (rone_v xs (d1_6 xs r) i6) (rcnt_v xs (d1_7 xs r) 16384 i7 (by decide) (by decide)) (rsmall_v xs (d1_8 xs r) _ i8) (rcnt_v xs (d1_9 xs r) 16384 i9 (by decide) (by decide)) (rwide_v xs (d1_10 xs r) _ i10) (rcnt_v xs (d1_11 xs r) 2147483647 i11 (by decide) (by decide)) (rcnt_v xs (d1_12 xs r) 62 i12 (by decide) (by decide)) (rone_v xs (d1_13 xs r) i13) (rone_v xs (d1_14 xs r) i14) (rone_v xs (d1_15 xs r) i15) hk h9 (cntV_rng (toS_in i11) (by decide)) hb bound.1 bound.2 hc
  · rw [if_pos hb]
    exact rw_1b xs r _ _ _ _ _ _ _ _ _ _ _ _ _ _ _ _ _ _ _ _ _ _ _ _ _ _ _ _ _ _ _ _ (rcnt_v xs r 9 i0 (by decide) (by decide)) (rcnt_v xs (d1_1 xs r) 1024 i1 (by decide) (by decide)) (rcnt_v xs (d1_2 xs r) 1024 i2 (by decide) (by decide)) (rcnt_v xs (d1_3 xs r) 1024 i3 (by decide) (by decide)) (rcnt_v xs (d1_4 xs r) 1024 i4 (by decide) (by decide)) (rcnt_v xs (d1_5 xs r) 1024 i5 (by decide) (by decide)) (rone_v xs (d1_6 xs r) i6) (rcnt_v xs (d1_7 xs r) 16384 i7 (by decide) (by decide)) (rsmall_v xs (d1_8 xs r) _ i8) (rcnt_v xs (d1_9 xs r) 16384 i9 (by decide) (by decide)) (rwide_v xs (d1_10 xs r) _ i10) (rcnt_v xs (d1_11 xs r) 2147483647 i11 (by decide) (by decide)) (rcnt_v xs (d1_12 xs r) 62 i12 (by decide) (by decide)) (rone_v xs (d1_13 xs r) i13) (rone_v xs (d1_14 xs r) i14) (rone_v xs (d1_15 xs r) i15) hk h9 (cntV_rng (toS_in i11) (by decide)) hb
def d2_1 (xs : List Int) (r : Rrf) : Rrf := cntR xs r 9
def d2_2 (xs : List Int) (r : Rrf) : Rrf := cntR xs (d2_1 xs r) 1024
def d2_3 (xs : List Int) (r : Rrf) : Rrf := cntR xs (d2_2 xs r) 1024
def d2_4 (xs : List Int) (r : Rrf) : Rrf := cntR xs (d2_3 xs r) 1024
def d2_5 (xs : List Int) (r : Rrf) : Rrf := cntR xs (d2_4 xs r) 1024
def d2_6 (xs : List Int) (r : Rrf) : Rrf := smlR xs (d2_5 xs r) 1
def d2_7 (xs : List Int) (r : Rrf) : Rrf := cntR xs (d2_6 xs r) 16384
def d2_8 (xs : List Int) (r : Rrf) : Rrf := smlR xs (d2_7 xs r) (cntV (toS xs (d2_6 xs r)) 16384)
def d2_9 (xs : List Int) (r : Rrf) : Rrf := cntR xs (d2_8 xs r) 16384
def d2_10 (xs : List Int) (r : Rrf) : Rrf := widR xs (d2_9 xs r) (cntV (toS xs (d2_8 xs r)) 16384)
def d2_11 (xs : List Int) (r : Rrf) : Rrf := cntR xs (d2_10 xs r) 2147483647
def d2_12 (xs : List Int) (r : Rrf) : Rrf := cntR xs (d2_11 xs r) 62
def d2_13 (xs : List Int) (r : Rrf) : Rrf := smlR xs (d2_12 xs r) 1
def d2_14 (xs : List Int) (r : Rrf) : Rrf := smlR xs (d2_13 xs r) 1
def d2_15 (xs : List Int) (r : Rrf) : Rrf := smlR xs (d2_14 xs r) 1
theorem d2_in {xs : List Int} {r : Rrf} (i0 : Rrf.In xs r) : Rrf.In xs (d2_15 xs r) := by
  have i1 : Rrf.In xs (d2_1 xs r) := cntR_in i0 _
  have i2 : Rrf.In xs (d2_2 xs r) := cntR_in i1 _
  have i3 : Rrf.In xs (d2_3 xs r) := cntR_in i2 _
  have i4 : Rrf.In xs (d2_4 xs r) := cntR_in i3 _
  have i5 : Rrf.In xs (d2_5 xs r) := cntR_in i4 _
  have i6 : Rrf.In xs (d2_6 xs r) := smlR_in i5 _
  have i7 : Rrf.In xs (d2_7 xs r) := cntR_in i6 _
  have i8 : Rrf.In xs (d2_8 xs r) := smlR_in i7 _
  have i9 : Rrf.In xs (d2_9 xs r) := cntR_in i8 _
  have i10 : Rrf.In xs (d2_10 xs r) := widR_in i9 _
  have i11 : Rrf.In xs (d2_11 xs r) := cntR_in i10 _
  have i12 : Rrf.In xs (d2_12 xs r) := cntR_in i11 _
  have i13 : Rrf.In xs (d2_13 xs r) := smlR_in i12 _
  have i14 : Rrf.In xs (d2_14 xs r) := smlR_in i13 _
  have i15 : Rrf.In xs (d2_15 xs r) := smlR_in i14 _
  exact i15
set_option maxHeartbeats 2000000 in
theorem d2_s (xs : List Int) (r : Rrf) : toS xs (d2_15 xs r) = ts_2 (toS xs r) := by
  have t1 : toS xs (d2_1 xs r) = cntS (toS xs r) 9 := toS_cnt xs r _
  have t2 : toS xs (d2_2 xs r) = cntS (toS xs (d2_1 xs r)) 1024 := toS_cnt xs (d2_1 xs r) _
  have t3 : toS xs (d2_3 xs r) = cntS (toS xs (d2_2 xs r)) 1024 := toS_cnt xs (d2_2 xs r) _
  have t4 : toS xs (d2_4 xs r) = cntS (toS xs (d2_3 xs r)) 1024 := toS_cnt xs (d2_3 xs r) _
  have t5 : toS xs (d2_5 xs r) = cntS (toS xs (d2_4 xs r)) 1024 := toS_cnt xs (d2_4 xs r) _
  have t6 : toS xs (d2_6 xs r) = smlS (toS xs (d2_5 xs r)) 1 := toS_sml xs (d2_5 xs r) _
  have t7 : toS xs (d2_7 xs r) = cntS (toS xs (d2_6 xs r)) 16384 := toS_cnt xs (d2_6 xs r) _
  have t8 : toS xs (d2_8 xs r) = smlS (toS xs (d2_7 xs r)) (cntV (toS xs (d2_6 xs r)) 16384) := toS_sml xs (d2_7 xs r) _
  have t9 : toS xs (d2_9 xs r) = cntS (toS xs (d2_8 xs r)) 16384 := toS_cnt xs (d2_8 xs r) _
  have t10 : toS xs (d2_10 xs r) = widS (toS xs (d2_9 xs r)) (cntV (toS xs (d2_8 xs r)) 16384) := toS_wid xs (d2_9 xs r) _
  have t11 : toS xs (d2_11 xs r) = cntS (toS xs (d2_10 xs r)) 2147483647 := toS_cnt xs (d2_10 xs r) _
  have t12 : toS xs (d2_12 xs r) = cntS (toS xs (d2_11 xs r)) 62 := toS_cnt xs (d2_11 xs r) _
  have t13 : toS xs (d2_13 xs r) = smlS (toS xs (d2_12 xs r)) 1 := toS_sml xs (d2_12 xs r) _
  have t14 : toS xs (d2_14 xs r) = smlS (toS xs (d2_13 xs r)) 1 := toS_sml xs (d2_13 xs r) _
  have t15 : toS xs (d2_15 xs r) = smlS (toS xs (d2_14 xs r)) 1 := toS_sml xs (d2_14 xs r) _
  unfold ts_2
  simp only [lstS, lst1, sclS, t1, t2, t3, t4, t5, t6, t7, t8, t9, t10, t11, t12, t13, t14, t15]
set_option maxHeartbeats 2000000 in
theorem d2_n (xs : List Int) (r : Rrf) : tn_2 (toS xs r) nod0 = (⟨cntV (toS xs r) 9, cntV (toS xs (d2_1 xs r)) 1024, 0, cntV (toS xs (d2_2 xs r)) 1024, cntV (toS xs (d2_3 xs r)) 1024, cntV (toS xs (d2_4 xs r)) 1024, 0, oneV (toS xs (d2_5 xs r)), 0, smlV (toS xs (d2_7 xs r)) (cntV (toS xs (d2_6 xs r)) 16384), widV (toS xs (d2_9 xs r)) (cntV (toS xs (d2_8 xs r)) 16384), cntV (toS xs (d2_10 xs r)) 2147483647, cntV (toS xs (d2_11 xs r)) 62, oneV (toS xs (d2_12 xs r)), 0, 0, 0, oneV (toS xs (d2_13 xs r)), oneV (toS xs (d2_14 xs r))⟩ : Nod) := by
  have t1 : toS xs (d2_1 xs r) = cntS (toS xs r) 9 := toS_cnt xs r _
  have t2 : toS xs (d2_2 xs r) = cntS (toS xs (d2_1 xs r)) 1024 := toS_cnt xs (d2_1 xs r) _
  have t3 : toS xs (d2_3 xs r) = cntS (toS xs (d2_2 xs r)) 1024 := toS_cnt xs (d2_2 xs r) _
  have t4 : toS xs (d2_4 xs r) = cntS (toS xs (d2_3 xs r)) 1024 := toS_cnt xs (d2_3 xs r) _
  have t5 : toS xs (d2_5 xs r) = cntS (toS xs (d2_4 xs r)) 1024 := toS_cnt xs (d2_4 xs r) _
  have t6 : toS xs (d2_6 xs r) = smlS (toS xs (d2_5 xs r)) 1 := toS_sml xs (d2_5 xs r) _
  have t7 : toS xs (d2_7 xs r) = cntS (toS xs (d2_6 xs r)) 16384 := toS_cnt xs (d2_6 xs r) _
  have t8 : toS xs (d2_8 xs r) = smlS (toS xs (d2_7 xs r)) (cntV (toS xs (d2_6 xs r)) 16384) := toS_sml xs (d2_7 xs r) _
  have t9 : toS xs (d2_9 xs r) = cntS (toS xs (d2_8 xs r)) 16384 := toS_cnt xs (d2_8 xs r) _
  have t10 : toS xs (d2_10 xs r) = widS (toS xs (d2_9 xs r)) (cntV (toS xs (d2_8 xs r)) 16384) := toS_wid xs (d2_9 xs r) _
  have t11 : toS xs (d2_11 xs r) = cntS (toS xs (d2_10 xs r)) 2147483647 := toS_cnt xs (d2_10 xs r) _
  have t12 : toS xs (d2_12 xs r) = cntS (toS xs (d2_11 xs r)) 62 := toS_cnt xs (d2_11 xs r) _
  have t13 : toS xs (d2_13 xs r) = smlS (toS xs (d2_12 xs r)) 1 := toS_sml xs (d2_12 xs r) _
  have t14 : toS xs (d2_14 xs r) = smlS (toS xs (d2_13 xs r)) 1 := toS_sml xs (d2_13 xs r) _
  have t15 : toS xs (d2_15 xs r) = smlS (toS xs (d2_14 xs r)) 1 := toS_sml xs (d2_14 xs r) _
  unfold tn_2
  simp only [lstW, lstB, lst1, lstS, sclM, sclH, sclS, t1, t2, t3, t4, t5, t6, t7, t8, t9, t10, t11, t12, t13, t14, t15]; rfl
set_option maxHeartbeats 2000000 in
theorem rtake_2v (xs : List Int) (r : Rrf) (i0 : Rrf.In xs r) (hf : (toS xs r).Fit) (hk : cntV (toS xs r) 9 = 2) : VM Try.prog 41 [.ptr 100000 0 0] [(100000, .var (rrC xs r))] (.tup [nod (takeR (toS xs r)).1, i64 (takeR (toS xs r)).2]) [(100000, .var (rrC xs (d2_15 xs r)))] := by
  have e1 : takeS (toS xs r) = ts_2 (toS xs r) := by unfold takeS; rw [if_neg (by omega), if_pos hk]
  have e2 : takeN (toS xs r) = tn_2 (toS xs r) nod0 := by unfold takeN; rw [if_neg (by omega), if_pos hk]
  have e4 : (takeS (toS xs r)).2 = (d2_15 xs r).2 := by rw [e1, ← d2_s, toS_2]
  have e5 := e2.trans (d2_n xs r)
  have bound := takeN_le hf
  have h9 : In64 (cntV (toS xs r) 9) := by have := cntV_rng (m := 9) (toS_in i0) (by decide); exact ⟨by omega, by omega⟩
  have i1 : Rrf.In xs (d2_1 xs r) := cntR_in i0 _
  have i2 : Rrf.In xs (d2_2 xs r) := cntR_in i1 _
  have i3 : Rrf.In xs (d2_3 xs r) := cntR_in i2 _
  have i4 : Rrf.In xs (d2_4 xs r) := cntR_in i3 _
  have i5 : Rrf.In xs (d2_5 xs r) := cntR_in i4 _
  have i6 : Rrf.In xs (d2_6 xs r) := smlR_in i5 _
  have i7 : Rrf.In xs (d2_7 xs r) := cntR_in i6 _
  have i8 : Rrf.In xs (d2_8 xs r) := smlR_in i7 _
  have i9 : Rrf.In xs (d2_9 xs r) := cntR_in i8 _
  have i10 : Rrf.In xs (d2_10 xs r) := widR_in i9 _
  have i11 : Rrf.In xs (d2_11 xs r) := cntR_in i10 _
  have i12 : Rrf.In xs (d2_12 xs r) := cntR_in i11 _
  have i13 : Rrf.In xs (d2_13 xs r) := smlR_in i12 _
  have i14 : Rrf.In xs (d2_14 xs r) := smlR_in i13 _
  unfold takeR
  rw [e4, e5]
  rw [e5] at bound
  by_cases hb : (d2_15 xs r).2 = 0
  · rw [if_neg (by simpa using hb)]
    by_cases hc : checkE (⟨cntV (toS xs r) 9, cntV (toS xs (d2_1 xs r)) 1024, 0, cntV (toS xs (d2_2 xs r)) 1024, cntV (toS xs (d2_3 xs r)) 1024, cntV (toS xs (d2_4 xs r)) 1024, 0, oneV (toS xs (d2_5 xs r)), 0, smlV (toS xs (d2_7 xs r)) (cntV (toS xs (d2_6 xs r)) 16384), widV (toS xs (d2_9 xs r)) (cntV (toS xs (d2_8 xs r)) 16384), cntV (toS xs (d2_10 xs r)) 2147483647, cntV (toS xs (d2_11 xs r)) 62, oneV (toS xs (d2_12 xs r)), 0, 0, 0, oneV (toS xs (d2_13 xs r)), oneV (toS xs (d2_14 xs r))⟩ : Nod) = 0
    · rw [if_neg (by simpa using hc)]
      exact rw_2y xs r _ _ _ _ _ _ _ _ _ _ _ _ _ _ _ _ _ _ _ _ _ _ _ _ _ _ _ _ _ _ (rcnt_v xs r 9 i0 (by decide) (by decide)) (rcnt_v xs (d2_1 xs r) 1024 i1 (by decide) (by decide)) (rcnt_v xs (d2_2 xs r) 1024 i2 (by decide) (by decide)) (rcnt_v xs (d2_3 xs r) 1024 i3 (by decide) (by decide)) (rcnt_v xs (d2_4 xs r) 1024 i4 (by decide) (by decide)) (rone_v xs (d2_5 xs r) i5) (rcnt_v xs (d2_6 xs r) 16384 i6 (by decide) (by decide)) (rsmall_v xs (d2_7 xs r) _ i7) (rcnt_v xs (d2_8 xs r) 16384 i8 (by decide) (by decide)) (rwide_v xs (d2_9 xs r) _ i9) (rcnt_v xs (d2_10 xs r) 2147483647 i10 (by decide) (by decide)) (rcnt_v xs (d2_11 xs r) 62 i11 (by decide) (by decide)) (rone_v xs (d2_12 xs r) i12) (rone_v xs (d2_13 xs r) i13) (rone_v xs (d2_14 xs r) i14) hk h9 (cntV_rng (toS_in i10) (by decide)) hb bound.1 bound.2 hc
    · rw [if_pos hc]
      exact rw_2c xs r _ _ _ _ _ _ _ _ _ _ _ _ _ _ _ _ _ _ _ _ _ _ _ _ _ _ _ _ _ _ (rcnt_v xs r 9 i0 (by decide) (by decide)) (rcnt_v xs (d2_1 xs r) 1024 i1 (by decide) (by decide)) (rcnt_v xs (d2_2 xs r) 1024 i2 (by decide) (by decide)) (rcnt_v xs (d2_3 xs r) 1024 i3 (by decide) (by decide)) (rcnt_v xs (d2_4 xs r) 1024 i4 (by decide) (by decide)) (rone_v xs (d2_5 xs r) i5) (rcnt_v xs (d2_6 xs r) 16384 i6 (by decide) (by decide)) (rsmall_v xs (d2_7 xs r) _ i7) (rcnt_v xs (d2_8 xs r) 16384 i8 (by decide) (by decide)) (rwide_v xs (d2_9 xs r) _ i9) (rcnt_v xs (d2_10 xs r) 2147483647 i10 (by decide) (by decide)) (rcnt_v xs (d2_11 xs r) 62 i11 (by decide) (by decide)) (rone_v xs (d2_12 xs r) i12) (rone_v xs (d2_13 xs r) i13) (rone_v xs (d2_14 xs r) i14) hk h9 (cntV_rng (toS_in i10) (by decide)) hb bound.1 bound.2 hc
  · rw [if_pos hb]
    exact rw_2b xs r _ _ _ _ _ _ _ _ _ _ _ _ _ _ _ _ _ _ _ _ _ _ _ _ _ _ _ _ _ _ (rcnt_v xs r 9 i0 (by decide) (by decide)) (rcnt_v xs (d2_1 xs r) 1024 i1 (by decide) (by decide)) (rcnt_v xs (d2_2 xs r) 1024 i2 (by decide) (by decide)) (rcnt_v xs (d2_3 xs r) 1024 i3 (by decide) (by decide)) (rcnt_v xs (d2_4 xs r) 1024 i4 (by decide) (by decide)) (rone_v xs (d2_5 xs r) i5) (rcnt_v xs (d2_6 xs r) 16384 i6 (by decide) (by decide)) (rsmall_v xs (d2_7 xs r) _ i7) (rcnt_v xs (d2_8 xs r) 16384 i8 (by decide) (by decide)) (rwide_v xs (d2_9 xs r) _ i9) (rcnt_v xs (d2_10 xs r) 2147483647 i10 (by decide) (by decide)) (rcnt_v xs (d2_11 xs r) 62 i11 (by decide) (by decide)) (rone_v xs (d2_12 xs r) i12) (rone_v xs (d2_13 xs r) i13) (rone_v xs (d2_14 xs r) i14) hk h9 (cntV_rng (toS_in i10) (by decide)) hb
def d3_1 (xs : List Int) (r : Rrf) : Rrf := cntR xs r 9
def d3_2 (xs : List Int) (r : Rrf) : Rrf := cntR xs (d3_1 xs r) 1024
def d3_3 (xs : List Int) (r : Rrf) : Rrf := cntR xs (d3_2 xs r) 1024
def d3_4 (xs : List Int) (r : Rrf) : Rrf := smlR xs (d3_3 xs r) 1
def d3_5 (xs : List Int) (r : Rrf) : Rrf := cntR xs (d3_4 xs r) 16384
def d3_6 (xs : List Int) (r : Rrf) : Rrf := smlR xs (d3_5 xs r) (cntV (toS xs (d3_4 xs r)) 16384)
def d3_7 (xs : List Int) (r : Rrf) : Rrf := cntR xs (d3_6 xs r) 16384
def d3_8 (xs : List Int) (r : Rrf) : Rrf := widR xs (d3_7 xs r) (cntV (toS xs (d3_6 xs r)) 16384)
def d3_9 (xs : List Int) (r : Rrf) : Rrf := cntR xs (d3_8 xs r) 2147483647
def d3_10 (xs : List Int) (r : Rrf) : Rrf := cntR xs (d3_9 xs r) 62
def d3_11 (xs : List Int) (r : Rrf) : Rrf := smlR xs (d3_10 xs r) 1
def d3_12 (xs : List Int) (r : Rrf) : Rrf := smlR xs (d3_11 xs r) 1
def d3_13 (xs : List Int) (r : Rrf) : Rrf := smlR xs (d3_12 xs r) 1
theorem d3_in {xs : List Int} {r : Rrf} (i0 : Rrf.In xs r) : Rrf.In xs (d3_13 xs r) := by
  have i1 : Rrf.In xs (d3_1 xs r) := cntR_in i0 _
  have i2 : Rrf.In xs (d3_2 xs r) := cntR_in i1 _
  have i3 : Rrf.In xs (d3_3 xs r) := cntR_in i2 _
  have i4 : Rrf.In xs (d3_4 xs r) := smlR_in i3 _
  have i5 : Rrf.In xs (d3_5 xs r) := cntR_in i4 _
  have i6 : Rrf.In xs (d3_6 xs r) := smlR_in i5 _
  have i7 : Rrf.In xs (d3_7 xs r) := cntR_in i6 _
  have i8 : Rrf.In xs (d3_8 xs r) := widR_in i7 _
  have i9 : Rrf.In xs (d3_9 xs r) := cntR_in i8 _
  have i10 : Rrf.In xs (d3_10 xs r) := cntR_in i9 _
  have i11 : Rrf.In xs (d3_11 xs r) := smlR_in i10 _
  have i12 : Rrf.In xs (d3_12 xs r) := smlR_in i11 _
  have i13 : Rrf.In xs (d3_13 xs r) := smlR_in i12 _
  exact i13
set_option maxHeartbeats 2000000 in
theorem d3_s (xs : List Int) (r : Rrf) : toS xs (d3_13 xs r) = ts_3 (toS xs r) := by
  have t1 : toS xs (d3_1 xs r) = cntS (toS xs r) 9 := toS_cnt xs r _
  have t2 : toS xs (d3_2 xs r) = cntS (toS xs (d3_1 xs r)) 1024 := toS_cnt xs (d3_1 xs r) _
  have t3 : toS xs (d3_3 xs r) = cntS (toS xs (d3_2 xs r)) 1024 := toS_cnt xs (d3_2 xs r) _
  have t4 : toS xs (d3_4 xs r) = smlS (toS xs (d3_3 xs r)) 1 := toS_sml xs (d3_3 xs r) _
  have t5 : toS xs (d3_5 xs r) = cntS (toS xs (d3_4 xs r)) 16384 := toS_cnt xs (d3_4 xs r) _
  have t6 : toS xs (d3_6 xs r) = smlS (toS xs (d3_5 xs r)) (cntV (toS xs (d3_4 xs r)) 16384) := toS_sml xs (d3_5 xs r) _
  have t7 : toS xs (d3_7 xs r) = cntS (toS xs (d3_6 xs r)) 16384 := toS_cnt xs (d3_6 xs r) _
  have t8 : toS xs (d3_8 xs r) = widS (toS xs (d3_7 xs r)) (cntV (toS xs (d3_6 xs r)) 16384) := toS_wid xs (d3_7 xs r) _
  have t9 : toS xs (d3_9 xs r) = cntS (toS xs (d3_8 xs r)) 2147483647 := toS_cnt xs (d3_8 xs r) _
  have t10 : toS xs (d3_10 xs r) = cntS (toS xs (d3_9 xs r)) 62 := toS_cnt xs (d3_9 xs r) _
  have t11 : toS xs (d3_11 xs r) = smlS (toS xs (d3_10 xs r)) 1 := toS_sml xs (d3_10 xs r) _
  have t12 : toS xs (d3_12 xs r) = smlS (toS xs (d3_11 xs r)) 1 := toS_sml xs (d3_11 xs r) _
  have t13 : toS xs (d3_13 xs r) = smlS (toS xs (d3_12 xs r)) 1 := toS_sml xs (d3_12 xs r) _
  unfold ts_3
  simp only [lstS, lst1, sclS, t1, t2, t3, t4, t5, t6, t7, t8, t9, t10, t11, t12, t13]
set_option maxHeartbeats 2000000 in
theorem d3_n (xs : List Int) (r : Rrf) : tn_3 (toS xs r) nod0 = (⟨cntV (toS xs r) 9, cntV (toS xs (d3_1 xs r)) 1024, 0, 0, 0, 0, cntV (toS xs (d3_2 xs r)) 1024, oneV (toS xs (d3_3 xs r)), 0, smlV (toS xs (d3_5 xs r)) (cntV (toS xs (d3_4 xs r)) 16384), widV (toS xs (d3_7 xs r)) (cntV (toS xs (d3_6 xs r)) 16384), cntV (toS xs (d3_8 xs r)) 2147483647, cntV (toS xs (d3_9 xs r)) 62, oneV (toS xs (d3_10 xs r)), 0, 0, 0, oneV (toS xs (d3_11 xs r)), oneV (toS xs (d3_12 xs r))⟩ : Nod) := by
  have t1 : toS xs (d3_1 xs r) = cntS (toS xs r) 9 := toS_cnt xs r _
  have t2 : toS xs (d3_2 xs r) = cntS (toS xs (d3_1 xs r)) 1024 := toS_cnt xs (d3_1 xs r) _
  have t3 : toS xs (d3_3 xs r) = cntS (toS xs (d3_2 xs r)) 1024 := toS_cnt xs (d3_2 xs r) _
  have t4 : toS xs (d3_4 xs r) = smlS (toS xs (d3_3 xs r)) 1 := toS_sml xs (d3_3 xs r) _
  have t5 : toS xs (d3_5 xs r) = cntS (toS xs (d3_4 xs r)) 16384 := toS_cnt xs (d3_4 xs r) _
  have t6 : toS xs (d3_6 xs r) = smlS (toS xs (d3_5 xs r)) (cntV (toS xs (d3_4 xs r)) 16384) := toS_sml xs (d3_5 xs r) _
  have t7 : toS xs (d3_7 xs r) = cntS (toS xs (d3_6 xs r)) 16384 := toS_cnt xs (d3_6 xs r) _
  have t8 : toS xs (d3_8 xs r) = widS (toS xs (d3_7 xs r)) (cntV (toS xs (d3_6 xs r)) 16384) := toS_wid xs (d3_7 xs r) _
  have t9 : toS xs (d3_9 xs r) = cntS (toS xs (d3_8 xs r)) 2147483647 := toS_cnt xs (d3_8 xs r) _
  have t10 : toS xs (d3_10 xs r) = cntS (toS xs (d3_9 xs r)) 62 := toS_cnt xs (d3_9 xs r) _
  have t11 : toS xs (d3_11 xs r) = smlS (toS xs (d3_10 xs r)) 1 := toS_sml xs (d3_10 xs r) _
  have t12 : toS xs (d3_12 xs r) = smlS (toS xs (d3_11 xs r)) 1 := toS_sml xs (d3_11 xs r) _
  have t13 : toS xs (d3_13 xs r) = smlS (toS xs (d3_12 xs r)) 1 := toS_sml xs (d3_12 xs r) _
  unfold tn_3
  simp only [lstW, lstB, lst1, lstS, sclM, sclH, sclS, t1, t2, t3, t4, t5, t6, t7, t8, t9, t10, t11, t12, t13]; rfl
set_option maxHeartbeats 2000000 in
theorem rtake_3v (xs : List Int) (r : Rrf) (i0 : Rrf.In xs r) (hf : (toS xs r).Fit) (hk : cntV (toS xs r) 9 = 3) : VM Try.prog 41 [.ptr 100000 0 0] [(100000, .var (rrC xs r))] (.tup [nod (takeR (toS xs r)).1, i64 (takeR (toS xs r)).2]) [(100000, .var (rrC xs (d3_13 xs r)))] := by
  have e1 : takeS (toS xs r) = ts_3 (toS xs r) := by unfold takeS; rw [if_neg (by omega), if_neg (by omega), if_pos hk]
  have e2 : takeN (toS xs r) = tn_3 (toS xs r) nod0 := by unfold takeN; rw [if_neg (by omega), if_neg (by omega), if_pos hk]
  have e4 : (takeS (toS xs r)).2 = (d3_13 xs r).2 := by rw [e1, ← d3_s, toS_2]
  have e5 := e2.trans (d3_n xs r)
  have bound := takeN_le hf
  have h9 : In64 (cntV (toS xs r) 9) := by have := cntV_rng (m := 9) (toS_in i0) (by decide); exact ⟨by omega, by omega⟩
  have i1 : Rrf.In xs (d3_1 xs r) := cntR_in i0 _
  have i2 : Rrf.In xs (d3_2 xs r) := cntR_in i1 _
  have i3 : Rrf.In xs (d3_3 xs r) := cntR_in i2 _
  have i4 : Rrf.In xs (d3_4 xs r) := smlR_in i3 _
  have i5 : Rrf.In xs (d3_5 xs r) := cntR_in i4 _
  have i6 : Rrf.In xs (d3_6 xs r) := smlR_in i5 _
  have i7 : Rrf.In xs (d3_7 xs r) := cntR_in i6 _
  have i8 : Rrf.In xs (d3_8 xs r) := widR_in i7 _
  have i9 : Rrf.In xs (d3_9 xs r) := cntR_in i8 _
  have i10 : Rrf.In xs (d3_10 xs r) := cntR_in i9 _
  have i11 : Rrf.In xs (d3_11 xs r) := smlR_in i10 _
  have i12 : Rrf.In xs (d3_12 xs r) := smlR_in i11 _
  unfold takeR
  rw [e4, e5]
  rw [e5] at bound
  by_cases hb : (d3_13 xs r).2 = 0
  · rw [if_neg (by simpa using hb)]
    by_cases hc : checkE (⟨cntV (toS xs r) 9, cntV (toS xs (d3_1 xs r)) 1024, 0, 0, 0, 0, cntV (toS xs (d3_2 xs r)) 1024, oneV (toS xs (d3_3 xs r)), 0, smlV (toS xs (d3_5 xs r)) (cntV (toS xs (d3_4 xs r)) 16384), widV (toS xs (d3_7 xs r)) (cntV (toS xs (d3_6 xs r)) 16384), cntV (toS xs (d3_8 xs r)) 2147483647, cntV (toS xs (d3_9 xs r)) 62, oneV (toS xs (d3_10 xs r)), 0, 0, 0, oneV (toS xs (d3_11 xs r)), oneV (toS xs (d3_12 xs r))⟩ : Nod) = 0
    · rw [if_neg (by simpa using hc)]
      exact rw_3y xs r _ _ _ _ _ _ _ _ _ _ _ _ _ _ _ _ _ _ _ _ _ _ _ _ _ _ (rcnt_v xs r 9 i0 (by decide) (by decide)) (rcnt_v xs (d3_1 xs r) 1024 i1 (by decide) (by decide)) (rcnt_v xs (d3_2 xs r) 1024 i2 (by decide) (by decide)) (rone_v xs (d3_3 xs r) i3) (rcnt_v xs (d3_4 xs r) 16384 i4 (by decide) (by decide)) (rsmall_v xs (d3_5 xs r) _ i5) (rcnt_v xs (d3_6 xs r) 16384 i6 (by decide) (by decide)) (rwide_v xs (d3_7 xs r) _ i7) (rcnt_v xs (d3_8 xs r) 2147483647 i8 (by decide) (by decide)) (rcnt_v xs (d3_9 xs r) 62 i9 (by decide) (by decide)) (rone_v xs (d3_10 xs r) i10) (rone_v xs (d3_11 xs r) i11) (rone_v xs (d3_12 xs r) i12) hk h9 (cntV_rng (toS_in i8) (by decide)) hb bound.1 bound.2 hc
    · rw [if_pos hc]
      exact rw_3c xs r _ _ _ _ _ _ _ _ _ _ _ _ _ _ _ _ _ _ _ _ _ _ _ _ _ _ (rcnt_v xs r 9 i0 (by decide) (by decide)) (rcnt_v xs (d3_1 xs r) 1024 i1 (by decide) (by decide)) (rcnt_v xs (d3_2 xs r) 1024 i2 (by decide) (by decide)) (rone_v xs (d3_3 xs r) i3) (rcnt_v xs (d3_4 xs r) 16384 i4 (by decide) (by decide)) (rsmall_v xs (d3_5 xs r) _ i5) (rcnt_v xs (d3_6 xs r) 16384 i6 (by decide) (by decide)) (rwide_v xs (d3_7 xs r) _ i7) (rcnt_v xs (d3_8 xs r) 2147483647 i8 (by decide) (by decide)) (rcnt_v xs (d3_9 xs r) 62 i9 (by decide) (by decide)) (rone_v xs (d3_10 xs r) i10) (rone_v xs (d3_11 xs r) i11) (rone_v xs (d3_12 xs r) i12) hk h9 (cntV_rng (toS_in i8) (by decide)) hb bound.1 bound.2 hc
  · rw [if_pos hb]
    exact rw_3b xs r _ _ _ _ _ _ _ _ _ _ _ _ _ _ _ _ _ _ _ _ _ _ _ _ _ _ (rcnt_v xs r 9 i0 (by decide) (by decide)) (rcnt_v xs (d3_1 xs r) 1024 i1 (by decide) (by decide)) (rcnt_v xs (d3_2 xs r) 1024 i2 (by decide) (by decide)) (rone_v xs (d3_3 xs r) i3) (rcnt_v xs (d3_4 xs r) 16384 i4 (by decide) (by decide)) (rsmall_v xs (d3_5 xs r) _ i5) (rcnt_v xs (d3_6 xs r) 16384 i6 (by decide) (by decide)) (rwide_v xs (d3_7 xs r) _ i7) (rcnt_v xs (d3_8 xs r) 2147483647 i8 (by decide) (by decide)) (rcnt_v xs (d3_9 xs r) 62 i9 (by decide) (by decide)) (rone_v xs (d3_10 xs r) i10) (rone_v xs (d3_11 xs r) i11) (rone_v xs (d3_12 xs r) i12) hk h9 (cntV_rng (toS_in i8) (by decide)) hb
def d4_1 (xs : List Int) (r : Rrf) : Rrf := cntR xs r 9
def d4_2 (xs : List Int) (r : Rrf) : Rrf := cntR xs (d4_1 xs r) 1024
def d4_3 (xs : List Int) (r : Rrf) : Rrf := cntR xs (d4_2 xs r) 1024
def d4_4 (xs : List Int) (r : Rrf) : Rrf := cntR xs (d4_3 xs r) 1024
def d4_5 (xs : List Int) (r : Rrf) : Rrf := cntR xs (d4_4 xs r) 1024
theorem d4_in {xs : List Int} {r : Rrf} (i0 : Rrf.In xs r) : Rrf.In xs (d4_5 xs r) := by
  have i1 : Rrf.In xs (d4_1 xs r) := cntR_in i0 _
  have i2 : Rrf.In xs (d4_2 xs r) := cntR_in i1 _
  have i3 : Rrf.In xs (d4_3 xs r) := cntR_in i2 _
  have i4 : Rrf.In xs (d4_4 xs r) := cntR_in i3 _
  have i5 : Rrf.In xs (d4_5 xs r) := cntR_in i4 _
  exact i5
set_option maxHeartbeats 2000000 in
theorem d4_s (xs : List Int) (r : Rrf) : toS xs (d4_5 xs r) = ts_4 (toS xs r) := by
  have t1 : toS xs (d4_1 xs r) = cntS (toS xs r) 9 := toS_cnt xs r _
  have t2 : toS xs (d4_2 xs r) = cntS (toS xs (d4_1 xs r)) 1024 := toS_cnt xs (d4_1 xs r) _
  have t3 : toS xs (d4_3 xs r) = cntS (toS xs (d4_2 xs r)) 1024 := toS_cnt xs (d4_2 xs r) _
  have t4 : toS xs (d4_4 xs r) = cntS (toS xs (d4_3 xs r)) 1024 := toS_cnt xs (d4_3 xs r) _
  have t5 : toS xs (d4_5 xs r) = cntS (toS xs (d4_4 xs r)) 1024 := toS_cnt xs (d4_4 xs r) _
  unfold ts_4
  simp only [lstS, lst1, sclS, t1, t2, t3, t4, t5]
set_option maxHeartbeats 2000000 in
theorem d4_n (xs : List Int) (r : Rrf) : tn_4 (toS xs r) nod0 = (⟨cntV (toS xs r) 9, cntV (toS xs (d4_1 xs r)) 1024, 0, cntV (toS xs (d4_2 xs r)) 1024, cntV (toS xs (d4_3 xs r)) 1024, cntV (toS xs (d4_4 xs r)) 1024, 0, 0, 0, [], [], 0, 0, 0, 0, 0, 0, 0, 0⟩ : Nod) := by
  have t1 : toS xs (d4_1 xs r) = cntS (toS xs r) 9 := toS_cnt xs r _
  have t2 : toS xs (d4_2 xs r) = cntS (toS xs (d4_1 xs r)) 1024 := toS_cnt xs (d4_1 xs r) _
  have t3 : toS xs (d4_3 xs r) = cntS (toS xs (d4_2 xs r)) 1024 := toS_cnt xs (d4_2 xs r) _
  have t4 : toS xs (d4_4 xs r) = cntS (toS xs (d4_3 xs r)) 1024 := toS_cnt xs (d4_3 xs r) _
  have t5 : toS xs (d4_5 xs r) = cntS (toS xs (d4_4 xs r)) 1024 := toS_cnt xs (d4_4 xs r) _
  unfold tn_4
  simp only [lstW, lstB, lst1, lstS, sclM, sclH, sclS, t1, t2, t3, t4, t5]; rfl
set_option maxHeartbeats 2000000 in
theorem rtake_4v (xs : List Int) (r : Rrf) (i0 : Rrf.In xs r) (hf : (toS xs r).Fit) (hk : cntV (toS xs r) 9 = 4 ∨ cntV (toS xs r) 9 = 5) : VM Try.prog 41 [.ptr 100000 0 0] [(100000, .var (rrC xs r))] (.tup [nod (takeR (toS xs r)).1, i64 (takeR (toS xs r)).2]) [(100000, .var (rrC xs (d4_5 xs r)))] := by
  have e1 : takeS (toS xs r) = ts_4 (toS xs r) := by unfold takeS; rw [if_neg (by omega), if_neg (by omega), if_neg (by omega), if_pos hk]
  have e2 : takeN (toS xs r) = tn_4 (toS xs r) nod0 := by unfold takeN; rw [if_neg (by omega), if_neg (by omega), if_neg (by omega), if_pos hk]
  have e4 : (takeS (toS xs r)).2 = (d4_5 xs r).2 := by rw [e1, ← d4_s, toS_2]
  have e5 := e2.trans (d4_n xs r)
  have bound := takeN_le hf
  have h9 : In64 (cntV (toS xs r) 9) := by have := cntV_rng (m := 9) (toS_in i0) (by decide); exact ⟨by omega, by omega⟩
  have i1 : Rrf.In xs (d4_1 xs r) := cntR_in i0 _
  have i2 : Rrf.In xs (d4_2 xs r) := cntR_in i1 _
  have i3 : Rrf.In xs (d4_3 xs r) := cntR_in i2 _
  have i4 : Rrf.In xs (d4_4 xs r) := cntR_in i3 _
  unfold takeR
  rw [e4, e5]
  rw [e5] at bound
  by_cases hb : (d4_5 xs r).2 = 0
  · rw [if_neg (by simpa using hb)]
    by_cases hc : checkE (⟨cntV (toS xs r) 9, cntV (toS xs (d4_1 xs r)) 1024, 0, cntV (toS xs (d4_2 xs r)) 1024, cntV (toS xs (d4_3 xs r)) 1024, cntV (toS xs (d4_4 xs r)) 1024, 0, 0, 0, [], [], 0, 0, 0, 0, 0, 0, 0, 0⟩ : Nod) = 0
    · rw [if_neg (by simpa using hc)]
      exact rw_4y xs r _ _ _ _ _ _ _ _ _ _ (rcnt_v xs r 9 i0 (by decide) (by decide)) (rcnt_v xs (d4_1 xs r) 1024 i1 (by decide) (by decide)) (rcnt_v xs (d4_2 xs r) 1024 i2 (by decide) (by decide)) (rcnt_v xs (d4_3 xs r) 1024 i3 (by decide) (by decide)) (rcnt_v xs (d4_4 xs r) 1024 i4 (by decide) (by decide)) hk h9 hb hc
    · rw [if_pos hc]
      exact rw_4c xs r _ _ _ _ _ _ _ _ _ _ (rcnt_v xs r 9 i0 (by decide) (by decide)) (rcnt_v xs (d4_1 xs r) 1024 i1 (by decide) (by decide)) (rcnt_v xs (d4_2 xs r) 1024 i2 (by decide) (by decide)) (rcnt_v xs (d4_3 xs r) 1024 i3 (by decide) (by decide)) (rcnt_v xs (d4_4 xs r) 1024 i4 (by decide) (by decide)) hk h9 hb hc
  · rw [if_pos hb]
    exact rw_4b xs r _ _ _ _ _ _ _ _ _ _ (rcnt_v xs r 9 i0 (by decide) (by decide)) (rcnt_v xs (d4_1 xs r) 1024 i1 (by decide) (by decide)) (rcnt_v xs (d4_2 xs r) 1024 i2 (by decide) (by decide)) (rcnt_v xs (d4_3 xs r) 1024 i3 (by decide) (by decide)) (rcnt_v xs (d4_4 xs r) 1024 i4 (by decide) (by decide)) hk h9 hb
def d6_1 (xs : List Int) (r : Rrf) : Rrf := cntR xs r 9
def d6_2 (xs : List Int) (r : Rrf) : Rrf := cntR xs (d6_1 xs r) 1024
def d6_3 (xs : List Int) (r : Rrf) : Rrf := cntR xs (d6_2 xs r) 1024
def d6_4 (xs : List Int) (r : Rrf) : Rrf := smlR xs (d6_3 xs r) 1
def d6_5 (xs : List Int) (r : Rrf) : Rrf := smlR xs (d6_4 xs r) 1
def d6_6 (xs : List Int) (r : Rrf) : Rrf := cntR xs (d6_5 xs r) 2147483647
def d6_7 (xs : List Int) (r : Rrf) : Rrf := cntR xs (d6_6 xs r) 62
def d6_8 (xs : List Int) (r : Rrf) : Rrf := smlR xs (d6_7 xs r) 1
def d6_9 (xs : List Int) (r : Rrf) : Rrf := cntR xs (d6_8 xs r) 2147483647
def d6_10 (xs : List Int) (r : Rrf) : Rrf := cntR xs (d6_9 xs r) 62
def d6_11 (xs : List Int) (r : Rrf) : Rrf := smlR xs (d6_10 xs r) 1
def d6_12 (xs : List Int) (r : Rrf) : Rrf := smlR xs (d6_11 xs r) 1
theorem d6_in {xs : List Int} {r : Rrf} (i0 : Rrf.In xs r) : Rrf.In xs (d6_12 xs r) := by
  have i1 : Rrf.In xs (d6_1 xs r) := cntR_in i0 _
  have i2 : Rrf.In xs (d6_2 xs r) := cntR_in i1 _
  have i3 : Rrf.In xs (d6_3 xs r) := cntR_in i2 _
  have i4 : Rrf.In xs (d6_4 xs r) := smlR_in i3 _
  have i5 : Rrf.In xs (d6_5 xs r) := smlR_in i4 _
  have i6 : Rrf.In xs (d6_6 xs r) := cntR_in i5 _
  have i7 : Rrf.In xs (d6_7 xs r) := cntR_in i6 _
  have i8 : Rrf.In xs (d6_8 xs r) := smlR_in i7 _
  have i9 : Rrf.In xs (d6_9 xs r) := cntR_in i8 _
  have i10 : Rrf.In xs (d6_10 xs r) := cntR_in i9 _
  have i11 : Rrf.In xs (d6_11 xs r) := smlR_in i10 _
  have i12 : Rrf.In xs (d6_12 xs r) := smlR_in i11 _
  exact i12
set_option maxHeartbeats 2000000 in
theorem d6_s (xs : List Int) (r : Rrf) : toS xs (d6_12 xs r) = ts_6 (toS xs r) := by
  have t1 : toS xs (d6_1 xs r) = cntS (toS xs r) 9 := toS_cnt xs r _
  have t2 : toS xs (d6_2 xs r) = cntS (toS xs (d6_1 xs r)) 1024 := toS_cnt xs (d6_1 xs r) _
  have t3 : toS xs (d6_3 xs r) = cntS (toS xs (d6_2 xs r)) 1024 := toS_cnt xs (d6_2 xs r) _
  have t4 : toS xs (d6_4 xs r) = smlS (toS xs (d6_3 xs r)) 1 := toS_sml xs (d6_3 xs r) _
  have t5 : toS xs (d6_5 xs r) = smlS (toS xs (d6_4 xs r)) 1 := toS_sml xs (d6_4 xs r) _
  have t6 : toS xs (d6_6 xs r) = cntS (toS xs (d6_5 xs r)) 2147483647 := toS_cnt xs (d6_5 xs r) _
  have t7 : toS xs (d6_7 xs r) = cntS (toS xs (d6_6 xs r)) 62 := toS_cnt xs (d6_6 xs r) _
  have t8 : toS xs (d6_8 xs r) = smlS (toS xs (d6_7 xs r)) 1 := toS_sml xs (d6_7 xs r) _
  have t9 : toS xs (d6_9 xs r) = cntS (toS xs (d6_8 xs r)) 2147483647 := toS_cnt xs (d6_8 xs r) _
  have t10 : toS xs (d6_10 xs r) = cntS (toS xs (d6_9 xs r)) 62 := toS_cnt xs (d6_9 xs r) _
  have t11 : toS xs (d6_11 xs r) = smlS (toS xs (d6_10 xs r)) 1 := toS_sml xs (d6_10 xs r) _
  have t12 : toS xs (d6_12 xs r) = smlS (toS xs (d6_11 xs r)) 1 := toS_sml xs (d6_11 xs r) _
  unfold ts_6
  simp only [lstS, lst1, sclS, t1, t2, t3, t4, t5, t6, t7, t8, t9, t10, t11, t12]
set_option maxHeartbeats 2000000 in
theorem d6_n (xs : List Int) (r : Rrf) : tn_6 (toS xs r) nod0 = (⟨cntV (toS xs r) 9, cntV (toS xs (d6_1 xs r)) 1024, cntV (toS xs (d6_2 xs r)) 1024, 0, 0, 0, 0, oneV (toS xs (d6_3 xs r)), oneV (toS xs (d6_4 xs r)), [], [], cntV (toS xs (d6_5 xs r)) 2147483647, cntV (toS xs (d6_6 xs r)) 62, oneV (toS xs (d6_7 xs r)), cntV (toS xs (d6_8 xs r)) 2147483647, cntV (toS xs (d6_9 xs r)) 62, 0, oneV (toS xs (d6_10 xs r)), oneV (toS xs (d6_11 xs r))⟩ : Nod) := by
  have t1 : toS xs (d6_1 xs r) = cntS (toS xs r) 9 := toS_cnt xs r _
  have t2 : toS xs (d6_2 xs r) = cntS (toS xs (d6_1 xs r)) 1024 := toS_cnt xs (d6_1 xs r) _
  have t3 : toS xs (d6_3 xs r) = cntS (toS xs (d6_2 xs r)) 1024 := toS_cnt xs (d6_2 xs r) _
  have t4 : toS xs (d6_4 xs r) = smlS (toS xs (d6_3 xs r)) 1 := toS_sml xs (d6_3 xs r) _
  have t5 : toS xs (d6_5 xs r) = smlS (toS xs (d6_4 xs r)) 1 := toS_sml xs (d6_4 xs r) _
  have t6 : toS xs (d6_6 xs r) = cntS (toS xs (d6_5 xs r)) 2147483647 := toS_cnt xs (d6_5 xs r) _
  have t7 : toS xs (d6_7 xs r) = cntS (toS xs (d6_6 xs r)) 62 := toS_cnt xs (d6_6 xs r) _
  have t8 : toS xs (d6_8 xs r) = smlS (toS xs (d6_7 xs r)) 1 := toS_sml xs (d6_7 xs r) _
  have t9 : toS xs (d6_9 xs r) = cntS (toS xs (d6_8 xs r)) 2147483647 := toS_cnt xs (d6_8 xs r) _
  have t10 : toS xs (d6_10 xs r) = cntS (toS xs (d6_9 xs r)) 62 := toS_cnt xs (d6_9 xs r) _
  have t11 : toS xs (d6_11 xs r) = smlS (toS xs (d6_10 xs r)) 1 := toS_sml xs (d6_10 xs r) _
  have t12 : toS xs (d6_12 xs r) = smlS (toS xs (d6_11 xs r)) 1 := toS_sml xs (d6_11 xs r) _
  unfold tn_6
  simp only [lstW, lstB, lst1, lstS, sclM, sclH, sclS, t1, t2, t3, t4, t5, t6, t7, t8, t9, t10, t11, t12]; rfl
set_option maxHeartbeats 2000000 in
theorem rtake_6v (xs : List Int) (r : Rrf) (i0 : Rrf.In xs r) (hf : (toS xs r).Fit) (hk : cntV (toS xs r) 9 = 6) : VM Try.prog 41 [.ptr 100000 0 0] [(100000, .var (rrC xs r))] (.tup [nod (takeR (toS xs r)).1, i64 (takeR (toS xs r)).2]) [(100000, .var (rrC xs (d6_12 xs r)))] := by
  have e1 : takeS (toS xs r) = ts_6 (toS xs r) := by unfold takeS; rw [if_neg (by omega), if_neg (by omega), if_neg (by omega), if_neg (by omega), if_pos hk]
  have e2 : takeN (toS xs r) = tn_6 (toS xs r) nod0 := by unfold takeN; rw [if_neg (by omega), if_neg (by omega), if_neg (by omega), if_neg (by omega), if_pos hk]
  have e4 : (takeS (toS xs r)).2 = (d6_12 xs r).2 := by rw [e1, ← d6_s, toS_2]
  have e5 := e2.trans (d6_n xs r)
  have bound := takeN_le hf
  have h9 : In64 (cntV (toS xs r) 9) := by have := cntV_rng (m := 9) (toS_in i0) (by decide); exact ⟨by omega, by omega⟩
  have i1 : Rrf.In xs (d6_1 xs r) := cntR_in i0 _
  have i2 : Rrf.In xs (d6_2 xs r) := cntR_in i1 _
  have i3 : Rrf.In xs (d6_3 xs r) := cntR_in i2 _
  have i4 : Rrf.In xs (d6_4 xs r) := smlR_in i3 _
  have i5 : Rrf.In xs (d6_5 xs r) := smlR_in i4 _
  have i6 : Rrf.In xs (d6_6 xs r) := cntR_in i5 _
  have i7 : Rrf.In xs (d6_7 xs r) := cntR_in i6 _
  have i8 : Rrf.In xs (d6_8 xs r) := smlR_in i7 _
  have i9 : Rrf.In xs (d6_9 xs r) := cntR_in i8 _
  have i10 : Rrf.In xs (d6_10 xs r) := cntR_in i9 _
  have i11 : Rrf.In xs (d6_11 xs r) := smlR_in i10 _
  unfold takeR
  rw [e4, e5]
  rw [e5] at bound
  by_cases hb : (d6_12 xs r).2 = 0
  · rw [if_neg (by simpa using hb)]
    by_cases hc : checkE (⟨cntV (toS xs r) 9, cntV (toS xs (d6_1 xs r)) 1024, cntV (toS xs (d6_2 xs r)) 1024, 0, 0, 0, 0, oneV (toS xs (d6_3 xs r)), oneV (toS xs (d6_4 xs r)), [], [], cntV (toS xs (d6_5 xs r)) 2147483647, cntV (toS xs (d6_6 xs r)) 62, oneV (toS xs (d6_7 xs r)), cntV (toS xs (d6_8 xs r)) 2147483647, cntV (toS xs (d6_9 xs r)) 62, 0, oneV (toS xs (d6_10 xs r)), oneV (toS xs (d6_11 xs r))⟩ : Nod) = 0
    · rw [if_neg (by simpa using hc)]
      exact rw_6y xs r _ _ _ _ _ _ _ _ _ _ _ _ _ _ _ _ _ _ _ _ _ _ _ _ (rcnt_v xs r 9 i0 (by decide) (by decide)) (rcnt_v xs (d6_1 xs r) 1024 i1 (by decide) (by decide)) (rcnt_v xs (d6_2 xs r) 1024 i2 (by decide) (by decide)) (rone_v xs (d6_3 xs r) i3) (rone_v xs (d6_4 xs r) i4) (rcnt_v xs (d6_5 xs r) 2147483647 i5 (by decide) (by decide)) (rcnt_v xs (d6_6 xs r) 62 i6 (by decide) (by decide)) (rone_v xs (d6_7 xs r) i7) (rcnt_v xs (d6_8 xs r) 2147483647 i8 (by decide) (by decide)) (rcnt_v xs (d6_9 xs r) 62 i9 (by decide) (by decide)) (rone_v xs (d6_10 xs r) i10) (rone_v xs (d6_11 xs r) i11) hk h9 (cntV_rng (toS_in i5) (by decide)) (cntV_rng (toS_in i8) (by decide)) hb hc
    · rw [if_pos hc]
      exact rw_6c xs r _ _ _ _ _ _ _ _ _ _ _ _ _ _ _ _ _ _ _ _ _ _ _ _ (rcnt_v xs r 9 i0 (by decide) (by decide)) (rcnt_v xs (d6_1 xs r) 1024 i1 (by decide) (by decide)) (rcnt_v xs (d6_2 xs r) 1024 i2 (by decide) (by decide)) (rone_v xs (d6_3 xs r) i3) (rone_v xs (d6_4 xs r) i4) (rcnt_v xs (d6_5 xs r) 2147483647 i5 (by decide) (by decide)) (rcnt_v xs (d6_6 xs r) 62 i6 (by decide) (by decide)) (rone_v xs (d6_7 xs r) i7) (rcnt_v xs (d6_8 xs r) 2147483647 i8 (by decide) (by decide)) (rcnt_v xs (d6_9 xs r) 62 i9 (by decide) (by decide)) (rone_v xs (d6_10 xs r) i10) (rone_v xs (d6_11 xs r) i11) hk h9 (cntV_rng (toS_in i5) (by decide)) (cntV_rng (toS_in i8) (by decide)) hb hc
  · rw [if_pos hb]
    exact rw_6b xs r _ _ _ _ _ _ _ _ _ _ _ _ _ _ _ _ _ _ _ _ _ _ _ _ (rcnt_v xs r 9 i0 (by decide) (by decide)) (rcnt_v xs (d6_1 xs r) 1024 i1 (by decide) (by decide)) (rcnt_v xs (d6_2 xs r) 1024 i2 (by decide) (by decide)) (rone_v xs (d6_3 xs r) i3) (rone_v xs (d6_4 xs r) i4) (rcnt_v xs (d6_5 xs r) 2147483647 i5 (by decide) (by decide)) (rcnt_v xs (d6_6 xs r) 62 i6 (by decide) (by decide)) (rone_v xs (d6_7 xs r) i7) (rcnt_v xs (d6_8 xs r) 2147483647 i8 (by decide) (by decide)) (rcnt_v xs (d6_9 xs r) 62 i9 (by decide) (by decide)) (rone_v xs (d6_10 xs r) i10) (rone_v xs (d6_11 xs r) i11) hk h9 (cntV_rng (toS_in i5) (by decide)) (cntV_rng (toS_in i8) (by decide)) hb
def d7_1 (xs : List Int) (r : Rrf) : Rrf := cntR xs r 9
def d7_2 (xs : List Int) (r : Rrf) : Rrf := cntR xs (d7_1 xs r) 1024
def d7_3 (xs : List Int) (r : Rrf) : Rrf := smlR xs (d7_2 xs r) 1
def d7_4 (xs : List Int) (r : Rrf) : Rrf := cntR xs (d7_3 xs r) 2147483647
def d7_5 (xs : List Int) (r : Rrf) : Rrf := cntR xs (d7_4 xs r) 62
def d7_6 (xs : List Int) (r : Rrf) : Rrf := smlR xs (d7_5 xs r) 1
def d7_7 (xs : List Int) (r : Rrf) : Rrf := smlR xs (d7_6 xs r) 1
def d7_8 (xs : List Int) (r : Rrf) : Rrf := smlR xs (d7_7 xs r) 1
theorem d7_in {xs : List Int} {r : Rrf} (i0 : Rrf.In xs r) : Rrf.In xs (d7_8 xs r) := by
  have i1 : Rrf.In xs (d7_1 xs r) := cntR_in i0 _
  have i2 : Rrf.In xs (d7_2 xs r) := cntR_in i1 _
  have i3 : Rrf.In xs (d7_3 xs r) := smlR_in i2 _
  have i4 : Rrf.In xs (d7_4 xs r) := cntR_in i3 _
  have i5 : Rrf.In xs (d7_5 xs r) := cntR_in i4 _
  have i6 : Rrf.In xs (d7_6 xs r) := smlR_in i5 _
  have i7 : Rrf.In xs (d7_7 xs r) := smlR_in i6 _
  have i8 : Rrf.In xs (d7_8 xs r) := smlR_in i7 _
  exact i8
set_option maxHeartbeats 2000000 in
theorem d7_s (xs : List Int) (r : Rrf) : toS xs (d7_8 xs r) = ts_7 (toS xs r) := by
  have t1 : toS xs (d7_1 xs r) = cntS (toS xs r) 9 := toS_cnt xs r _
  have t2 : toS xs (d7_2 xs r) = cntS (toS xs (d7_1 xs r)) 1024 := toS_cnt xs (d7_1 xs r) _
  have t3 : toS xs (d7_3 xs r) = smlS (toS xs (d7_2 xs r)) 1 := toS_sml xs (d7_2 xs r) _
  have t4 : toS xs (d7_4 xs r) = cntS (toS xs (d7_3 xs r)) 2147483647 := toS_cnt xs (d7_3 xs r) _
  have t5 : toS xs (d7_5 xs r) = cntS (toS xs (d7_4 xs r)) 62 := toS_cnt xs (d7_4 xs r) _
  have t6 : toS xs (d7_6 xs r) = smlS (toS xs (d7_5 xs r)) 1 := toS_sml xs (d7_5 xs r) _
  have t7 : toS xs (d7_7 xs r) = smlS (toS xs (d7_6 xs r)) 1 := toS_sml xs (d7_6 xs r) _
  have t8 : toS xs (d7_8 xs r) = smlS (toS xs (d7_7 xs r)) 1 := toS_sml xs (d7_7 xs r) _
  unfold ts_7
  simp only [lstS, lst1, sclS, t1, t2, t3, t4, t5, t6, t7, t8]
set_option maxHeartbeats 2000000 in
theorem d7_n (xs : List Int) (r : Rrf) : tn_7 (toS xs r) nod0 = (⟨cntV (toS xs r) 9, cntV (toS xs (d7_1 xs r)) 1024, 0, 0, 0, 0, 0, oneV (toS xs (d7_2 xs r)), 0, [], [], cntV (toS xs (d7_3 xs r)) 2147483647, cntV (toS xs (d7_4 xs r)) 62, oneV (toS xs (d7_5 xs r)), 0, 0, 0, oneV (toS xs (d7_6 xs r)), oneV (toS xs (d7_7 xs r))⟩ : Nod) := by
  have t1 : toS xs (d7_1 xs r) = cntS (toS xs r) 9 := toS_cnt xs r _
  have t2 : toS xs (d7_2 xs r) = cntS (toS xs (d7_1 xs r)) 1024 := toS_cnt xs (d7_1 xs r) _
  have t3 : toS xs (d7_3 xs r) = smlS (toS xs (d7_2 xs r)) 1 := toS_sml xs (d7_2 xs r) _
  have t4 : toS xs (d7_4 xs r) = cntS (toS xs (d7_3 xs r)) 2147483647 := toS_cnt xs (d7_3 xs r) _
  have t5 : toS xs (d7_5 xs r) = cntS (toS xs (d7_4 xs r)) 62 := toS_cnt xs (d7_4 xs r) _
  have t6 : toS xs (d7_6 xs r) = smlS (toS xs (d7_5 xs r)) 1 := toS_sml xs (d7_5 xs r) _
  have t7 : toS xs (d7_7 xs r) = smlS (toS xs (d7_6 xs r)) 1 := toS_sml xs (d7_6 xs r) _
  have t8 : toS xs (d7_8 xs r) = smlS (toS xs (d7_7 xs r)) 1 := toS_sml xs (d7_7 xs r) _
  unfold tn_7
  simp only [lstW, lstB, lst1, lstS, sclM, sclH, sclS, t1, t2, t3, t4, t5, t6, t7, t8]; rfl
set_option maxHeartbeats 2000000 in
theorem rtake_7v (xs : List Int) (r : Rrf) (i0 : Rrf.In xs r) (hf : (toS xs r).Fit) (hk : cntV (toS xs r) 9 = 7) : VM Try.prog 41 [.ptr 100000 0 0] [(100000, .var (rrC xs r))] (.tup [nod (takeR (toS xs r)).1, i64 (takeR (toS xs r)).2]) [(100000, .var (rrC xs (d7_8 xs r)))] := by
  have e1 : takeS (toS xs r) = ts_7 (toS xs r) := by unfold takeS; rw [if_neg (by omega), if_neg (by omega), if_neg (by omega), if_neg (by omega), if_neg (by omega), if_pos hk]
  have e2 : takeN (toS xs r) = tn_7 (toS xs r) nod0 := by unfold takeN; rw [if_neg (by omega), if_neg (by omega), if_neg (by omega), if_neg (by omega), if_neg (by omega), if_pos hk]
  have e4 : (takeS (toS xs r)).2 = (d7_8 xs r).2 := by rw [e1, ← d7_s, toS_2]
  have e5 := e2.trans (d7_n xs r)
  have bound := takeN_le hf
  have h9 : In64 (cntV (toS xs r) 9) := by have := cntV_rng (m := 9) (toS_in i0) (by decide); exact ⟨by omega, by omega⟩
  have i1 : Rrf.In xs (d7_1 xs r) := cntR_in i0 _
  have i2 : Rrf.In xs (d7_2 xs r) := cntR_in i1 _
  have i3 : Rrf.In xs (d7_3 xs r) := smlR_in i2 _
  have i4 : Rrf.In xs (d7_4 xs r) := cntR_in i3 _
  have i5 : Rrf.In xs (d7_5 xs r) := cntR_in i4 _
  have i6 : Rrf.In xs (d7_6 xs r) := smlR_in i5 _
  have i7 : Rrf.In xs (d7_7 xs r) := smlR_in i6 _
  unfold takeR
  rw [e4, e5]
  rw [e5] at bound
  by_cases hb : (d7_8 xs r).2 = 0
  · rw [if_neg (by simpa using hb)]
    by_cases hc : checkE (⟨cntV (toS xs r) 9, cntV (toS xs (d7_1 xs r)) 1024, 0, 0, 0, 0, 0, oneV (toS xs (d7_2 xs r)), 0, [], [], cntV (toS xs (d7_3 xs r)) 2147483647, cntV (toS xs (d7_4 xs r)) 62, oneV (toS xs (d7_5 xs r)), 0, 0, 0, oneV (toS xs (d7_6 xs r)), oneV (toS xs (d7_7 xs r))⟩ : Nod) = 0
    · rw [if_neg (by simpa using hc)]
      exact rw_7y xs r _ _ _ _ _ _ _ _ _ _ _ _ _ _ _ _ (rcnt_v xs r 9 i0 (by decide) (by decide)) (rcnt_v xs (d7_1 xs r) 1024 i1 (by decide) (by decide)) (rone_v xs (d7_2 xs r) i2) (rcnt_v xs (d7_3 xs r) 2147483647 i3 (by decide) (by decide)) (rcnt_v xs (d7_4 xs r) 62 i4 (by decide) (by decide)) (rone_v xs (d7_5 xs r) i5) (rone_v xs (d7_6 xs r) i6) (rone_v xs (d7_7 xs r) i7) hk h9 (cntV_rng (toS_in i3) (by decide)) hb hc
    · rw [if_pos hc]
      exact rw_7c xs r _ _ _ _ _ _ _ _ _ _ _ _ _ _ _ _ (rcnt_v xs r 9 i0 (by decide) (by decide)) (rcnt_v xs (d7_1 xs r) 1024 i1 (by decide) (by decide)) (rone_v xs (d7_2 xs r) i2) (rcnt_v xs (d7_3 xs r) 2147483647 i3 (by decide) (by decide)) (rcnt_v xs (d7_4 xs r) 62 i4 (by decide) (by decide)) (rone_v xs (d7_5 xs r) i5) (rone_v xs (d7_6 xs r) i6) (rone_v xs (d7_7 xs r) i7) hk h9 (cntV_rng (toS_in i3) (by decide)) hb hc
  · rw [if_pos hb]
    exact rw_7b xs r _ _ _ _ _ _ _ _ _ _ _ _ _ _ _ _ (rcnt_v xs r 9 i0 (by decide) (by decide)) (rcnt_v xs (d7_1 xs r) 1024 i1 (by decide) (by decide)) (rone_v xs (d7_2 xs r) i2) (rcnt_v xs (d7_3 xs r) 2147483647 i3 (by decide) (by decide)) (rcnt_v xs (d7_4 xs r) 62 i4 (by decide) (by decide)) (rone_v xs (d7_5 xs r) i5) (rone_v xs (d7_6 xs r) i6) (rone_v xs (d7_7 xs r) i7) hk h9 (cntV_rng (toS_in i3) (by decide)) hb
def d8_1 (xs : List Int) (r : Rrf) : Rrf := cntR xs r 9
def d8_2 (xs : List Int) (r : Rrf) : Rrf := cntR xs (d8_1 xs r) 1024
def d8_3 (xs : List Int) (r : Rrf) : Rrf := cntR xs (d8_2 xs r) 1024
def d8_4 (xs : List Int) (r : Rrf) : Rrf := smlR xs (d8_3 xs r) 1
theorem d8_in {xs : List Int} {r : Rrf} (i0 : Rrf.In xs r) : Rrf.In xs (d8_4 xs r) := by
  have i1 : Rrf.In xs (d8_1 xs r) := cntR_in i0 _
  have i2 : Rrf.In xs (d8_2 xs r) := cntR_in i1 _
  have i3 : Rrf.In xs (d8_3 xs r) := cntR_in i2 _
  have i4 : Rrf.In xs (d8_4 xs r) := smlR_in i3 _
  exact i4
set_option maxHeartbeats 2000000 in
theorem d8_s (xs : List Int) (r : Rrf) : toS xs (d8_4 xs r) = ts_8 (toS xs r) := by
  have t1 : toS xs (d8_1 xs r) = cntS (toS xs r) 9 := toS_cnt xs r _
  have t2 : toS xs (d8_2 xs r) = cntS (toS xs (d8_1 xs r)) 1024 := toS_cnt xs (d8_1 xs r) _
  have t3 : toS xs (d8_3 xs r) = cntS (toS xs (d8_2 xs r)) 1024 := toS_cnt xs (d8_2 xs r) _
  have t4 : toS xs (d8_4 xs r) = smlS (toS xs (d8_3 xs r)) 1 := toS_sml xs (d8_3 xs r) _
  unfold ts_8
  simp only [lstS, lst1, sclS, t1, t2, t3, t4]
set_option maxHeartbeats 2000000 in
theorem d8_n (xs : List Int) (r : Rrf) : tn_8 (toS xs r) nod0 = (⟨cntV (toS xs r) 9, cntV (toS xs (d8_1 xs r)) 1024, 0, 0, 0, cntV (toS xs (d8_2 xs r)) 1024, 0, oneV (toS xs (d8_3 xs r)), 0, [], [], 0, 0, 0, 0, 0, 0, 0, 0⟩ : Nod) := by
  have t1 : toS xs (d8_1 xs r) = cntS (toS xs r) 9 := toS_cnt xs r _
  have t2 : toS xs (d8_2 xs r) = cntS (toS xs (d8_1 xs r)) 1024 := toS_cnt xs (d8_1 xs r) _
  have t3 : toS xs (d8_3 xs r) = cntS (toS xs (d8_2 xs r)) 1024 := toS_cnt xs (d8_2 xs r) _
  have t4 : toS xs (d8_4 xs r) = smlS (toS xs (d8_3 xs r)) 1 := toS_sml xs (d8_3 xs r) _
  unfold tn_8
  simp only [lstW, lstB, lst1, lstS, sclM, sclH, sclS, t1, t2, t3, t4]; rfl
set_option maxHeartbeats 2000000 in
theorem rtake_8v (xs : List Int) (r : Rrf) (i0 : Rrf.In xs r) (hf : (toS xs r).Fit) (hk : cntV (toS xs r) 9 = 8) : VM Try.prog 41 [.ptr 100000 0 0] [(100000, .var (rrC xs r))] (.tup [nod (takeR (toS xs r)).1, i64 (takeR (toS xs r)).2]) [(100000, .var (rrC xs (d8_4 xs r)))] := by
  have e1 : takeS (toS xs r) = ts_8 (toS xs r) := by unfold takeS; rw [if_neg (by omega), if_neg (by omega), if_neg (by omega), if_neg (by omega), if_neg (by omega), if_neg (by omega), if_pos hk]
  have e2 : takeN (toS xs r) = tn_8 (toS xs r) nod0 := by unfold takeN; rw [if_neg (by omega), if_neg (by omega), if_neg (by omega), if_neg (by omega), if_neg (by omega), if_neg (by omega), if_pos hk]
  have e4 : (takeS (toS xs r)).2 = (d8_4 xs r).2 := by rw [e1, ← d8_s, toS_2]
  have e5 := e2.trans (d8_n xs r)
  have bound := takeN_le hf
  have h9 : In64 (cntV (toS xs r) 9) := by have := cntV_rng (m := 9) (toS_in i0) (by decide); exact ⟨by omega, by omega⟩
  have i1 : Rrf.In xs (d8_1 xs r) := cntR_in i0 _
  have i2 : Rrf.In xs (d8_2 xs r) := cntR_in i1 _
  have i3 : Rrf.In xs (d8_3 xs r) := cntR_in i2 _
  unfold takeR
  rw [e4, e5]
  rw [e5] at bound
  by_cases hb : (d8_4 xs r).2 = 0
  · rw [if_neg (by simpa using hb)]
    by_cases hc : checkE (⟨cntV (toS xs r) 9, cntV (toS xs (d8_1 xs r)) 1024, 0, 0, 0, cntV (toS xs (d8_2 xs r)) 1024, 0, oneV (toS xs (d8_3 xs r)), 0, [], [], 0, 0, 0, 0, 0, 0, 0, 0⟩ : Nod) = 0
    · rw [if_neg (by simpa using hc)]
      exact rw_8y xs r _ _ _ _ _ _ _ _ (rcnt_v xs r 9 i0 (by decide) (by decide)) (rcnt_v xs (d8_1 xs r) 1024 i1 (by decide) (by decide)) (rcnt_v xs (d8_2 xs r) 1024 i2 (by decide) (by decide)) (rone_v xs (d8_3 xs r) i3) hk h9 hb hc
    · rw [if_pos hc]
      exact rw_8c xs r _ _ _ _ _ _ _ _ (rcnt_v xs r 9 i0 (by decide) (by decide)) (rcnt_v xs (d8_1 xs r) 1024 i1 (by decide) (by decide)) (rcnt_v xs (d8_2 xs r) 1024 i2 (by decide) (by decide)) (rone_v xs (d8_3 xs r) i3) hk h9 hb hc
  · rw [if_pos hb]
    exact rw_8b xs r _ _ _ _ _ _ _ _ (rcnt_v xs r 9 i0 (by decide) (by decide)) (rcnt_v xs (d8_1 xs r) 1024 i1 (by decide) (by decide)) (rcnt_v xs (d8_2 xs r) 1024 i2 (by decide) (by decide)) (rone_v xs (d8_3 xs r) i3) hk h9 hb
def d9_1 (xs : List Int) (r : Rrf) : Rrf := cntR xs r 9
def d9_2 (xs : List Int) (r : Rrf) : Rrf := cntR xs (d9_1 xs r) 1024
theorem d9_in {xs : List Int} {r : Rrf} (i0 : Rrf.In xs r) : Rrf.In xs (d9_2 xs r) := by
  have i1 : Rrf.In xs (d9_1 xs r) := cntR_in i0 _
  have i2 : Rrf.In xs (d9_2 xs r) := cntR_in i1 _
  exact i2
set_option maxHeartbeats 2000000 in
theorem d9_s (xs : List Int) (r : Rrf) : toS xs (d9_2 xs r) = ts_9 (toS xs r) := by
  have t1 : toS xs (d9_1 xs r) = cntS (toS xs r) 9 := toS_cnt xs r _
  have t2 : toS xs (d9_2 xs r) = cntS (toS xs (d9_1 xs r)) 1024 := toS_cnt xs (d9_1 xs r) _
  unfold ts_9
  simp only [lstS, lst1, sclS, t1, t2]
set_option maxHeartbeats 2000000 in
theorem d9_n (xs : List Int) (r : Rrf) : tn_9 (toS xs r) nod0 = (⟨cntV (toS xs r) 9, cntV (toS xs (d9_1 xs r)) 1024, 0, 0, 0, 0, 0, 0, 0, [], [], 0, 0, 0, 0, 0, 0, 0, 0⟩ : Nod) := by
  have t1 : toS xs (d9_1 xs r) = cntS (toS xs r) 9 := toS_cnt xs r _
  have t2 : toS xs (d9_2 xs r) = cntS (toS xs (d9_1 xs r)) 1024 := toS_cnt xs (d9_1 xs r) _
  unfold tn_9
  simp only [lstW, lstB, lst1, lstS, sclM, sclH, sclS, t1, t2]; rfl
set_option maxHeartbeats 2000000 in
theorem rtake_9v (xs : List Int) (r : Rrf) (i0 : Rrf.In xs r) (hf : (toS xs r).Fit) (hk : cntV (toS xs r) 9 < 1 ∨ 8 < cntV (toS xs r) 9) : VM Try.prog 41 [.ptr 100000 0 0] [(100000, .var (rrC xs r))] (.tup [nod (takeR (toS xs r)).1, i64 (takeR (toS xs r)).2]) [(100000, .var (rrC xs (d9_2 xs r)))] := by
  have e1 : takeS (toS xs r) = ts_9 (toS xs r) := by unfold takeS; rw [if_neg (by omega), if_neg (by omega), if_neg (by omega), if_neg (by omega), if_neg (by omega), if_neg (by omega), if_neg (by omega)]
  have e2 : takeN (toS xs r) = tn_9 (toS xs r) nod0 := by unfold takeN; rw [if_neg (by omega), if_neg (by omega), if_neg (by omega), if_neg (by omega), if_neg (by omega), if_neg (by omega), if_neg (by omega)]
  have e4 : (takeS (toS xs r)).2 = (d9_2 xs r).2 := by rw [e1, ← d9_s, toS_2]
  have e5 := e2.trans (d9_n xs r)
  have bound := takeN_le hf
  have h9 : In64 (cntV (toS xs r) 9) := by have := cntV_rng (m := 9) (toS_in i0) (by decide); exact ⟨by omega, by omega⟩
  have i1 : Rrf.In xs (d9_1 xs r) := cntR_in i0 _
  unfold takeR
  rw [e4, e5]
  rw [e5] at bound
  by_cases hb : (d9_2 xs r).2 = 0
  · rw [if_neg (by simpa using hb)]
    by_cases hc : checkE (⟨cntV (toS xs r) 9, cntV (toS xs (d9_1 xs r)) 1024, 0, 0, 0, 0, 0, 0, 0, [], [], 0, 0, 0, 0, 0, 0, 0, 0⟩ : Nod) = 0
    · rw [if_neg (by simpa using hc)]
      exact rw_9y xs r _ _ _ _ (rcnt_v xs r 9 i0 (by decide) (by decide)) (rcnt_v xs (d9_1 xs r) 1024 i1 (by decide) (by decide)) hk h9 hb hc
    · rw [if_pos hc]
      exact rw_9c xs r _ _ _ _ (rcnt_v xs r 9 i0 (by decide) (by decide)) (rcnt_v xs (d9_1 xs r) 1024 i1 (by decide) (by decide)) hk h9 hb hc
  · rw [if_pos hb]
    exact rw_9b xs r _ _ _ _ (rcnt_v xs r 9 i0 (by decide) (by decide)) (rcnt_v xs (d9_1 xs r) 1024 i1 (by decide) (by decide)) hk h9 hb
def takeRr (xs : List Int) (r : Rrf) : Rrf := if cntV (toS xs r) 9 = 1 then d1_16 xs r else if cntV (toS xs r) 9 = 2 then d2_15 xs r else if cntV (toS xs r) 9 = 3 then d3_13 xs r else if cntV (toS xs r) 9 = 4 ∨ cntV (toS xs r) 9 = 5 then d4_5 xs r else if cntV (toS xs r) 9 = 6 then d6_12 xs r else if cntV (toS xs r) 9 = 7 then d7_8 xs r else if cntV (toS xs r) 9 = 8 then d8_4 xs r else d9_2 xs r
theorem takeRr_in {xs : List Int} {r : Rrf} (h : Rrf.In xs r) : Rrf.In xs (takeRr xs r) := by
  by_cases k1 : cntV (toS xs r) 9 = 1
  · rw [show takeRr xs r = d1_16 xs r from by unfold takeRr; rw [if_pos k1]]
    exact d1_in h
  by_cases k2 : cntV (toS xs r) 9 = 2
  · rw [show takeRr xs r = d2_15 xs r from by unfold takeRr; rw [if_neg k1, if_pos k2]]
    exact d2_in h
  by_cases k3 : cntV (toS xs r) 9 = 3
  · rw [show takeRr xs r = d3_13 xs r from by unfold takeRr; rw [if_neg k1, if_neg k2, if_pos k3]]
    exact d3_in h
  by_cases k4 : cntV (toS xs r) 9 = 4 ∨ cntV (toS xs r) 9 = 5
  · rw [show takeRr xs r = d4_5 xs r from by unfold takeRr; rw [if_neg k1, if_neg k2, if_neg k3, if_pos k4]]
    exact d4_in h
  by_cases k6 : cntV (toS xs r) 9 = 6
  · rw [show takeRr xs r = d6_12 xs r from by unfold takeRr; rw [if_neg k1, if_neg k2, if_neg k3, if_neg k4, if_pos k6]]
    exact d6_in h
  by_cases k7 : cntV (toS xs r) 9 = 7
  · rw [show takeRr xs r = d7_8 xs r from by unfold takeRr; rw [if_neg k1, if_neg k2, if_neg k3, if_neg k4, if_neg k6, if_pos k7]]
    exact d7_in h
  by_cases k8 : cntV (toS xs r) 9 = 8
  · rw [show takeRr xs r = d8_4 xs r from by unfold takeRr; rw [if_neg k1, if_neg k2, if_neg k3, if_neg k4, if_neg k6, if_neg k7, if_pos k8]]
    exact d8_in h
  rw [show takeRr xs r = d9_2 xs r from by unfold takeRr; rw [if_neg k1, if_neg k2, if_neg k3, if_neg k4, if_neg k6, if_neg k7, if_neg k8]]
  exact d9_in h

theorem takeRr_s (xs : List Int) (r : Rrf) : toS xs (takeRr xs r) = takeS (toS xs r) := by
  by_cases k1 : cntV (toS xs r) 9 = 1
  · rw [show takeRr xs r = d1_16 xs r from by unfold takeRr; rw [if_pos k1], show takeS (toS xs r) = ts_1 (toS xs r) from by unfold takeS; rw [if_pos k1]]
    exact d1_s xs r
  by_cases k2 : cntV (toS xs r) 9 = 2
  · rw [show takeRr xs r = d2_15 xs r from by unfold takeRr; rw [if_neg k1, if_pos k2], show takeS (toS xs r) = ts_2 (toS xs r) from by unfold takeS; rw [if_neg k1, if_pos k2]]
    exact d2_s xs r
  by_cases k3 : cntV (toS xs r) 9 = 3
  · rw [show takeRr xs r = d3_13 xs r from by unfold takeRr; rw [if_neg k1, if_neg k2, if_pos k3], show takeS (toS xs r) = ts_3 (toS xs r) from by unfold takeS; rw [if_neg k1, if_neg k2, if_pos k3]]
    exact d3_s xs r
  by_cases k4 : cntV (toS xs r) 9 = 4 ∨ cntV (toS xs r) 9 = 5
  · rw [show takeRr xs r = d4_5 xs r from by unfold takeRr; rw [if_neg k1, if_neg k2, if_neg k3, if_pos k4], show takeS (toS xs r) = ts_4 (toS xs r) from by unfold takeS; rw [if_neg k1, if_neg k2, if_neg k3, if_pos k4]]
    exact d4_s xs r
  by_cases k6 : cntV (toS xs r) 9 = 6
  · rw [show takeRr xs r = d6_12 xs r from by unfold takeRr; rw [if_neg k1, if_neg k2, if_neg k3, if_neg k4, if_pos k6], show takeS (toS xs r) = ts_6 (toS xs r) from by unfold takeS; rw [if_neg k1, if_neg k2, if_neg k3, if_neg k4, if_pos k6]]
    exact d6_s xs r
  by_cases k7 : cntV (toS xs r) 9 = 7
  · rw [show takeRr xs r = d7_8 xs r from by unfold takeRr; rw [if_neg k1, if_neg k2, if_neg k3, if_neg k4, if_neg k6, if_pos k7], show takeS (toS xs r) = ts_7 (toS xs r) from by unfold takeS; rw [if_neg k1, if_neg k2, if_neg k3, if_neg k4, if_neg k6, if_pos k7]]
    exact d7_s xs r
  by_cases k8 : cntV (toS xs r) 9 = 8
  · rw [show takeRr xs r = d8_4 xs r from by unfold takeRr; rw [if_neg k1, if_neg k2, if_neg k3, if_neg k4, if_neg k6, if_neg k7, if_pos k8], show takeS (toS xs r) = ts_8 (toS xs r) from by unfold takeS; rw [if_neg k1, if_neg k2, if_neg k3, if_neg k4, if_neg k6, if_neg k7, if_pos k8]]
    exact d8_s xs r
  rw [show takeRr xs r = d9_2 xs r from by unfold takeRr; rw [if_neg k1, if_neg k2, if_neg k3, if_neg k4, if_neg k6, if_neg k7, if_neg k8], show takeS (toS xs r) = ts_9 (toS xs r) from by unfold takeS; rw [if_neg k1, if_neg k2, if_neg k3, if_neg k4, if_neg k6, if_neg k7, if_neg k8]]
  exact d9_s xs r

theorem rtake_v (xs : List Int) (r : Rrf) (h : Rrf.In xs r) (hf : (toS xs r).Fit) : VM Try.prog 41 [.ptr 100000 0 0] [(100000, .var (rrC xs r))] (.tup [nod (takeR (toS xs r)).1, i64 (takeR (toS xs r)).2]) [(100000, .var (rrC xs (takeRr xs r)))] := by
  by_cases k1 : cntV (toS xs r) 9 = 1
  · rw [show takeRr xs r = d1_16 xs r from by unfold takeRr; rw [if_pos k1]]
    exact rtake_1v xs r h hf k1
  by_cases k2 : cntV (toS xs r) 9 = 2
  · rw [show takeRr xs r = d2_15 xs r from by unfold takeRr; rw [if_neg k1, if_pos k2]]
    exact rtake_2v xs r h hf k2
  by_cases k3 : cntV (toS xs r) 9 = 3
  · rw [show takeRr xs r = d3_13 xs r from by unfold takeRr; rw [if_neg k1, if_neg k2, if_pos k3]]
    exact rtake_3v xs r h hf k3
  by_cases k4 : cntV (toS xs r) 9 = 4 ∨ cntV (toS xs r) 9 = 5
  · rw [show takeRr xs r = d4_5 xs r from by unfold takeRr; rw [if_neg k1, if_neg k2, if_neg k3, if_pos k4]]
    exact rtake_4v xs r h hf k4
  by_cases k6 : cntV (toS xs r) 9 = 6
  · rw [show takeRr xs r = d6_12 xs r from by unfold takeRr; rw [if_neg k1, if_neg k2, if_neg k3, if_neg k4, if_pos k6]]
    exact rtake_6v xs r h hf k6
  by_cases k7 : cntV (toS xs r) 9 = 7
  · rw [show takeRr xs r = d7_8 xs r from by unfold takeRr; rw [if_neg k1, if_neg k2, if_neg k3, if_neg k4, if_neg k6, if_pos k7]]
    exact rtake_7v xs r h hf k7
  by_cases k8 : cntV (toS xs r) 9 = 8
  · rw [show takeRr xs r = d8_4 xs r from by unfold takeRr; rw [if_neg k1, if_neg k2, if_neg k3, if_neg k4, if_neg k6, if_neg k7, if_pos k8]]
    exact rtake_8v xs r h hf k8
  rw [show takeRr xs r = d9_2 xs r from by unfold takeRr; rw [if_neg k1, if_neg k2, if_neg k3, if_neg k4, if_neg k6, if_neg k7, if_neg k8]]
  exact rtake_9v xs r h hf (by omega)
end Go.Proofs.Ytgecmooedhnenaa

