/- Texts of this claim, put together: RpA, RpB, PkU, PbB, PkK, PkM, PkR, KnP. No condition. -/
import Derived.Test.YtgecmooedhnenaaPackBlocksG4
set_option linter.unusedVariables false
set_option linter.unusedSimpArgs false
set_option linter.unnecessarySimpa false
set_option maxRecDepth 100000
set_option maxHeartbeats 2000000
/- The document's bytes: numbers and lists. No condition. -/
namespace Go.Proofs.Ytgecmooedhnenaa
open Go.RowKit
set_option linter.unusedSimpArgs false
set_option linter.unusedVariables false
set_option linter.unnecessarySimpa false
theorem rput_1 (B : List Int) (L : Int → List Int) (x : Int) (hB : B.length ≤ 1000000) (hL : RPuts L) : VM Try.prog 117 ([.own 950, i64 x]) ([(950, .slc 5 1 ((B).map (row1 .u8)))]) (.own 951) ([(951, .slc 5 1 ((B ++ L x).map (row1 .u8)))]) := by
  have q := hL.l x
  have oz0 := @rputs_v (L) hL (x)
  exact VM.run (fn := Try.f117) (W := [.r [] [], .r [] [.w, .callr (rO oz0)]]) (G := [.ren 9 951, .blk 951 (Blk.slc 5 1 (List.map (row1 IntKind.u8) (B ++ L x))), .sort]) Try.func117 (by kernel_rfl) (.c oz0 <| .c (show ((List.map (row1 IntKind.u8) B).length + (List.map (row1 IntKind.u8) (L x)).length) * 1 ≤ 140737488355328 by (simp only [List.length_map]; omega)) <| .c (show (List.map (row1 IntKind.u8) B).length + (List.map (row1 IntKind.u8) (L x)).length ≤ 9223372036854775807 by (simp only [List.length_map]; omega)) <| .c (show BlkW (Blk.slc 5 1 (List.map (row1 IntKind.u8) B ++ List.map (row1 IntKind.u8) (L x))) (Blk.slc 5 1 (List.map (row1 IntKind.u8) (B ++ L x))) from (BlkW.rows (rows_to (row1 IntKind.u8) (r := List.map (row1 IntKind.u8) B ++ List.map (row1 IntKind.u8) (L x)) (l := B ++ L x) (m := B ++ L x) (by first | (simp only [List.map_append, List.map_cons, List.map_nil, List.map_set, List.map_replicate, List.map_take, List.map_drop]; done) | rfl | (simp only [List.map_append, List.map_cons, List.map_nil, List.map_set, List.map_replicate, List.map_take, List.map_drop]; rfl)) rfl))) <| .n)
theorem rlists_v (B : List Int) (L : Int → List Int) (w b : List Int) (hB : B.length ≤ 500000) (hL : RPuts L) (hw : w.length ≤ 100000) (hb : b.length ≤ 16384) (hx : ∀ x ∈ b, -2147483648 ≤ x ∧ x ≤ 2147483647) : VM Try.prog 118 ([.own 950, ints .i8 w, ints .i32 b]) ([(950, .slc 5 1 ((B).map (row1 .u8)))]) (.own 951) ([(951, .slc 5 1 ((B ++ L (w.length : Int) ++ smallL w ++ L (b.length : Int) ++ wideL b).map (row1 .u8)))]) := by
  have q1 := hL.l (w.length : Int)
  have q3 := hL.l (b.length : Int)
  have q2 : (smallL w).length = w.length := List.length_map _
  have q4 : (B ++ L (w.length : Int)).length = B.length + (L (w.length : Int)).length := List.length_append
  have q5 : (B ++ L (w.length : Int) ++ smallL w).length = B.length + (L (w.length : Int)).length + w.length := by rw [List.length_append, q4, q2]
  have q6 : (B ++ L (w.length : Int) ++ smallL w ++ L (b.length : Int)).length = B.length + (L (w.length : Int)).length + w.length + (L (b.length : Int)).length := by rw [List.length_append, q5]
  have q7 := wideL_len b hx
  have oz0 := @rput_1 (B) (L) ((↑(List.map (row1 IntKind.i8) w).length : Int)) (by omega) hL
  have oz1 := @refSmall_v (w) (by omega)
  have oz4 := @VM.pre _ _ ([AV.own 950, i64 (↑(List.map (row1 IntKind.i32) b).length : Int)]) _ ([(950, Blk.slc 5 1 (List.map (row1 IntKind.u8) (B ++ L (↑(List.map (row1 IntKind.i8) w).length : Int)) ++ List.map (row1 IntKind.u8) (smallL w)))]) _ _ _ ([GI.blk 950 (Blk.slc 5 1 (List.map (row1 IntKind.u8) (B ++ L (↑(List.map (row1 IntKind.i8) w).length : Int) ++ smallL w))), GI.sort]) _ (@rput_1 (B ++ L (↑(List.map (row1 IntKind.i8) w).length : Int) ++ smallL w) (L) ((↑(List.map (row1 IntKind.i32) b).length : Int)) (by (simp only [List.length_map]; omega)) hL) (by kernel_rfl) (.c (BlkW.rows (e := 5) (z := 1) (rows_to (row1 IntKind.u8) (r := List.map (row1 IntKind.u8) (B ++ L (↑(List.map (row1 IntKind.i8) w).length : Int)) ++ List.map (row1 IntKind.u8) (smallL w)) (l := B ++ L (↑(List.map (row1 IntKind.i8) w).length : Int) ++ smallL w) (m := B ++ L (↑(List.map (row1 IntKind.i8) w).length : Int) ++ smallL w) (by first | (simp only [List.map_append, List.map_cons, List.map_nil, List.map_set, List.map_replicate, List.map_take, List.map_drop]; done) | rfl | (simp only [List.map_append, List.map_cons, List.map_nil, List.map_set, List.map_replicate, List.map_take, List.map_drop]; rfl)) rfl)) <| .n)
  have oz5 := @refWide_v (b) hx (by omega)
  exact VM.run (fn := Try.f118) (W := [.r [] [], .r [] [.callm [(950, 950)] [(951, 20000)] (rM oz0) (oM oz0), .callr (rO oz1)], .r [] [.callm [(13, 950)] [(951, 20001)] (rM oz4) (oM oz4), .callr (rO oz5)]]) (G := [.ren 20 951, .blk 951 (Blk.slc 5 1 (List.map (row1 IntKind.u8) (B ++ L (↑w.length : Int) ++ smallL w ++ L (↑b.length : Int) ++ wideL b))), .sort]) Try.func118 (by kernel_rfl) (.c oz0 <| .c oz1 <| .c (show ((List.map (row1 IntKind.u8) (B ++ L (↑(List.map (row1 IntKind.i8) w).length : Int))).length + (List.map (row1 IntKind.u8) (smallL w)).length) * 1 ≤ 140737488355328 by (simp only [List.length_map]; omega)) <| .c (show (List.map (row1 IntKind.u8) (B ++ L (↑(List.map (row1 IntKind.i8) w).length : Int))).length + (List.map (row1 IntKind.u8) (smallL w)).length ≤ 9223372036854775807 by (simp only [List.length_map]; omega)) <| .c oz4 <| .c oz5 <| .c (show ((List.map (row1 IntKind.u8) (B ++ L (↑(List.map (row1 IntKind.i8) w).length : Int) ++ smallL w ++ L (↑(List.map (row1 IntKind.i32) b).length : Int))).length + (List.map (row1 IntKind.u8) (wideL b)).length) * 1 ≤ 140737488355328 by (simp only [List.length_map]; omega)) <| .c (show (List.map (row1 IntKind.u8) (B ++ L (↑(List.map (row1 IntKind.i8) w).length : Int) ++ smallL w ++ L (↑(List.map (row1 IntKind.i32) b).length : Int))).length + (List.map (row1 IntKind.u8) (wideL b)).length ≤ 9223372036854775807 by (simp only [List.length_map]; omega)) <| .c (show BlkW (Blk.slc 5 1 (List.map (row1 IntKind.u8) (B ++ L (↑(List.map (row1 IntKind.i8) w).length : Int) ++ smallL w ++ L (↑(List.map (row1 IntKind.i32) b).length : Int)) ++ List.map (row1 IntKind.u8) (wideL b))) (Blk.slc 5 1 (List.map (row1 IntKind.u8) (B ++ L (↑w.length : Int) ++ smallL w ++ L (↑b.length : Int) ++ wideL b))) from (BlkW.rows (e := 5) (z := 1) (rows_to (row1 IntKind.u8) (r := List.map (row1 IntKind.u8) (B ++ L (↑(List.map (row1 IntKind.i8) w).length : Int) ++ smallL w ++ L (↑(List.map (row1 IntKind.i32) b).length : Int)) ++ List.map (row1 IntKind.u8) (wideL b)) (l := B ++ L (↑(List.map (row1 IntKind.i8) w).length : Int) ++ smallL w ++ L (↑(List.map (row1 IntKind.i32) b).length : Int) ++ wideL b) (m := B ++ L (↑w.length : Int) ++ smallL w ++ L (↑b.length : Int) ++ wideL b) (by first | (simp only [List.map_append, List.map_cons, List.map_nil, List.map_set, List.map_replicate, List.map_take, List.map_drop]; done) | rfl | (simp only [List.map_append, List.map_cons, List.map_nil, List.map_set, List.map_replicate, List.map_take, List.map_drop]; rfl)) (show (B ++ L (↑(List.map (row1 IntKind.i8) w).length : Int) ++ smallL w ++ L (↑(List.map (row1 IntKind.i32) b).length : Int) ++ wideL b) = (B ++ L (↑w.length : Int) ++ smallL w ++ L (↑b.length : Int) ++ wideL b) from (by (simp; done)))))) <| .n)
theorem tells_1 (k : Int) (h : k = 1) : VC Try.prog 110 ([i64 k]) (.agg [bv false, bv true, bv true, bv true, bv true, bv true]) := by
  have oz0 := (show (k == 1) = !false by (refine decide_eq_true ?_; omega))
  have oz2 := (show (k == 1) = true by (refine decide_eq_true ?_; omega))
  have oz3 := (show true = !false by (simp; done))
  have oz5 := (show true = true by with_reducible rfl)
  exact (VC.run (fn := Try.f110) (W := [.r [] [], .r [] [.br false, .br false, .br true, .br false, .br false, .br true], .r [] [.br false, .br false, .br true, .br false, .br false, .br true], .r [] [.br false, .br false, .br true, .br false, .br false, .br true, .br false, .br false, .br true, .br false, .br false, .br true, .br false, .br false, .br true]]) (r := AV.agg [bv (k == 6), bv true, bv true, bv true, bv true, bv true]) Try.func110 (by kernel_rfl) (.c oz0 <| .c oz0 <| .c oz2 <| .c oz3 <| .c oz3 <| .c oz5 <| .c oz3 <| .c oz3 <| .c oz5 <| .c oz3 <| .c oz3 <| .c oz5 <| .c oz0 <| .c oz0 <| .c oz2 <| .c oz3 <| .c oz3 <| .c oz5 <| .c oz3 <| .c oz3 <| .c oz5 <| .c oz0 <| .c oz0 <| .c oz2 <| .c oz3 <| .c oz3 <| .c oz5 <| .n)).weak (WeakL.refl _) (Weak.agg (.cons (Weak.bool (show ((k == 6) : Bool) = (false) from (by (refine decide_eq_false ?_; omega)))) (.cons (.refl _) (.cons (.refl _) (.cons (.refl _) (.cons (.refl _) (.cons (.refl _) .nil)))))))
theorem tells_2 (k : Int) (h : k = 2) : VC Try.prog 110 ([i64 k]) (.agg [bv false, bv true, bv false, bv true, bv true, bv true]) := by
  have oz0 := (show (k == 1) = false by (refine decide_eq_false ?_; omega))
  have oz3 := (show (k == 2) = !false by (refine decide_eq_true ?_; omega))
  have oz5 := (show (k == 2) = true by (refine decide_eq_true ?_; omega))
  have oz6 := (show true = !false by (simp; done))
  have oz8 := (show true = true by with_reducible rfl)
  exact (VC.run (fn := Try.f110) (W := [.r [] [], .r [] [.br true, .br true, .br false, .br false, .br false, .br true], .r [] [.br false, .br false, .br true, .br false, .br false, .br true], .r [] [.br true, .br true, .br false, .br false, .br false, .br true, .br false, .br false, .br true, .br true, .br true, .br false, .br false, .br false, .br true]]) (r := AV.agg [bv (k == 6), bv true, bv (k == 3), bv true, bv true, bv true]) Try.func110 (by kernel_rfl) (.c oz0 <| .c oz0 <| .c oz0 <| .c oz3 <| .c oz3 <| .c oz5 <| .c oz6 <| .c oz6 <| .c oz8 <| .c oz6 <| .c oz6 <| .c oz8 <| .c oz0 <| .c oz0 <| .c oz0 <| .c oz3 <| .c oz3 <| .c oz5 <| .c oz6 <| .c oz6 <| .c oz8 <| .c oz0 <| .c oz0 <| .c oz0 <| .c oz6 <| .c oz6 <| .c oz8 <| .n)).weak (WeakL.refl _) (Weak.agg (.cons (Weak.bool (show ((k == 6) : Bool) = (false) from (by (refine decide_eq_false ?_; omega)))) (.cons (.refl _) (.cons (Weak.bool (show ((k == 3) : Bool) = (false) from (by (refine decide_eq_false ?_; omega)))) (.cons (.refl _) (.cons (.refl _) (.cons (.refl _) .nil)))))))
theorem tells_3 (k : Int) (h : k = 3) : VC Try.prog 110 ([i64 k]) (.agg [bv false, bv false, bv true, bv true, bv true, bv true]) := by
  have oz0 := (show (k == 1) = false by (refine decide_eq_false ?_; omega))
  have oz3 := (show (k == 2) = false by (refine decide_eq_false ?_; omega))
  have oz6 := (show (k == 3) = !false by (refine decide_eq_true ?_; omega))
  have oz9 := (show true = !false by (simp; done))
  have oz11 := (show true = true by with_reducible rfl)
  have oz18 := (show (k == 4) = false by (refine decide_eq_false ?_; omega))
  exact (VC.run (fn := Try.f110) (W := [.r [] [], .r [] [.br true, .br true, .br false, .br true, .br true, .br false], .r [] [.br false, .br false, .br true, .br false, .br false, .br true], .r [] [.br true, .br true, .br false, .br true, .br true, .br false, .br true, .br true, .br false, .br true, .br true, .br false, .br false, .br false, .br true]]) (r := AV.agg [bv (k == 6), bv (k == 5), bv (k == 3), bv true, bv (k == 3), bv true]) Try.func110 (by kernel_rfl) (.c oz0 <| .c oz0 <| .c oz0 <| .c oz3 <| .c oz3 <| .c oz3 <| .c oz6 <| .c oz6 <| .c (show (k == 3) = true by (refine decide_eq_true ?_; omega)) <| .c oz9 <| .c oz9 <| .c oz11 <| .c oz0 <| .c oz0 <| .c oz0 <| .c oz3 <| .c oz3 <| .c oz3 <| .c oz18 <| .c oz18 <| .c oz18 <| .c oz0 <| .c oz0 <| .c oz0 <| .c oz9 <| .c oz9 <| .c oz11 <| .n)).weak (WeakL.refl _) (Weak.agg (.cons (Weak.bool (show ((k == 6) : Bool) = (false) from (by (refine decide_eq_false ?_; omega)))) (.cons (Weak.bool (show ((k == 5) : Bool) = (false) from (by (refine decide_eq_false ?_; omega)))) (.cons (Weak.bool (show ((k == 3) : Bool) = (true) from (by (refine decide_eq_true ?_; omega)))) (.cons (.refl _) (.cons (Weak.bool (show ((k == 3) : Bool) = (true) from (by (refine decide_eq_true ?_; omega)))) (.cons (.refl _) .nil)))))))
theorem tells_4 (k : Int) (h : k = 4 ∨ k = 5) : VC Try.prog 110 ([i64 k]) (.agg [bv false, bv true, bv false, bv false, bv false, bv false]) := by
  have oz0 := (show (k == 1) = false by (refine decide_eq_false ?_; omega))
  have oz3 := (show (k == 2) = false by (refine decide_eq_false ?_; omega))
  have oz6 := (show (k == 3) = false by (refine decide_eq_false ?_; omega))
  have oz9 := (show (k == 6) = false by (refine decide_eq_false ?_; omega))
  have oz21 := (show (k == 7) = false by (refine decide_eq_false ?_; omega))
  exact (VC.run (fn := Try.f110) (W := [.r [] [], .r [] [.br true, .br true, .br false, .br true, .br true, .br false], .r [] [.br true, .br true, .br false, .br true, .br true, .br false], .r [] [.br true, .br true, .br false, .br true, .br true, .br false, .op false, .op false, .sel 1, .br true, .br true, .br false, .br true, .br true, .br false]]) (r := AV.agg [bv (k == 6), bv (k == 4 || k == 5), bv (k == 3), bv (k == 8), bv (k == 3), bv (k == 7)]) Try.func110 (by kernel_rfl) (.c oz0 <| .c oz0 <| .c oz0 <| .c oz3 <| .c oz3 <| .c oz3 <| .c oz6 <| .c oz6 <| .c oz6 <| .c oz9 <| .c oz9 <| .c oz9 <| .c oz0 <| .c oz0 <| .c oz0 <| .c oz3 <| .c oz3 <| .c oz3 <| .c oz0 <| .c oz0 <| .c oz0 <| .c oz21 <| .c oz21 <| .c oz21 <| .n)).weak (WeakL.refl _) (Weak.agg (.cons (Weak.bool (show ((k == 6) : Bool) = (false) from (by (refine decide_eq_false ?_; omega)))) (.cons (Weak.bool (show ((k == 4 || k == 5) : Bool) = (true) from (by (simp; omega)))) (.cons (Weak.bool (show ((k == 3) : Bool) = (false) from (by (refine decide_eq_false ?_; omega)))) (.cons (Weak.bool (show ((k == 8) : Bool) = (false) from (by (refine decide_eq_false ?_; omega)))) (.cons (Weak.bool (show ((k == 3) : Bool) = (false) from (by (refine decide_eq_false ?_; omega)))) (.cons (Weak.bool (show ((k == 7) : Bool) = (false) from (by (refine decide_eq_false ?_; omega)))) .nil)))))))
theorem tells_6 (k : Int) (h : k = 6) : VC Try.prog 110 ([i64 k]) (.agg [bv true, bv false, bv false, bv true, bv false, bv true]) := by
  have oz0 := (show (k == 1) = false by (refine decide_eq_false ?_; omega))
  have oz3 := (show (k == 2) = false by (refine decide_eq_false ?_; omega))
  have oz6 := (show (k == 3) = false by (refine decide_eq_false ?_; omega))
  have oz9 := (show (k == 6) = !false by (refine decide_eq_true ?_; omega))
  have oz18 := (show (k == 4) = false by (refine decide_eq_false ?_; omega))
  have oz24 := (show true = !false by (simp; done))
  exact (VC.run (fn := Try.f110) (W := [.r [] [], .r [] [.br true, .br true, .br false, .br true, .br true, .br false], .r [] [.br true, .br true, .br false, .br false, .br false, .br true], .r [] [.br true, .br true, .br false, .br true, .br true, .br false, .br true, .br true, .br false, .br true, .br true, .br false, .br false, .br false, .br true]]) (r := AV.agg [bv (k == 6), bv (k == 5), bv (k == 3), bv true, bv (k == 3), bv true]) Try.func110 (by kernel_rfl) (.c oz0 <| .c oz0 <| .c oz0 <| .c oz3 <| .c oz3 <| .c oz3 <| .c oz6 <| .c oz6 <| .c oz6 <| .c oz9 <| .c oz9 <| .c (show (k == 6) = true by (refine decide_eq_true ?_; omega)) <| .c oz0 <| .c oz0 <| .c oz0 <| .c oz3 <| .c oz3 <| .c oz3 <| .c oz18 <| .c oz18 <| .c oz18 <| .c oz0 <| .c oz0 <| .c oz0 <| .c oz24 <| .c oz24 <| .c (show true = true by with_reducible rfl) <| .n)).weak (WeakL.refl _) (Weak.agg (.cons (Weak.bool (show ((k == 6) : Bool) = (true) from (by (refine decide_eq_true ?_; omega)))) (.cons (Weak.bool (show ((k == 5) : Bool) = (false) from (by (refine decide_eq_false ?_; omega)))) (.cons (Weak.bool (show ((k == 3) : Bool) = (false) from (by (refine decide_eq_false ?_; omega)))) (.cons (.refl _) (.cons (Weak.bool (show ((k == 3) : Bool) = (false) from (by (refine decide_eq_false ?_; omega)))) (.cons (.refl _) .nil)))))))
theorem tells_7 (k : Int) (h : k = 7) : VC Try.prog 110 ([i64 k]) (.agg [bv false, bv false, bv false, bv true, bv false, bv true]) := by
  have oz0 := (show (k == 1) = false by (refine decide_eq_false ?_; omega))
  have oz3 := (show (k == 2) = false by (refine decide_eq_false ?_; omega))
  have oz6 := (show (k == 3) = false by (refine decide_eq_false ?_; omega))
  have oz9 := (show (k == 6) = false by (refine decide_eq_false ?_; omega))
  have oz18 := (show (k == 4) = false by (refine decide_eq_false ?_; omega))
  have oz24 := (show (k == 7) = !false by (refine decide_eq_true ?_; omega))
  exact (VC.run (fn := Try.f110) (W := [.r [] [], .r [] [.br true, .br true, .br false, .br true, .br true, .br false], .r [] [.br true, .br true, .br false, .br true, .br true, .br false], .r [] [.br true, .br true, .br false, .br true, .br true, .br false, .br true, .br true, .br false, .br true, .br true, .br false, .br false, .br false, .br true]]) (r := AV.agg [bv (k == 6), bv (k == 5), bv (k == 3), bv true, bv (k == 3), bv (k == 7)]) Try.func110 (by kernel_rfl) (.c oz0 <| .c oz0 <| .c oz0 <| .c oz3 <| .c oz3 <| .c oz3 <| .c oz6 <| .c oz6 <| .c oz6 <| .c oz9 <| .c oz9 <| .c oz9 <| .c oz0 <| .c oz0 <| .c oz0 <| .c oz3 <| .c oz3 <| .c oz3 <| .c oz18 <| .c oz18 <| .c oz18 <| .c oz0 <| .c oz0 <| .c oz0 <| .c oz24 <| .c oz24 <| .c (show (k == 7) = true by (refine decide_eq_true ?_; omega)) <| .n)).weak (WeakL.refl _) (Weak.agg (.cons (Weak.bool (show ((k == 6) : Bool) = (false) from (by (refine decide_eq_false ?_; omega)))) (.cons (Weak.bool (show ((k == 5) : Bool) = (false) from (by (refine decide_eq_false ?_; omega)))) (.cons (Weak.bool (show ((k == 3) : Bool) = (false) from (by (refine decide_eq_false ?_; omega)))) (.cons (.refl _) (.cons (Weak.bool (show ((k == 3) : Bool) = (false) from (by (refine decide_eq_false ?_; omega)))) (.cons (Weak.bool (show ((k == 7) : Bool) = (true) from (by (refine decide_eq_true ?_; omega)))) .nil)))))))
theorem tells_8 (k : Int) (h : k = 8) : VC Try.prog 110 ([i64 k]) (.agg [bv false, bv false, bv false, bv true, bv false, bv false]) := by
  have oz0 := (show (k == 1) = false by (refine decide_eq_false ?_; omega))
  have oz3 := (show (k == 2) = false by (refine decide_eq_false ?_; omega))
  have oz6 := (show (k == 3) = false by (refine decide_eq_false ?_; omega))
  have oz9 := (show (k == 6) = false by (refine decide_eq_false ?_; omega))
  have oz18 := (show (k == 4) = false by (refine decide_eq_false ?_; omega))
  have oz24 := (show (k == 7) = false by (refine decide_eq_false ?_; omega))
  exact (VC.run (fn := Try.f110) (W := [.r [] [], .r [] [.br true, .br true, .br false, .br true, .br true, .br false], .r [] [.br true, .br true, .br false, .br true, .br true, .br false], .r [] [.br true, .br true, .br false, .br true, .br true, .br false, .br true, .br true, .br false, .br true, .br true, .br false, .br true, .br true, .br false]]) (r := AV.agg [bv (k == 6), bv (k == 5), bv (k == 3), bv (k == 8), bv (k == 3), bv (k == 7)]) Try.func110 (by kernel_rfl) (.c oz0 <| .c oz0 <| .c oz0 <| .c oz3 <| .c oz3 <| .c oz3 <| .c oz6 <| .c oz6 <| .c oz6 <| .c oz9 <| .c oz9 <| .c oz9 <| .c oz0 <| .c oz0 <| .c oz0 <| .c oz3 <| .c oz3 <| .c oz3 <| .c oz18 <| .c oz18 <| .c oz18 <| .c oz0 <| .c oz0 <| .c oz0 <| .c oz24 <| .c oz24 <| .c oz24 <| .n)).weak (WeakL.refl _) (Weak.agg (.cons (Weak.bool (show ((k == 6) : Bool) = (false) from (by (refine decide_eq_false ?_; omega)))) (.cons (Weak.bool (show ((k == 5) : Bool) = (false) from (by (refine decide_eq_false ?_; omega)))) (.cons (Weak.bool (show ((k == 3) : Bool) = (false) from (by (refine decide_eq_false ?_; omega)))) (.cons (Weak.bool (show ((k == 8) : Bool) = (true) from (by (refine decide_eq_true ?_; omega)))) (.cons (Weak.bool (show ((k == 3) : Bool) = (false) from (by (refine decide_eq_false ?_; omega)))) (.cons (Weak.bool (show ((k == 7) : Bool) = (false) from (by (refine decide_eq_false ?_; omega)))) .nil)))))))
theorem tells_9 (k : Int) (h : k < 1 ∨ 8 < k) : VC Try.prog 110 ([i64 k]) (.agg [bv false, bv false, bv false, bv false, bv false, bv false]) := by
  have oz0 := (show (k == 1) = false by (refine decide_eq_false ?_; omega))
  have oz3 := (show (k == 2) = false by (refine decide_eq_false ?_; omega))
  have oz6 := (show (k == 3) = false by (refine decide_eq_false ?_; omega))
  have oz9 := (show (k == 6) = false by (refine decide_eq_false ?_; omega))
  have oz18 := (show (k == 4) = false by (refine decide_eq_false ?_; omega))
  have oz24 := (show (k == 7) = false by (refine decide_eq_false ?_; omega))
  exact (VC.run (fn := Try.f110) (W := [.r [] [], .r [] [.br true, .br true, .br false, .br true, .br true, .br false], .r [] [.br true, .br true, .br false, .br true, .br true, .br false], .r [] [.br true, .br true, .br false, .br true, .br true, .br false, .br true, .br true, .br false, .br true, .br true, .br false, .br true, .br true, .br false]]) (r := AV.agg [bv (k == 6), bv (k == 5), bv (k == 3), bv (k == 8), bv (k == 3), bv (k == 7)]) Try.func110 (by kernel_rfl) (.c oz0 <| .c oz0 <| .c oz0 <| .c oz3 <| .c oz3 <| .c oz3 <| .c oz6 <| .c oz6 <| .c oz6 <| .c oz9 <| .c oz9 <| .c oz9 <| .c oz0 <| .c oz0 <| .c oz0 <| .c oz3 <| .c oz3 <| .c oz3 <| .c oz18 <| .c oz18 <| .c oz18 <| .c oz0 <| .c oz0 <| .c oz0 <| .c oz24 <| .c oz24 <| .c oz24 <| .n)).weak (WeakL.refl _) (Weak.agg (.cons (Weak.bool (show ((k == 6) : Bool) = (false) from (by (refine decide_eq_false ?_; omega)))) (.cons (Weak.bool (show ((k == 5) : Bool) = (false) from (by (refine decide_eq_false ?_; omega)))) (.cons (Weak.bool (show ((k == 3) : Bool) = (false) from (by (refine decide_eq_false ?_; omega)))) (.cons (Weak.bool (show ((k == 8) : Bool) = (false) from (by (refine decide_eq_false ?_; omega)))) (.cons (Weak.bool (show ((k == 3) : Bool) = (false) from (by (refine decide_eq_false ?_; omega)))) (.cons (Weak.bool (show ((k == 7) : Bool) = (false) from (by (refine decide_eq_false ?_; omega)))) .nil)))))))
end Go.Proofs.Ytgecmooedhnenaa
/- The document's bytes of a node. No condition. -/
namespace Go.Proofs.Ytgecmooedhnenaa
open Go.RowKit
set_option linter.unusedSimpArgs false
set_option linter.unusedVariables false
set_option linter.unnecessarySimpa false
theorem rbytes_1 (L : Int → List Int) (n : Nod) (hL : RPuts L) (hk : n.kd = 1) (hw : n.w.length ≤ 16384) (hb : n.b.length ≤ 16384) (hx : ∀ x ∈ n.b, -2147483648 ≤ x ∧ x ≤ 2147483647) (hq : In32 n.qm) (hr : In32 n.rm) : VC Try.prog 107 ([nod n]) (.sl 1 ((L n.kd ++ L n.na ++ L n.nk ++ L n.ns ++ L n.np ++ L n.no ++ [IntKind.u8.wrap n.za] ++ L (n.w.length : Int) ++ smallL n.w ++ L (n.b.length : Int) ++ wideL n.b ++ L n.qm ++ L n.qs ++ [IntKind.u8.wrap n.qz] ++ [IntKind.u8.wrap n.lo] ++ [IntKind.u8.wrap n.hi]).map (row1 .u8))) := by
  have q0 := hL.l n.kd
  have q1 := hL.l n.na
  have q2 := hL.l n.nk
  have q3 := hL.l n.ns
  have q4 := hL.l n.np
  have q5 := hL.l n.no
  have q6 : ([IntKind.u8.wrap n.za]).length = 1 := rfl
  have q7 := hL.l (n.w.length : Int)
  have q8 : (smallL n.w).length = n.w.length := List.length_map _
  have q9 := hL.l (n.b.length : Int)
  have q10 := wideL_len n.b hx
  have q11 := hL.l n.qm
  have q12 := hL.l n.qs
  have q13 : ([IntKind.u8.wrap n.qz]).length = 1 := rfl
  have q14 : ([IntKind.u8.wrap n.lo]).length = 1 := rfl
  have q15 : ([IntKind.u8.wrap n.hi]).length = 1 := rfl
  have bu0 : ([] ++ L n.kd).length ≤ 1000000 := by (try simp only [List.nil_append, List.length_append]); omega
  have bu1 : ([] ++ L n.kd ++ L n.na).length ≤ 1000000 := by (try simp only [List.nil_append, List.length_append]); omega
  have bu2 : ([] ++ L n.kd ++ L n.na ++ L n.nk).length ≤ 1000000 := by (try simp only [List.nil_append, List.length_append]); omega
  have bu3 : ([] ++ L n.kd ++ L n.na ++ L n.nk ++ L n.ns).length ≤ 1000000 := by (try simp only [List.nil_append, List.length_append]); omega
  have bu4 : ([] ++ L n.kd ++ L n.na ++ L n.nk ++ L n.ns ++ L n.np).length ≤ 1000000 := by (try simp only [List.nil_append, List.length_append]); omega
  have bu5 : ([] ++ L n.kd ++ L n.na ++ L n.nk ++ L n.ns ++ L n.np ++ L n.no).length ≤ 1000000 := by (try simp only [List.nil_append, List.length_append]); omega
  have bu6 : ([] ++ L n.kd ++ L n.na ++ L n.nk ++ L n.ns ++ L n.np ++ L n.no ++ [IntKind.u8.wrap n.za]).length ≤ 500000 := by (try simp only [List.nil_append, List.length_append]); omega
  have bu7 : ([] ++ L n.kd ++ L n.na ++ L n.nk ++ L n.ns ++ L n.np ++ L n.no ++ [IntKind.u8.wrap n.za] ++ L (n.w.length : Int)).length ≤ 1000000 := by (try simp only [List.nil_append, List.length_append]); omega
  have bu8 : ([] ++ L n.kd ++ L n.na ++ L n.nk ++ L n.ns ++ L n.np ++ L n.no ++ [IntKind.u8.wrap n.za] ++ L (n.w.length : Int) ++ smallL n.w).length ≤ 1000000 := by (try simp only [List.nil_append, List.length_append]); omega
  have bu9 : ([] ++ L n.kd ++ L n.na ++ L n.nk ++ L n.ns ++ L n.np ++ L n.no ++ [IntKind.u8.wrap n.za] ++ L (n.w.length : Int) ++ smallL n.w ++ L (n.b.length : Int)).length ≤ 1000000 := by (try simp only [List.nil_append, List.length_append]); omega
  have bu10 : ([] ++ L n.kd ++ L n.na ++ L n.nk ++ L n.ns ++ L n.np ++ L n.no ++ [IntKind.u8.wrap n.za] ++ L (n.w.length : Int) ++ smallL n.w ++ L (n.b.length : Int) ++ wideL n.b).length ≤ 1000000 := by (try simp only [List.nil_append, List.length_append]); omega
  have bu11 : ([] ++ L n.kd ++ L n.na ++ L n.nk ++ L n.ns ++ L n.np ++ L n.no ++ [IntKind.u8.wrap n.za] ++ L (n.w.length : Int) ++ smallL n.w ++ L (n.b.length : Int) ++ wideL n.b ++ L n.qm).length ≤ 1000000 := by (try simp only [List.nil_append, List.length_append]); omega
  have bu12 : ([] ++ L n.kd ++ L n.na ++ L n.nk ++ L n.ns ++ L n.np ++ L n.no ++ [IntKind.u8.wrap n.za] ++ L (n.w.length : Int) ++ smallL n.w ++ L (n.b.length : Int) ++ wideL n.b ++ L n.qm ++ L n.qs).length ≤ 1000000 := by (try simp only [List.nil_append, List.length_append]); omega
  have bu13 : ([] ++ L n.kd ++ L n.na ++ L n.nk ++ L n.ns ++ L n.np ++ L n.no ++ [IntKind.u8.wrap n.za] ++ L (n.w.length : Int) ++ smallL n.w ++ L (n.b.length : Int) ++ wideL n.b ++ L n.qm ++ L n.qs ++ [IntKind.u8.wrap n.qz]).length ≤ 1000000 := by (try simp only [List.nil_append, List.length_append]); omega
  have bu14 : ([] ++ L n.kd ++ L n.na ++ L n.nk ++ L n.ns ++ L n.np ++ L n.no ++ [IntKind.u8.wrap n.za] ++ L (n.w.length : Int) ++ smallL n.w ++ L (n.b.length : Int) ++ wideL n.b ++ L n.qm ++ L n.qs ++ [IntKind.u8.wrap n.qz] ++ [IntKind.u8.wrap n.lo]).length ≤ 1000000 := by (try simp only [List.nil_append, List.length_append]); omega
  have bu15 : ([] ++ L n.kd ++ L n.na ++ L n.nk ++ L n.ns ++ L n.np ++ L n.no ++ [IntKind.u8.wrap n.za] ++ L (n.w.length : Int) ++ smallL n.w ++ L (n.b.length : Int) ++ wideL n.b ++ L n.qm ++ L n.qs ++ [IntKind.u8.wrap n.qz] ++ [IntKind.u8.wrap n.lo] ++ [IntKind.u8.wrap n.hi]).length ≤ 1000000 := by (try simp only [List.nil_append, List.length_append]); omega
  clear q0 q1 q2 q3 q4 q5 q6 q7 q8 q9 q10 q11 q12 q13 q14 q15
  have w5 : n.w.length ≤ 100000 := by omega
  have b5 : n.b.length ≤ 100000 := by omega
  have oz0 := @tells_1 (n.kd) hk
  have oz1 := @VM.pre _ _ ([AV.lit (Value.slice none 0 0), i64 n.kd]) _ ([]) _ _ _ ([GI.nils 0 950 5 1, GI.sort]) _ (@rput_1 ([]) (L) (n.kd) (by (simp; done)) hL) (by kernel_rfl) (.n)
  have oz2 := @rput_1 ([] ++ L n.kd) (L) (n.na) bu0 hL
  have oz3 := (show (0 : Int) ≤ (0 : Int) by omega)
  have oz4 := (show (0 : Int) < (↑(6 : Nat) : Int) by omega)
  have oz5 := (show [[bv false], [bv true], [bv true], [bv true], [bv true], [bv true]][(0 : Nat)]? = some [bv false] from rfl)
  have oz6 := (show false = false by with_reducible rfl)
  have oz7 := (show (0 : Int) ≤ (1 : Int) by omega)
  have oz8 := (show (1 : Int) < (↑(6 : Nat) : Int) by omega)
  have oz9 := (show [[bv false], [bv true], [bv true], [bv true], [bv true], [bv true]][(1 : Nat)]? = some [bv true] from rfl)
  have oz10 := (show true = true by with_reducible rfl)
  have oz11 := @rput_1 ([] ++ L n.kd ++ L n.na) (L) (n.nk) bu1 hL
  have oz12 := @rput_1 ([] ++ L n.kd ++ L n.na ++ L n.nk) (L) (n.ns) bu2 hL
  have oz16 := (show true = !false by (simp; done))
  have oz21 := @rput_1 ([] ++ L n.kd ++ L n.na ++ L n.nk ++ L n.ns) (L) (n.np) bu3 hL
  have oz24 := (show [[bv false], [bv true], [bv true], [bv true], [bv true], [bv true]][(2 : Nat)]? = some [bv true] from rfl)
  have oz26 := @rput_1 ([] ++ L n.kd ++ L n.na ++ L n.nk ++ L n.ns ++ L n.np) (L) (n.no) bu4 hL
  have oz29 := (show [[bv false], [bv true], [bv true], [bv true], [bv true], [bv true]][(3 : Nat)]? = some [bv true] from rfl)
  have oz39 := (show [[bv false], [bv true], [bv true], [bv true], [bv true], [bv true]][(4 : Nat)]? = some [bv true] from rfl)
  have oz41 := @VM.pre _ _ ([AV.own 950, AV.sl 1 (List.map (row1 IntKind.i8) n.w), AV.sl 1 (List.map (row1 IntKind.i32) n.b)]) _ ([(950, Blk.slc 5 1 (List.map (row1 IntKind.u8) ([] ++ L n.kd ++ L n.na ++ L n.nk ++ L n.ns ++ L n.np ++ L n.no) ++ [[u8 (IntKind.u8.wrap n.za)]]))]) _ _ _ ([GI.blk 950 (Blk.slc 5 1 (List.map (row1 IntKind.u8) ([] ++ L n.kd ++ L n.na ++ L n.nk ++ L n.ns ++ L n.np ++ L n.no ++ [IntKind.u8.wrap n.za]))), GI.sort]) _ (@rlists_v ([] ++ L n.kd ++ L n.na ++ L n.nk ++ L n.ns ++ L n.np ++ L n.no ++ [IntKind.u8.wrap n.za]) (L) (n.w) (n.b) bu6 hL w5 hb hx) (by kernel_rfl) (.c (BlkW.rows (e := 5) (z := 1) (rows_to (row1 IntKind.u8) (r := List.map (row1 IntKind.u8) ([] ++ L n.kd ++ L n.na ++ L n.nk ++ L n.ns ++ L n.np ++ L n.no) ++ [[u8 (IntKind.u8.wrap n.za)]]) (l := [] ++ L n.kd ++ L n.na ++ L n.nk ++ L n.ns ++ L n.np ++ L n.no ++ [IntKind.u8.wrap n.za]) (m := [] ++ L n.kd ++ L n.na ++ L n.nk ++ L n.ns ++ L n.np ++ L n.no ++ [IntKind.u8.wrap n.za]) (by first | (simp only [List.map_append, List.map_cons, List.map_nil, List.map_set, List.map_replicate, List.map_take, List.map_drop]; done) | rfl | (simp only [List.map_append, List.map_cons, List.map_nil, List.map_set, List.map_replicate, List.map_take, List.map_drop]; rfl)) rfl)) <| .n)
  have oz44 := (show [[bv false], [bv true], [bv true], [bv true], [bv true], [bv true]][(5 : Nat)]? = some [bv true] from rfl)
  have oz47 := @rput_1 ([] ++ L n.kd ++ L n.na ++ L n.nk ++ L n.ns ++ L n.np ++ L n.no ++ [IntKind.u8.wrap n.za] ++ L (↑n.w.length : Int) ++ smallL n.w ++ L (↑n.b.length : Int) ++ wideL n.b) (L) (n.qm) bu10 hL
  have oz48 := @rput_1 ([] ++ L n.kd ++ L n.na ++ L n.nk ++ L n.ns ++ L n.np ++ L n.no ++ [IntKind.u8.wrap n.za] ++ L (↑n.w.length : Int) ++ smallL n.w ++ L (↑n.b.length : Int) ++ wideL n.b ++ L n.qm) (L) (n.qs) bu11 hL
  exact (VC.run (fn := Try.f107) (W := [.r [] [], .r [] [.callr (rO oz0)], .r [] [.callm [] [(951, 20000)] (rM oz1) (oM oz1), .callm [(20000, 950)] [(951, 20001)] (rM oz2) (oM oz2)], .r [] [.row (sO oz5)], .br false, .r [] [.row (sO oz9)], .br true, .r [] [.callm [(20001, 950)] [(951, 20002)] (rM oz11) (oM oz11), .callm [(20002, 950)] [(951, 20003)] (rM oz12) (oM oz12)], .r [] [.row (sO oz9), .br false, .br false, .br false, .br true], .br true, .r [] [.callm [(20003, 950)] [(951, 20004)] (rM oz21) (oM oz21)], .r [] [.row (sO oz24)], .br true, .r [] [.callm [(20004, 950)] [(951, 20005)] (rM oz26) (oM oz26)], .r [] [.row (sO oz29)], .br true, .r [] [.w], .r [] [.row (sO oz5)], .br false, .r [] [.row (sO oz39)], .br true, .r [] [.callm [(53, 950)] [(951, 20006)] (rM oz41) (oM oz41)], .r [] [.row (sO oz44)], .br true, .r [] [.n n.qm, .callm [(20006, 950)] [(951, 20007)] (rM oz47) (oM oz47), .callm [(20007, 950)] [(951, 20008)] (rM oz48) (oM oz48), .w], .r [] [.row (sO oz5)], .br false, .r [] [.w, .w], .r [] []]) (r := AV.sl 1 (List.map (row1 IntKind.u8) ([] ++ L n.kd ++ L n.na ++ L n.nk ++ L n.ns ++ L n.np ++ L n.no ++ [IntKind.u8.wrap n.za] ++ L (↑n.w.length : Int) ++ smallL n.w ++ L (↑n.b.length : Int) ++ wideL n.b ++ L n.qm ++ L n.qs) ++ [[u8 (IntKind.u8.wrap n.qz)]] ++ [[u8 (IntKind.u8.wrap n.lo)], [u8 (IntKind.u8.wrap n.hi)]])) Try.func107 (by kernel_rfl) (.c oz0 <| .c oz1 <| .c oz2 <| .c oz3 <| .c oz4 <| .c oz5 <| .c oz6 <| .c oz7 <| .c oz8 <| .c oz9 <| .c oz10 <| .c oz11 <| .c oz12 <| .c oz7 <| .c oz8 <| .c oz9 <| .c oz16 <| .c oz16 <| .c oz16 <| .c oz10 <| .c oz10 <| .c oz21 <| .c (show (0 : Int) ≤ (2 : Int) by omega) <| .c (show (2 : Int) < (↑(6 : Nat) : Int) by omega) <| .c oz24 <| .c oz10 <| .c oz26 <| .c (show (0 : Int) ≤ (3 : Int) by omega) <| .c (show (3 : Int) < (↑(6 : Nat) : Int) by omega) <| .c oz29 <| .c oz10 <| .c (show ((List.map (row1 IntKind.u8) ([] ++ L n.kd ++ L n.na ++ L n.nk ++ L n.ns ++ L n.np ++ L n.no)).length + 1) * 1 ≤ 140737488355328 by (simp only [List.length_map] at *; omega)) <| .c (show (List.map (row1 IntKind.u8) ([] ++ L n.kd ++ L n.na ++ L n.nk ++ L n.ns ++ L n.np ++ L n.no)).length + 1 ≤ 9223372036854775807 by (simp only [List.length_map] at *; omega)) <| .c oz3 <| .c oz4 <| .c oz5 <| .c oz6 <| .c (show (0 : Int) ≤ (4 : Int) by omega) <| .c (show (4 : Int) < (↑(6 : Nat) : Int) by omega) <| .c oz39 <| .c oz10 <| .c oz41 <| .c (show (0 : Int) ≤ (5 : Int) by omega) <| .c (show (5 : Int) < (↑(6 : Nat) : Int) by omega) <| .c oz44 <| .c oz10 <| .c (IntWalk.i64_in n.qm (by omega)) <| .c oz47 <| .c oz48 <| .c (show ((List.map (row1 IntKind.u8) ([] ++ L n.kd ++ L n.na ++ L n.nk ++ L n.ns ++ L n.np ++ L n.no ++ [IntKind.u8.wrap n.za] ++ L (↑n.w.length : Int) ++ smallL n.w ++ L (↑n.b.length : Int) ++ wideL n.b ++ L n.qm ++ L n.qs)).length + 1) * 1 ≤ 140737488355328 by (simp only [List.length_map] at *; omega)) <| .c (show (List.map (row1 IntKind.u8) ([] ++ L n.kd ++ L n.na ++ L n.nk ++ L n.ns ++ L n.np ++ L n.no ++ [IntKind.u8.wrap n.za] ++ L (↑n.w.length : Int) ++ smallL n.w ++ L (↑n.b.length : Int) ++ wideL n.b ++ L n.qm ++ L n.qs)).length + 1 ≤ 9223372036854775807 by (simp only [List.length_map] at *; omega)) <| .c oz3 <| .c oz4 <| .c oz5 <| .c oz6 <| .c (show ((List.map (row1 IntKind.u8) ([] ++ L n.kd ++ L n.na ++ L n.nk ++ L n.ns ++ L n.np ++ L n.no ++ [IntKind.u8.wrap n.za] ++ L (↑n.w.length : Int) ++ smallL n.w ++ L (↑n.b.length : Int) ++ wideL n.b ++ L n.qm ++ L n.qs) ++ [[u8 (IntKind.u8.wrap n.qz)]]).length + 2) * 1 ≤ 140737488355328 by (simp at *; omega)) <| .c (show (List.map (row1 IntKind.u8) ([] ++ L n.kd ++ L n.na ++ L n.nk ++ L n.ns ++ L n.np ++ L n.no ++ [IntKind.u8.wrap n.za] ++ L (↑n.w.length : Int) ++ smallL n.w ++ L (↑n.b.length : Int) ++ wideL n.b ++ L n.qm ++ L n.qs) ++ [[u8 (IntKind.u8.wrap n.qz)]]).length + 2 ≤ 9223372036854775807 by (simp at *; omega)) <| .n)).weak (WeakL.refl _) (Weak.rows (rows_to (row1 IntKind.u8) (r := List.map (row1 IntKind.u8) ([] ++ L n.kd ++ L n.na ++ L n.nk ++ L n.ns ++ L n.np ++ L n.no ++ [IntKind.u8.wrap n.za] ++ L (↑n.w.length : Int) ++ smallL n.w ++ L (↑n.b.length : Int) ++ wideL n.b ++ L n.qm ++ L n.qs) ++ [[u8 (IntKind.u8.wrap n.qz)]] ++ [[u8 (IntKind.u8.wrap n.lo)], [u8 (IntKind.u8.wrap n.hi)]]) (l := [] ++ L n.kd ++ L n.na ++ L n.nk ++ L n.ns ++ L n.np ++ L n.no ++ [IntKind.u8.wrap n.za] ++ L (↑n.w.length : Int) ++ smallL n.w ++ L (↑n.b.length : Int) ++ wideL n.b ++ L n.qm ++ L n.qs ++ [IntKind.u8.wrap n.qz] ++ [IntKind.u8.wrap n.lo, IntKind.u8.wrap n.hi]) (m := L n.kd ++ L n.na ++ L n.nk ++ L n.ns ++ L n.np ++ L n.no ++ [IntKind.u8.wrap n.za] ++ L (↑n.w.length : Int) ++ smallL n.w ++ L (↑n.b.length : Int) ++ wideL n.b ++ L n.qm ++ L n.qs ++ [IntKind.u8.wrap n.qz] ++ [IntKind.u8.wrap n.lo] ++ [IntKind.u8.wrap n.hi]) (by first | (simp only [List.map_append, List.map_cons, List.map_nil, List.map_set, List.map_replicate, List.map_take, List.map_drop]; done) | rfl | (simp only [List.map_append, List.map_cons, List.map_nil, List.map_set, List.map_replicate, List.map_take, List.map_drop]; rfl)) (show ([] ++ L n.kd ++ L n.na ++ L n.nk ++ L n.ns ++ L n.np ++ L n.no ++ [IntKind.u8.wrap n.za] ++ L (↑n.w.length : Int) ++ smallL n.w ++ L (↑n.b.length : Int) ++ wideL n.b ++ L n.qm ++ L n.qs ++ [IntKind.u8.wrap n.qz] ++ [IntKind.u8.wrap n.lo, IntKind.u8.wrap n.hi]) = (L n.kd ++ L n.na ++ L n.nk ++ L n.ns ++ L n.np ++ L n.no ++ [IntKind.u8.wrap n.za] ++ L (↑n.w.length : Int) ++ smallL n.w ++ L (↑n.b.length : Int) ++ wideL n.b ++ L n.qm ++ L n.qs ++ [IntKind.u8.wrap n.qz] ++ [IntKind.u8.wrap n.lo] ++ [IntKind.u8.wrap n.hi]) from (by (simp; done)))))
theorem rbytes_2 (L : Int → List Int) (n : Nod) (hL : RPuts L) (hk : n.kd = 2) (hw : n.w.length ≤ 16384) (hb : n.b.length ≤ 16384) (hx : ∀ x ∈ n.b, -2147483648 ≤ x ∧ x ≤ 2147483647) (hq : In32 n.qm) (hr : In32 n.rm) : VC Try.prog 107 ([nod n]) (.sl 1 ((L n.kd ++ L n.na ++ L n.nk ++ L n.ns ++ L n.np ++ [IntKind.u8.wrap n.za] ++ L (n.w.length : Int) ++ smallL n.w ++ L (n.b.length : Int) ++ wideL n.b ++ L n.qm ++ L n.qs ++ [IntKind.u8.wrap n.qz] ++ [IntKind.u8.wrap n.lo] ++ [IntKind.u8.wrap n.hi]).map (row1 .u8))) := by
  have q0 := hL.l n.kd
  have q1 := hL.l n.na
  have q2 := hL.l n.nk
  have q3 := hL.l n.ns
  have q4 := hL.l n.np
  have q5 : ([IntKind.u8.wrap n.za]).length = 1 := rfl
  have q6 := hL.l (n.w.length : Int)
  have q7 : (smallL n.w).length = n.w.length := List.length_map _
  have q8 := hL.l (n.b.length : Int)
  have q9 := wideL_len n.b hx
  have q10 := hL.l n.qm
  have q11 := hL.l n.qs
  have q12 : ([IntKind.u8.wrap n.qz]).length = 1 := rfl
  have q13 : ([IntKind.u8.wrap n.lo]).length = 1 := rfl
  have q14 : ([IntKind.u8.wrap n.hi]).length = 1 := rfl
  have bu0 : ([] ++ L n.kd).length ≤ 1000000 := by (try simp only [List.nil_append, List.length_append]); omega
  have bu1 : ([] ++ L n.kd ++ L n.na).length ≤ 1000000 := by (try simp only [List.nil_append, List.length_append]); omega
  have bu2 : ([] ++ L n.kd ++ L n.na ++ L n.nk).length ≤ 1000000 := by (try simp only [List.nil_append, List.length_append]); omega
  have bu3 : ([] ++ L n.kd ++ L n.na ++ L n.nk ++ L n.ns).length ≤ 1000000 := by (try simp only [List.nil_append, List.length_append]); omega
  have bu4 : ([] ++ L n.kd ++ L n.na ++ L n.nk ++ L n.ns ++ L n.np).length ≤ 1000000 := by (try simp only [List.nil_append, List.length_append]); omega
  have bu5 : ([] ++ L n.kd ++ L n.na ++ L n.nk ++ L n.ns ++ L n.np ++ [IntKind.u8.wrap n.za]).length ≤ 500000 := by (try simp only [List.nil_append, List.length_append]); omega
  have bu6 : ([] ++ L n.kd ++ L n.na ++ L n.nk ++ L n.ns ++ L n.np ++ [IntKind.u8.wrap n.za] ++ L (n.w.length : Int)).length ≤ 1000000 := by (try simp only [List.nil_append, List.length_append]); omega
  have bu7 : ([] ++ L n.kd ++ L n.na ++ L n.nk ++ L n.ns ++ L n.np ++ [IntKind.u8.wrap n.za] ++ L (n.w.length : Int) ++ smallL n.w).length ≤ 1000000 := by (try simp only [List.nil_append, List.length_append]); omega
  have bu8 : ([] ++ L n.kd ++ L n.na ++ L n.nk ++ L n.ns ++ L n.np ++ [IntKind.u8.wrap n.za] ++ L (n.w.length : Int) ++ smallL n.w ++ L (n.b.length : Int)).length ≤ 1000000 := by (try simp only [List.nil_append, List.length_append]); omega
  have bu9 : ([] ++ L n.kd ++ L n.na ++ L n.nk ++ L n.ns ++ L n.np ++ [IntKind.u8.wrap n.za] ++ L (n.w.length : Int) ++ smallL n.w ++ L (n.b.length : Int) ++ wideL n.b).length ≤ 1000000 := by (try simp only [List.nil_append, List.length_append]); omega
  have bu10 : ([] ++ L n.kd ++ L n.na ++ L n.nk ++ L n.ns ++ L n.np ++ [IntKind.u8.wrap n.za] ++ L (n.w.length : Int) ++ smallL n.w ++ L (n.b.length : Int) ++ wideL n.b ++ L n.qm).length ≤ 1000000 := by (try simp only [List.nil_append, List.length_append]); omega
  have bu11 : ([] ++ L n.kd ++ L n.na ++ L n.nk ++ L n.ns ++ L n.np ++ [IntKind.u8.wrap n.za] ++ L (n.w.length : Int) ++ smallL n.w ++ L (n.b.length : Int) ++ wideL n.b ++ L n.qm ++ L n.qs).length ≤ 1000000 := by (try simp only [List.nil_append, List.length_append]); omega
  have bu12 : ([] ++ L n.kd ++ L n.na ++ L n.nk ++ L n.ns ++ L n.np ++ [IntKind.u8.wrap n.za] ++ L (n.w.length : Int) ++ smallL n.w ++ L (n.b.length : Int) ++ wideL n.b ++ L n.qm ++ L n.qs ++ [IntKind.u8.wrap n.qz]).length ≤ 1000000 := by (try simp only [List.nil_append, List.length_append]); omega
  have bu13 : ([] ++ L n.kd ++ L n.na ++ L n.nk ++ L n.ns ++ L n.np ++ [IntKind.u8.wrap n.za] ++ L (n.w.length : Int) ++ smallL n.w ++ L (n.b.length : Int) ++ wideL n.b ++ L n.qm ++ L n.qs ++ [IntKind.u8.wrap n.qz] ++ [IntKind.u8.wrap n.lo]).length ≤ 1000000 := by (try simp only [List.nil_append, List.length_append]); omega
  have bu14 : ([] ++ L n.kd ++ L n.na ++ L n.nk ++ L n.ns ++ L n.np ++ [IntKind.u8.wrap n.za] ++ L (n.w.length : Int) ++ smallL n.w ++ L (n.b.length : Int) ++ wideL n.b ++ L n.qm ++ L n.qs ++ [IntKind.u8.wrap n.qz] ++ [IntKind.u8.wrap n.lo] ++ [IntKind.u8.wrap n.hi]).length ≤ 1000000 := by (try simp only [List.nil_append, List.length_append]); omega
  clear q0 q1 q2 q3 q4 q5 q6 q7 q8 q9 q10 q11 q12 q13 q14
  have w5 : n.w.length ≤ 100000 := by omega
  have b5 : n.b.length ≤ 100000 := by omega
  have oz0 := @tells_2 (n.kd) hk
  have oz1 := @VM.pre _ _ ([AV.lit (Value.slice none 0 0), i64 n.kd]) _ ([]) _ _ _ ([GI.nils 0 950 5 1, GI.sort]) _ (@rput_1 ([]) (L) (n.kd) (by (simp; done)) hL) (by kernel_rfl) (.n)
  have oz2 := @rput_1 ([] ++ L n.kd) (L) (n.na) bu0 hL
  have oz3 := (show (0 : Int) ≤ (0 : Int) by omega)
  have oz4 := (show (0 : Int) < (↑(6 : Nat) : Int) by omega)
  have oz5 := (show [[bv false], [bv true], [bv false], [bv true], [bv true], [bv true]][(0 : Nat)]? = some [bv false] from rfl)
  have oz6 := (show false = false by with_reducible rfl)
  have oz7 := (show (0 : Int) ≤ (1 : Int) by omega)
  have oz8 := (show (1 : Int) < (↑(6 : Nat) : Int) by omega)
  have oz9 := (show [[bv false], [bv true], [bv false], [bv true], [bv true], [bv true]][(1 : Nat)]? = some [bv true] from rfl)
  have oz10 := (show true = true by with_reducible rfl)
  have oz11 := @rput_1 ([] ++ L n.kd ++ L n.na) (L) (n.nk) bu1 hL
  have oz12 := @rput_1 ([] ++ L n.kd ++ L n.na ++ L n.nk) (L) (n.ns) bu2 hL
  have oz16 := (show true = !false by (simp; done))
  have oz21 := @rput_1 ([] ++ L n.kd ++ L n.na ++ L n.nk ++ L n.ns) (L) (n.np) bu3 hL
  have oz24 := (show [[bv false], [bv true], [bv false], [bv true], [bv true], [bv true]][(2 : Nat)]? = some [bv false] from rfl)
  have oz28 := (show [[bv false], [bv true], [bv false], [bv true], [bv true], [bv true]][(3 : Nat)]? = some [bv true] from rfl)
  have oz38 := (show [[bv false], [bv true], [bv false], [bv true], [bv true], [bv true]][(4 : Nat)]? = some [bv true] from rfl)
  have oz40 := @VM.pre _ _ ([AV.own 950, AV.sl 1 (List.map (row1 IntKind.i8) n.w), AV.sl 1 (List.map (row1 IntKind.i32) n.b)]) _ ([(950, Blk.slc 5 1 (List.map (row1 IntKind.u8) ([] ++ L n.kd ++ L n.na ++ L n.nk ++ L n.ns ++ L n.np) ++ [[u8 (IntKind.u8.wrap n.za)]]))]) _ _ _ ([GI.blk 950 (Blk.slc 5 1 (List.map (row1 IntKind.u8) ([] ++ L n.kd ++ L n.na ++ L n.nk ++ L n.ns ++ L n.np ++ [IntKind.u8.wrap n.za]))), GI.sort]) _ (@rlists_v ([] ++ L n.kd ++ L n.na ++ L n.nk ++ L n.ns ++ L n.np ++ [IntKind.u8.wrap n.za]) (L) (n.w) (n.b) bu5 hL w5 hb hx) (by kernel_rfl) (.c (BlkW.rows (e := 5) (z := 1) (rows_to (row1 IntKind.u8) (r := List.map (row1 IntKind.u8) ([] ++ L n.kd ++ L n.na ++ L n.nk ++ L n.ns ++ L n.np) ++ [[u8 (IntKind.u8.wrap n.za)]]) (l := [] ++ L n.kd ++ L n.na ++ L n.nk ++ L n.ns ++ L n.np ++ [IntKind.u8.wrap n.za]) (m := [] ++ L n.kd ++ L n.na ++ L n.nk ++ L n.ns ++ L n.np ++ [IntKind.u8.wrap n.za]) (by first | (simp only [List.map_append, List.map_cons, List.map_nil, List.map_set, List.map_replicate, List.map_take, List.map_drop]; done) | rfl | (simp only [List.map_append, List.map_cons, List.map_nil, List.map_set, List.map_replicate, List.map_take, List.map_drop]; rfl)) rfl)) <| .n)
  have oz43 := (show [[bv false], [bv true], [bv false], [bv true], [bv true], [bv true]][(5 : Nat)]? = some [bv true] from rfl)
  have oz46 := @rput_1 ([] ++ L n.kd ++ L n.na ++ L n.nk ++ L n.ns ++ L n.np ++ [IntKind.u8.wrap n.za] ++ L (↑n.w.length : Int) ++ smallL n.w ++ L (↑n.b.length : Int) ++ wideL n.b) (L) (n.qm) bu9 hL
  have oz47 := @rput_1 ([] ++ L n.kd ++ L n.na ++ L n.nk ++ L n.ns ++ L n.np ++ [IntKind.u8.wrap n.za] ++ L (↑n.w.length : Int) ++ smallL n.w ++ L (↑n.b.length : Int) ++ wideL n.b ++ L n.qm) (L) (n.qs) bu10 hL
  exact (VC.run (fn := Try.f107) (W := [.r [] [], .r [] [.callr (rO oz0)], .r [] [.callm [] [(951, 20000)] (rM oz1) (oM oz1), .callm [(20000, 950)] [(951, 20001)] (rM oz2) (oM oz2)], .r [] [.row (sO oz5)], .br false, .r [] [.row (sO oz9)], .br true, .r [] [.callm [(20001, 950)] [(951, 20002)] (rM oz11) (oM oz11), .callm [(20002, 950)] [(951, 20003)] (rM oz12) (oM oz12)], .r [] [.row (sO oz9), .br false, .br false, .br false, .br true], .br true, .r [] [.callm [(20003, 950)] [(951, 20004)] (rM oz21) (oM oz21)], .r [] [.row (sO oz24)], .br false, .r [] [.row (sO oz28)], .br true, .r [] [.w], .r [] [.row (sO oz5)], .br false, .r [] [.row (sO oz38)], .br true, .r [] [.callm [(53, 950)] [(951, 20005)] (rM oz40) (oM oz40)], .r [] [.row (sO oz43)], .br true, .r [] [.n n.qm, .callm [(20005, 950)] [(951, 20006)] (rM oz46) (oM oz46), .callm [(20006, 950)] [(951, 20007)] (rM oz47) (oM oz47), .w], .r [] [.row (sO oz5)], .br false, .r [] [.w, .w], .r [] []]) (r := AV.sl 1 (List.map (row1 IntKind.u8) ([] ++ L n.kd ++ L n.na ++ L n.nk ++ L n.ns ++ L n.np ++ [IntKind.u8.wrap n.za] ++ L (↑n.w.length : Int) ++ smallL n.w ++ L (↑n.b.length : Int) ++ wideL n.b ++ L n.qm ++ L n.qs) ++ [[u8 (IntKind.u8.wrap n.qz)]] ++ [[u8 (IntKind.u8.wrap n.lo)], [u8 (IntKind.u8.wrap n.hi)]])) Try.func107 (by kernel_rfl) (.c oz0 <| .c oz1 <| .c oz2 <| .c oz3 <| .c oz4 <| .c oz5 <| .c oz6 <| .c oz7 <| .c oz8 <| .c oz9 <| .c oz10 <| .c oz11 <| .c oz12 <| .c oz7 <| .c oz8 <| .c oz9 <| .c oz16 <| .c oz16 <| .c oz16 <| .c oz10 <| .c oz10 <| .c oz21 <| .c (show (0 : Int) ≤ (2 : Int) by omega) <| .c (show (2 : Int) < (↑(6 : Nat) : Int) by omega) <| .c oz24 <| .c oz6 <| .c (show (0 : Int) ≤ (3 : Int) by omega) <| .c (show (3 : Int) < (↑(6 : Nat) : Int) by omega) <| .c oz28 <| .c oz10 <| .c (show ((List.map (row1 IntKind.u8) ([] ++ L n.kd ++ L n.na ++ L n.nk ++ L n.ns ++ L n.np)).length + 1) * 1 ≤ 140737488355328 by (simp only [List.length_map] at *; omega)) <| .c (show (List.map (row1 IntKind.u8) ([] ++ L n.kd ++ L n.na ++ L n.nk ++ L n.ns ++ L n.np)).length + 1 ≤ 9223372036854775807 by (simp only [List.length_map] at *; omega)) <| .c oz3 <| .c oz4 <| .c oz5 <| .c oz6 <| .c (show (0 : Int) ≤ (4 : Int) by omega) <| .c (show (4 : Int) < (↑(6 : Nat) : Int) by omega) <| .c oz38 <| .c oz10 <| .c oz40 <| .c (show (0 : Int) ≤ (5 : Int) by omega) <| .c (show (5 : Int) < (↑(6 : Nat) : Int) by omega) <| .c oz43 <| .c oz10 <| .c (IntWalk.i64_in n.qm (by omega)) <| .c oz46 <| .c oz47 <| .c (show ((List.map (row1 IntKind.u8) ([] ++ L n.kd ++ L n.na ++ L n.nk ++ L n.ns ++ L n.np ++ [IntKind.u8.wrap n.za] ++ L (↑n.w.length : Int) ++ smallL n.w ++ L (↑n.b.length : Int) ++ wideL n.b ++ L n.qm ++ L n.qs)).length + 1) * 1 ≤ 140737488355328 by (simp only [List.length_map] at *; omega)) <| .c (show (List.map (row1 IntKind.u8) ([] ++ L n.kd ++ L n.na ++ L n.nk ++ L n.ns ++ L n.np ++ [IntKind.u8.wrap n.za] ++ L (↑n.w.length : Int) ++ smallL n.w ++ L (↑n.b.length : Int) ++ wideL n.b ++ L n.qm ++ L n.qs)).length + 1 ≤ 9223372036854775807 by (simp only [List.length_map] at *; omega)) <| .c oz3 <| .c oz4 <| .c oz5 <| .c oz6 <| .c (show ((List.map (row1 IntKind.u8) ([] ++ L n.kd ++ L n.na ++ L n.nk ++ L n.ns ++ L n.np ++ [IntKind.u8.wrap n.za] ++ L (↑n.w.length : Int) ++ smallL n.w ++ L (↑n.b.length : Int) ++ wideL n.b ++ L n.qm ++ L n.qs) ++ [[u8 (IntKind.u8.wrap n.qz)]]).length + 2) * 1 ≤ 140737488355328 by (simp at *; omega)) <| .c (show (List.map (row1 IntKind.u8) ([] ++ L n.kd ++ L n.na ++ L n.nk ++ L n.ns ++ L n.np ++ [IntKind.u8.wrap n.za] ++ L (↑n.w.length : Int) ++ smallL n.w ++ L (↑n.b.length : Int) ++ wideL n.b ++ L n.qm ++ L n.qs) ++ [[u8 (IntKind.u8.wrap n.qz)]]).length + 2 ≤ 9223372036854775807 by (simp at *; omega)) <| .n)).weak (WeakL.refl _) (Weak.rows (rows_to (row1 IntKind.u8) (r := List.map (row1 IntKind.u8) ([] ++ L n.kd ++ L n.na ++ L n.nk ++ L n.ns ++ L n.np ++ [IntKind.u8.wrap n.za] ++ L (↑n.w.length : Int) ++ smallL n.w ++ L (↑n.b.length : Int) ++ wideL n.b ++ L n.qm ++ L n.qs) ++ [[u8 (IntKind.u8.wrap n.qz)]] ++ [[u8 (IntKind.u8.wrap n.lo)], [u8 (IntKind.u8.wrap n.hi)]]) (l := [] ++ L n.kd ++ L n.na ++ L n.nk ++ L n.ns ++ L n.np ++ [IntKind.u8.wrap n.za] ++ L (↑n.w.length : Int) ++ smallL n.w ++ L (↑n.b.length : Int) ++ wideL n.b ++ L n.qm ++ L n.qs ++ [IntKind.u8.wrap n.qz] ++ [IntKind.u8.wrap n.lo, IntKind.u8.wrap n.hi]) (m := L n.kd ++ L n.na ++ L n.nk ++ L n.ns ++ L n.np ++ [IntKind.u8.wrap n.za] ++ L (↑n.w.length : Int) ++ smallL n.w ++ L (↑n.b.length : Int) ++ wideL n.b ++ L n.qm ++ L n.qs ++ [IntKind.u8.wrap n.qz] ++ [IntKind.u8.wrap n.lo] ++ [IntKind.u8.wrap n.hi]) (by first | (simp only [List.map_append, List.map_cons, List.map_nil, List.map_set, List.map_replicate, List.map_take, List.map_drop]; done) | rfl | (simp only [List.map_append, List.map_cons, List.map_nil, List.map_set, List.map_replicate, List.map_take, List.map_drop]; rfl)) (show ([] ++ L n.kd ++ L n.na ++ L n.nk ++ L n.ns ++ L n.np ++ [IntKind.u8.wrap n.za] ++ L (↑n.w.length : Int) ++ smallL n.w ++ L (↑n.b.length : Int) ++ wideL n.b ++ L n.qm ++ L n.qs ++ [IntKind.u8.wrap n.qz] ++ [IntKind.u8.wrap n.lo, IntKind.u8.wrap n.hi]) = (L n.kd ++ L n.na ++ L n.nk ++ L n.ns ++ L n.np ++ [IntKind.u8.wrap n.za] ++ L (↑n.w.length : Int) ++ smallL n.w ++ L (↑n.b.length : Int) ++ wideL n.b ++ L n.qm ++ L n.qs ++ [IntKind.u8.wrap n.qz] ++ [IntKind.u8.wrap n.lo] ++ [IntKind.u8.wrap n.hi]) from (by (simp; done)))))
theorem rbytes_3 (L : Int → List Int) (n : Nod) (hL : RPuts L) (hk : n.kd = 3) (hw : n.w.length ≤ 16384) (hb : n.b.length ≤ 16384) (hx : ∀ x ∈ n.b, -2147483648 ≤ x ∧ x ≤ 2147483647) (hq : In32 n.qm) (hr : In32 n.rm) : VC Try.prog 107 ([nod n]) (.sl 1 ((L n.kd ++ L n.na ++ L n.no ++ [IntKind.u8.wrap n.za] ++ L (n.w.length : Int) ++ smallL n.w ++ L (n.b.length : Int) ++ wideL n.b ++ L n.qm ++ L n.qs ++ [IntKind.u8.wrap n.qz] ++ [IntKind.u8.wrap n.lo] ++ [IntKind.u8.wrap n.hi]).map (row1 .u8))) := by
  have q0 := hL.l n.kd
  have q1 := hL.l n.na
  have q2 := hL.l n.no
  have q3 : ([IntKind.u8.wrap n.za]).length = 1 := rfl
  have q4 := hL.l (n.w.length : Int)
  have q5 : (smallL n.w).length = n.w.length := List.length_map _
  have q6 := hL.l (n.b.length : Int)
  have q7 := wideL_len n.b hx
  have q8 := hL.l n.qm
  have q9 := hL.l n.qs
  have q10 : ([IntKind.u8.wrap n.qz]).length = 1 := rfl
  have q11 : ([IntKind.u8.wrap n.lo]).length = 1 := rfl
  have q12 : ([IntKind.u8.wrap n.hi]).length = 1 := rfl
  have bu0 : ([] ++ L n.kd).length ≤ 1000000 := by (try simp only [List.nil_append, List.length_append]); omega
  have bu1 : ([] ++ L n.kd ++ L n.na).length ≤ 1000000 := by (try simp only [List.nil_append, List.length_append]); omega
  have bu2 : ([] ++ L n.kd ++ L n.na ++ L n.no).length ≤ 1000000 := by (try simp only [List.nil_append, List.length_append]); omega
  have bu3 : ([] ++ L n.kd ++ L n.na ++ L n.no ++ [IntKind.u8.wrap n.za]).length ≤ 500000 := by (try simp only [List.nil_append, List.length_append]); omega
  have bu4 : ([] ++ L n.kd ++ L n.na ++ L n.no ++ [IntKind.u8.wrap n.za] ++ L (n.w.length : Int)).length ≤ 1000000 := by (try simp only [List.nil_append, List.length_append]); omega
  have bu5 : ([] ++ L n.kd ++ L n.na ++ L n.no ++ [IntKind.u8.wrap n.za] ++ L (n.w.length : Int) ++ smallL n.w).length ≤ 1000000 := by (try simp only [List.nil_append, List.length_append]); omega
  have bu6 : ([] ++ L n.kd ++ L n.na ++ L n.no ++ [IntKind.u8.wrap n.za] ++ L (n.w.length : Int) ++ smallL n.w ++ L (n.b.length : Int)).length ≤ 1000000 := by (try simp only [List.nil_append, List.length_append]); omega
  have bu7 : ([] ++ L n.kd ++ L n.na ++ L n.no ++ [IntKind.u8.wrap n.za] ++ L (n.w.length : Int) ++ smallL n.w ++ L (n.b.length : Int) ++ wideL n.b).length ≤ 1000000 := by (try simp only [List.nil_append, List.length_append]); omega
  have bu8 : ([] ++ L n.kd ++ L n.na ++ L n.no ++ [IntKind.u8.wrap n.za] ++ L (n.w.length : Int) ++ smallL n.w ++ L (n.b.length : Int) ++ wideL n.b ++ L n.qm).length ≤ 1000000 := by (try simp only [List.nil_append, List.length_append]); omega
  have bu9 : ([] ++ L n.kd ++ L n.na ++ L n.no ++ [IntKind.u8.wrap n.za] ++ L (n.w.length : Int) ++ smallL n.w ++ L (n.b.length : Int) ++ wideL n.b ++ L n.qm ++ L n.qs).length ≤ 1000000 := by (try simp only [List.nil_append, List.length_append]); omega
  have bu10 : ([] ++ L n.kd ++ L n.na ++ L n.no ++ [IntKind.u8.wrap n.za] ++ L (n.w.length : Int) ++ smallL n.w ++ L (n.b.length : Int) ++ wideL n.b ++ L n.qm ++ L n.qs ++ [IntKind.u8.wrap n.qz]).length ≤ 1000000 := by (try simp only [List.nil_append, List.length_append]); omega
  have bu11 : ([] ++ L n.kd ++ L n.na ++ L n.no ++ [IntKind.u8.wrap n.za] ++ L (n.w.length : Int) ++ smallL n.w ++ L (n.b.length : Int) ++ wideL n.b ++ L n.qm ++ L n.qs ++ [IntKind.u8.wrap n.qz] ++ [IntKind.u8.wrap n.lo]).length ≤ 1000000 := by (try simp only [List.nil_append, List.length_append]); omega
  have bu12 : ([] ++ L n.kd ++ L n.na ++ L n.no ++ [IntKind.u8.wrap n.za] ++ L (n.w.length : Int) ++ smallL n.w ++ L (n.b.length : Int) ++ wideL n.b ++ L n.qm ++ L n.qs ++ [IntKind.u8.wrap n.qz] ++ [IntKind.u8.wrap n.lo] ++ [IntKind.u8.wrap n.hi]).length ≤ 1000000 := by (try simp only [List.nil_append, List.length_append]); omega
  clear q0 q1 q2 q3 q4 q5 q6 q7 q8 q9 q10 q11 q12
  have w5 : n.w.length ≤ 100000 := by omega
  have b5 : n.b.length ≤ 100000 := by omega
  have oz0 := @tells_3 (n.kd) hk
  have oz1 := @VM.pre _ _ ([AV.lit (Value.slice none 0 0), i64 n.kd]) _ ([]) _ _ _ ([GI.nils 0 950 5 1, GI.sort]) _ (@rput_1 ([]) (L) (n.kd) (by (simp; done)) hL) (by kernel_rfl) (.n)
  have oz2 := @rput_1 ([] ++ L n.kd) (L) (n.na) bu0 hL
  have oz3 := (show (0 : Int) ≤ (0 : Int) by omega)
  have oz4 := (show (0 : Int) < (↑(6 : Nat) : Int) by omega)
  have oz5 := (show [[bv false], [bv false], [bv true], [bv true], [bv true], [bv true]][(0 : Nat)]? = some [bv false] from rfl)
  have oz6 := (show false = false by with_reducible rfl)
  have oz7 := (show (0 : Int) ≤ (1 : Int) by omega)
  have oz8 := (show (1 : Int) < (↑(6 : Nat) : Int) by omega)
  have oz9 := (show [[bv false], [bv false], [bv true], [bv true], [bv true], [bv true]][(1 : Nat)]? = some [bv false] from rfl)
  have oz21 := (show [[bv false], [bv false], [bv true], [bv true], [bv true], [bv true]][(2 : Nat)]? = some [bv true] from rfl)
  have oz22 := (show true = true by with_reducible rfl)
  have oz23 := @rput_1 ([] ++ L n.kd ++ L n.na) (L) (n.no) bu1 hL
  have oz26 := (show [[bv false], [bv false], [bv true], [bv true], [bv true], [bv true]][(3 : Nat)]? = some [bv true] from rfl)
  have oz36 := (show [[bv false], [bv false], [bv true], [bv true], [bv true], [bv true]][(4 : Nat)]? = some [bv true] from rfl)
  have oz38 := @VM.pre _ _ ([AV.own 950, AV.sl 1 (List.map (row1 IntKind.i8) n.w), AV.sl 1 (List.map (row1 IntKind.i32) n.b)]) _ ([(950, Blk.slc 5 1 (List.map (row1 IntKind.u8) ([] ++ L n.kd ++ L n.na ++ L n.no) ++ [[u8 (IntKind.u8.wrap n.za)]]))]) _ _ _ ([GI.blk 950 (Blk.slc 5 1 (List.map (row1 IntKind.u8) ([] ++ L n.kd ++ L n.na ++ L n.no ++ [IntKind.u8.wrap n.za]))), GI.sort]) _ (@rlists_v ([] ++ L n.kd ++ L n.na ++ L n.no ++ [IntKind.u8.wrap n.za]) (L) (n.w) (n.b) bu3 hL w5 hb hx) (by kernel_rfl) (.c (BlkW.rows (e := 5) (z := 1) (rows_to (row1 IntKind.u8) (r := List.map (row1 IntKind.u8) ([] ++ L n.kd ++ L n.na ++ L n.no) ++ [[u8 (IntKind.u8.wrap n.za)]]) (l := [] ++ L n.kd ++ L n.na ++ L n.no ++ [IntKind.u8.wrap n.za]) (m := [] ++ L n.kd ++ L n.na ++ L n.no ++ [IntKind.u8.wrap n.za]) (by first | (simp only [List.map_append, List.map_cons, List.map_nil, List.map_set, List.map_replicate, List.map_take, List.map_drop]; done) | rfl | (simp only [List.map_append, List.map_cons, List.map_nil, List.map_set, List.map_replicate, List.map_take, List.map_drop]; rfl)) rfl)) <| .n)
  have oz41 := (show [[bv false], [bv false], [bv true], [bv true], [bv true], [bv true]][(5 : Nat)]? = some [bv true] from rfl)
  have oz44 := @rput_1 ([] ++ L n.kd ++ L n.na ++ L n.no ++ [IntKind.u8.wrap n.za] ++ L (↑n.w.length : Int) ++ smallL n.w ++ L (↑n.b.length : Int) ++ wideL n.b) (L) (n.qm) bu7 hL
  have oz45 := @rput_1 ([] ++ L n.kd ++ L n.na ++ L n.no ++ [IntKind.u8.wrap n.za] ++ L (↑n.w.length : Int) ++ smallL n.w ++ L (↑n.b.length : Int) ++ wideL n.b ++ L n.qm) (L) (n.qs) bu8 hL
  exact (VC.run (fn := Try.f107) (W := [.r [] [], .r [] [.callr (rO oz0)], .r [] [.callm [] [(951, 20000)] (rM oz1) (oM oz1), .callm [(20000, 950)] [(951, 20001)] (rM oz2) (oM oz2)], .r [] [.row (sO oz5)], .br false, .r [] [.row (sO oz5)], .br false, .r [] [.row (sO oz5), .br true, .br true, .br true, .br false], .br false, .r [] [.row (sO oz21)], .br true, .r [] [.callm [(20001, 950)] [(951, 20002)] (rM oz23) (oM oz23)], .r [] [.row (sO oz26)], .br true, .r [] [.w], .r [] [.row (sO oz5)], .br false, .r [] [.row (sO oz36)], .br true, .r [] [.callm [(53, 950)] [(951, 20003)] (rM oz38) (oM oz38)], .r [] [.row (sO oz41)], .br true, .r [] [.n n.qm, .callm [(20003, 950)] [(951, 20004)] (rM oz44) (oM oz44), .callm [(20004, 950)] [(951, 20005)] (rM oz45) (oM oz45), .w], .r [] [.row (sO oz5)], .br false, .r [] [.w, .w], .r [] []]) (r := AV.sl 1 (List.map (row1 IntKind.u8) ([] ++ L n.kd ++ L n.na ++ L n.no ++ [IntKind.u8.wrap n.za] ++ L (↑n.w.length : Int) ++ smallL n.w ++ L (↑n.b.length : Int) ++ wideL n.b ++ L n.qm ++ L n.qs) ++ [[u8 (IntKind.u8.wrap n.qz)]] ++ [[u8 (IntKind.u8.wrap n.lo)], [u8 (IntKind.u8.wrap n.hi)]])) Try.func107 (by kernel_rfl) (.c oz0 <| .c oz1 <| .c oz2 <| .c oz3 <| .c oz4 <| .c oz5 <| .c oz6 <| .c oz7 <| .c oz8 <| .c oz9 <| .c oz6 <| .c oz7 <| .c oz8 <| .c oz9 <| .c oz6 <| .c oz6 <| .c oz6 <| .c oz6 <| .c (show (n.kd == 8) = false by (refine decide_eq_false ?_; omega)) <| .c (show (0 : Int) ≤ (2 : Int) by omega) <| .c (show (2 : Int) < (↑(6 : Nat) : Int) by omega) <| .c oz21 <| .c oz22 <| .c oz23 <| .c (show (0 : Int) ≤ (3 : Int) by omega) <| .c (show (3 : Int) < (↑(6 : Nat) : Int) by omega) <| .c oz26 <| .c oz22 <| .c (show ((List.map (row1 IntKind.u8) ([] ++ L n.kd ++ L n.na ++ L n.no)).length + 1) * 1 ≤ 140737488355328 by (simp only [List.length_map] at *; omega)) <| .c (show (List.map (row1 IntKind.u8) ([] ++ L n.kd ++ L n.na ++ L n.no)).length + 1 ≤ 9223372036854775807 by (simp only [List.length_map] at *; omega)) <| .c oz3 <| .c oz4 <| .c oz5 <| .c oz6 <| .c (show (0 : Int) ≤ (4 : Int) by omega) <| .c (show (4 : Int) < (↑(6 : Nat) : Int) by omega) <| .c oz36 <| .c oz22 <| .c oz38 <| .c (show (0 : Int) ≤ (5 : Int) by omega) <| .c (show (5 : Int) < (↑(6 : Nat) : Int) by omega) <| .c oz41 <| .c oz22 <| .c (IntWalk.i64_in n.qm (by omega)) <| .c oz44 <| .c oz45 <| .c (show ((List.map (row1 IntKind.u8) ([] ++ L n.kd ++ L n.na ++ L n.no ++ [IntKind.u8.wrap n.za] ++ L (↑n.w.length : Int) ++ smallL n.w ++ L (↑n.b.length : Int) ++ wideL n.b ++ L n.qm ++ L n.qs)).length + 1) * 1 ≤ 140737488355328 by (simp only [List.length_map] at *; omega)) <| .c (show (List.map (row1 IntKind.u8) ([] ++ L n.kd ++ L n.na ++ L n.no ++ [IntKind.u8.wrap n.za] ++ L (↑n.w.length : Int) ++ smallL n.w ++ L (↑n.b.length : Int) ++ wideL n.b ++ L n.qm ++ L n.qs)).length + 1 ≤ 9223372036854775807 by (simp only [List.length_map] at *; omega)) <| .c oz3 <| .c oz4 <| .c oz5 <| .c oz6 <| .c (show ((List.map (row1 IntKind.u8) ([] ++ L n.kd ++ L n.na ++ L n.no ++ [IntKind.u8.wrap n.za] ++ L (↑n.w.length : Int) ++ smallL n.w ++ L (↑n.b.length : Int) ++ wideL n.b ++ L n.qm ++ L n.qs) ++ [[u8 (IntKind.u8.wrap n.qz)]]).length + 2) * 1 ≤ 140737488355328 by (simp at *; omega)) <| .c (show (List.map (row1 IntKind.u8) ([] ++ L n.kd ++ L n.na ++ L n.no ++ [IntKind.u8.wrap n.za] ++ L (↑n.w.length : Int) ++ smallL n.w ++ L (↑n.b.length : Int) ++ wideL n.b ++ L n.qm ++ L n.qs) ++ [[u8 (IntKind.u8.wrap n.qz)]]).length + 2 ≤ 9223372036854775807 by (simp at *; omega)) <| .n)).weak (WeakL.refl _) (Weak.rows (rows_to (row1 IntKind.u8) (r := List.map (row1 IntKind.u8) ([] ++ L n.kd ++ L n.na ++ L n.no ++ [IntKind.u8.wrap n.za] ++ L (↑n.w.length : Int) ++ smallL n.w ++ L (↑n.b.length : Int) ++ wideL n.b ++ L n.qm ++ L n.qs) ++ [[u8 (IntKind.u8.wrap n.qz)]] ++ [[u8 (IntKind.u8.wrap n.lo)], [u8 (IntKind.u8.wrap n.hi)]]) (l := [] ++ L n.kd ++ L n.na ++ L n.no ++ [IntKind.u8.wrap n.za] ++ L (↑n.w.length : Int) ++ smallL n.w ++ L (↑n.b.length : Int) ++ wideL n.b ++ L n.qm ++ L n.qs ++ [IntKind.u8.wrap n.qz] ++ [IntKind.u8.wrap n.lo, IntKind.u8.wrap n.hi]) (m := L n.kd ++ L n.na ++ L n.no ++ [IntKind.u8.wrap n.za] ++ L (↑n.w.length : Int) ++ smallL n.w ++ L (↑n.b.length : Int) ++ wideL n.b ++ L n.qm ++ L n.qs ++ [IntKind.u8.wrap n.qz] ++ [IntKind.u8.wrap n.lo] ++ [IntKind.u8.wrap n.hi]) (by first | (simp only [List.map_append, List.map_cons, List.map_nil, List.map_set, List.map_replicate, List.map_take, List.map_drop]; done) | rfl | (simp only [List.map_append, List.map_cons, List.map_nil, List.map_set, List.map_replicate, List.map_take, List.map_drop]; rfl)) (show ([] ++ L n.kd ++ L n.na ++ L n.no ++ [IntKind.u8.wrap n.za] ++ L (↑n.w.length : Int) ++ smallL n.w ++ L (↑n.b.length : Int) ++ wideL n.b ++ L n.qm ++ L n.qs ++ [IntKind.u8.wrap n.qz] ++ [IntKind.u8.wrap n.lo, IntKind.u8.wrap n.hi]) = (L n.kd ++ L n.na ++ L n.no ++ [IntKind.u8.wrap n.za] ++ L (↑n.w.length : Int) ++ smallL n.w ++ L (↑n.b.length : Int) ++ wideL n.b ++ L n.qm ++ L n.qs ++ [IntKind.u8.wrap n.qz] ++ [IntKind.u8.wrap n.lo] ++ [IntKind.u8.wrap n.hi]) from (by (simp; done)))))
theorem rbytes_4 (L : Int → List Int) (n : Nod) (hL : RPuts L) (hk : n.kd = 4 ∨ n.kd = 5) (hw : n.w.length ≤ 16384) (hb : n.b.length ≤ 16384) (hx : ∀ x ∈ n.b, -2147483648 ≤ x ∧ x ≤ 2147483647) (hq : In32 n.qm) (hr : In32 n.rm) : VC Try.prog 107 ([nod n]) (.sl 1 ((L n.kd ++ L n.na ++ L n.nk ++ L n.ns ++ L n.np).map (row1 .u8))) := by
  have q0 := hL.l n.kd
  have q1 := hL.l n.na
  have q2 := hL.l n.nk
  have q3 := hL.l n.ns
  have q4 := hL.l n.np
  have bu0 : ([] ++ L n.kd).length ≤ 1000000 := by (try simp only [List.nil_append, List.length_append]); omega
  have bu1 : ([] ++ L n.kd ++ L n.na).length ≤ 1000000 := by (try simp only [List.nil_append, List.length_append]); omega
  have bu2 : ([] ++ L n.kd ++ L n.na ++ L n.nk).length ≤ 1000000 := by (try simp only [List.nil_append, List.length_append]); omega
  have bu3 : ([] ++ L n.kd ++ L n.na ++ L n.nk ++ L n.ns).length ≤ 1000000 := by (try simp only [List.nil_append, List.length_append]); omega
  have bu4 : ([] ++ L n.kd ++ L n.na ++ L n.nk ++ L n.ns ++ L n.np).length ≤ 1000000 := by (try simp only [List.nil_append, List.length_append]); omega
  clear q0 q1 q2 q3 q4
  have w5 : n.w.length ≤ 100000 := by omega
  have b5 : n.b.length ≤ 100000 := by omega
  have oz0 := @tells_4 (n.kd) hk
  have oz1 := @VM.pre _ _ ([AV.lit (Value.slice none 0 0), i64 n.kd]) _ ([]) _ _ _ ([GI.nils 0 950 5 1, GI.sort]) _ (@rput_1 ([]) (L) (n.kd) (by (simp; done)) hL) (by kernel_rfl) (.n)
  have oz2 := @rput_1 ([] ++ L n.kd) (L) (n.na) bu0 hL
  have oz3 := (show (0 : Int) ≤ (0 : Int) by omega)
  have oz4 := (show (0 : Int) < (↑(6 : Nat) : Int) by omega)
  have oz5 := (show [[bv false], [bv true], [bv false], [bv false], [bv false], [bv false]][(0 : Nat)]? = some [bv false] from rfl)
  have oz6 := (show false = false by with_reducible rfl)
  have oz7 := (show (0 : Int) ≤ (1 : Int) by omega)
  have oz8 := (show (1 : Int) < (↑(6 : Nat) : Int) by omega)
  have oz9 := (show [[bv false], [bv true], [bv false], [bv false], [bv false], [bv false]][(1 : Nat)]? = some [bv true] from rfl)
  have oz10 := (show true = true by with_reducible rfl)
  have oz11 := @rput_1 ([] ++ L n.kd ++ L n.na) (L) (n.nk) bu1 hL
  have oz12 := @rput_1 ([] ++ L n.kd ++ L n.na ++ L n.nk) (L) (n.ns) bu2 hL
  have oz16 := (show true = !false by (simp; done))
  have oz21 := @rput_1 ([] ++ L n.kd ++ L n.na ++ L n.nk ++ L n.ns) (L) (n.np) bu3 hL
  have oz24 := (show [[bv false], [bv true], [bv false], [bv false], [bv false], [bv false]][(2 : Nat)]? = some [bv false] from rfl)
  have oz28 := (show [[bv false], [bv true], [bv false], [bv false], [bv false], [bv false]][(3 : Nat)]? = some [bv false] from rfl)
  have oz36 := (show [[bv false], [bv true], [bv false], [bv false], [bv false], [bv false]][(4 : Nat)]? = some [bv false] from rfl)
  have oz40 := (show [[bv false], [bv true], [bv false], [bv false], [bv false], [bv false]][(5 : Nat)]? = some [bv false] from rfl)
  exact (VC.run (fn := Try.f107) (W := [.r [] [], .r [] [.callr (rO oz0)], .r [] [.callm [] [(951, 20000)] (rM oz1) (oM oz1), .callm [(20000, 950)] [(951, 20001)] (rM oz2) (oM oz2)], .r [] [.row (sO oz5)], .br false, .r [] [.row (sO oz9)], .br true, .r [] [.callm [(20001, 950)] [(951, 20002)] (rM oz11) (oM oz11), .callm [(20002, 950)] [(951, 20003)] (rM oz12) (oM oz12)], .r [] [.row (sO oz9), .br false, .br false, .br false, .br true], .br true, .r [] [.callm [(20003, 950)] [(951, 20004)] (rM oz21) (oM oz21)], .r [] [.row (sO oz24)], .br false, .r [] [.row (sO oz24)], .br false, .r [] [.row (sO oz24)], .br false, .r [] [.row (sO oz24)], .br false, .r [] [.row (sO oz24)], .br false, .r [] []]) (r := AV.sl 1 (List.map (row1 IntKind.u8) ([] ++ L n.kd ++ L n.na ++ L n.nk ++ L n.ns ++ L n.np))) Try.func107 (by kernel_rfl) (.c oz0 <| .c oz1 <| .c oz2 <| .c oz3 <| .c oz4 <| .c oz5 <| .c oz6 <| .c oz7 <| .c oz8 <| .c oz9 <| .c oz10 <| .c oz11 <| .c oz12 <| .c oz7 <| .c oz8 <| .c oz9 <| .c oz16 <| .c oz16 <| .c oz16 <| .c oz10 <| .c oz10 <| .c oz21 <| .c (show (0 : Int) ≤ (2 : Int) by omega) <| .c (show (2 : Int) < (↑(6 : Nat) : Int) by omega) <| .c oz24 <| .c oz6 <| .c (show (0 : Int) ≤ (3 : Int) by omega) <| .c (show (3 : Int) < (↑(6 : Nat) : Int) by omega) <| .c oz28 <| .c oz6 <| .c oz3 <| .c oz4 <| .c oz5 <| .c oz6 <| .c (show (0 : Int) ≤ (4 : Int) by omega) <| .c (show (4 : Int) < (↑(6 : Nat) : Int) by omega) <| .c oz36 <| .c oz6 <| .c (show (0 : Int) ≤ (5 : Int) by omega) <| .c (show (5 : Int) < (↑(6 : Nat) : Int) by omega) <| .c oz40 <| .c oz6 <| .n)).weak (WeakL.refl _) (Weak.rows (rows_to (row1 IntKind.u8) (r := List.map (row1 IntKind.u8) ([] ++ L n.kd ++ L n.na ++ L n.nk ++ L n.ns ++ L n.np)) (l := [] ++ L n.kd ++ L n.na ++ L n.nk ++ L n.ns ++ L n.np) (m := L n.kd ++ L n.na ++ L n.nk ++ L n.ns ++ L n.np) rfl (show ([] ++ L n.kd ++ L n.na ++ L n.nk ++ L n.ns ++ L n.np) = (L n.kd ++ L n.na ++ L n.nk ++ L n.ns ++ L n.np) from (by (simp; done)))))
theorem rbytes_6 (L : Int → List Int) (n : Nod) (hL : RPuts L) (hk : n.kd = 6) (hw : n.w.length ≤ 16384) (hb : n.b.length ≤ 16384) (hx : ∀ x ∈ n.b, -2147483648 ≤ x ∧ x ≤ 2147483647) (hq : In32 n.qm) (hr : In32 n.rm) : VC Try.prog 107 ([nod n]) (.sl 1 ((L n.kd ++ L n.na ++ L n.nb ++ [IntKind.u8.wrap n.za] ++ [IntKind.u8.wrap n.zb] ++ L n.qm ++ L n.qs ++ [IntKind.u8.wrap n.qz] ++ L n.rm ++ L n.rs ++ [IntKind.u8.wrap n.lo] ++ [IntKind.u8.wrap n.hi]).map (row1 .u8))) := by
  have q0 := hL.l n.kd
  have q1 := hL.l n.na
  have q2 := hL.l n.nb
  have q3 : ([IntKind.u8.wrap n.za]).length = 1 := rfl
  have q4 : ([IntKind.u8.wrap n.zb]).length = 1 := rfl
  have q5 := hL.l n.qm
  have q6 := hL.l n.qs
  have q7 : ([IntKind.u8.wrap n.qz]).length = 1 := rfl
  have q8 := hL.l n.rm
  have q9 := hL.l n.rs
  have q10 : ([IntKind.u8.wrap n.lo]).length = 1 := rfl
  have q11 : ([IntKind.u8.wrap n.hi]).length = 1 := rfl
  have bu0 : ([] ++ L n.kd).length ≤ 1000000 := by (try simp only [List.nil_append, List.length_append]); omega
  have bu1 : ([] ++ L n.kd ++ L n.na).length ≤ 1000000 := by (try simp only [List.nil_append, List.length_append]); omega
  have bu2 : ([] ++ L n.kd ++ L n.na ++ L n.nb).length ≤ 1000000 := by (try simp only [List.nil_append, List.length_append]); omega
  have bu3 : ([] ++ L n.kd ++ L n.na ++ L n.nb ++ [IntKind.u8.wrap n.za]).length ≤ 1000000 := by (try simp only [List.nil_append, List.length_append]); omega
  have bu4 : ([] ++ L n.kd ++ L n.na ++ L n.nb ++ [IntKind.u8.wrap n.za] ++ [IntKind.u8.wrap n.zb]).length ≤ 1000000 := by (try simp only [List.nil_append, List.length_append]); omega
  have bu5 : ([] ++ L n.kd ++ L n.na ++ L n.nb ++ [IntKind.u8.wrap n.za] ++ [IntKind.u8.wrap n.zb] ++ L n.qm).length ≤ 1000000 := by (try simp only [List.nil_append, List.length_append]); omega
  have bu6 : ([] ++ L n.kd ++ L n.na ++ L n.nb ++ [IntKind.u8.wrap n.za] ++ [IntKind.u8.wrap n.zb] ++ L n.qm ++ L n.qs).length ≤ 1000000 := by (try simp only [List.nil_append, List.length_append]); omega
  have bu7 : ([] ++ L n.kd ++ L n.na ++ L n.nb ++ [IntKind.u8.wrap n.za] ++ [IntKind.u8.wrap n.zb] ++ L n.qm ++ L n.qs ++ [IntKind.u8.wrap n.qz]).length ≤ 1000000 := by (try simp only [List.nil_append, List.length_append]); omega
  have bu8 : ([] ++ L n.kd ++ L n.na ++ L n.nb ++ [IntKind.u8.wrap n.za] ++ [IntKind.u8.wrap n.zb] ++ L n.qm ++ L n.qs ++ [IntKind.u8.wrap n.qz] ++ L n.rm).length ≤ 1000000 := by (try simp only [List.nil_append, List.length_append]); omega
  have bu9 : ([] ++ L n.kd ++ L n.na ++ L n.nb ++ [IntKind.u8.wrap n.za] ++ [IntKind.u8.wrap n.zb] ++ L n.qm ++ L n.qs ++ [IntKind.u8.wrap n.qz] ++ L n.rm ++ L n.rs).length ≤ 1000000 := by (try simp only [List.nil_append, List.length_append]); omega
  have bu10 : ([] ++ L n.kd ++ L n.na ++ L n.nb ++ [IntKind.u8.wrap n.za] ++ [IntKind.u8.wrap n.zb] ++ L n.qm ++ L n.qs ++ [IntKind.u8.wrap n.qz] ++ L n.rm ++ L n.rs ++ [IntKind.u8.wrap n.lo]).length ≤ 1000000 := by (try simp only [List.nil_append, List.length_append]); omega
  have bu11 : ([] ++ L n.kd ++ L n.na ++ L n.nb ++ [IntKind.u8.wrap n.za] ++ [IntKind.u8.wrap n.zb] ++ L n.qm ++ L n.qs ++ [IntKind.u8.wrap n.qz] ++ L n.rm ++ L n.rs ++ [IntKind.u8.wrap n.lo] ++ [IntKind.u8.wrap n.hi]).length ≤ 1000000 := by (try simp only [List.nil_append, List.length_append]); omega
  clear q0 q1 q2 q3 q4 q5 q6 q7 q8 q9 q10 q11
  have w5 : n.w.length ≤ 100000 := by omega
  have b5 : n.b.length ≤ 100000 := by omega
  have oz0 := @tells_6 (n.kd) hk
  have oz1 := @VM.pre _ _ ([AV.lit (Value.slice none 0 0), i64 n.kd]) _ ([]) _ _ _ ([GI.nils 0 950 5 1, GI.sort]) _ (@rput_1 ([]) (L) (n.kd) (by (simp; done)) hL) (by kernel_rfl) (.n)
  have oz2 := @rput_1 ([] ++ L n.kd) (L) (n.na) bu0 hL
  have oz3 := (show (0 : Int) ≤ (0 : Int) by omega)
  have oz4 := (show (0 : Int) < (↑(6 : Nat) : Int) by omega)
  have oz5 := (show [[bv true], [bv false], [bv false], [bv true], [bv false], [bv true]][(0 : Nat)]? = some [bv true] from rfl)
  have oz6 := (show true = true by with_reducible rfl)
  have oz7 := @rput_1 ([] ++ L n.kd ++ L n.na) (L) (n.nb) bu1 hL
  have oz8 := (show (0 : Int) ≤ (1 : Int) by omega)
  have oz9 := (show (1 : Int) < (↑(6 : Nat) : Int) by omega)
  have oz10 := (show [[bv true], [bv false], [bv false], [bv true], [bv false], [bv true]][(1 : Nat)]? = some [bv false] from rfl)
  have oz11 := (show false = false by with_reducible rfl)
  have oz22 := (show [[bv true], [bv false], [bv false], [bv true], [bv false], [bv true]][(2 : Nat)]? = some [bv false] from rfl)
  have oz26 := (show [[bv true], [bv false], [bv false], [bv true], [bv false], [bv true]][(3 : Nat)]? = some [bv true] from rfl)
  have oz38 := (show [[bv true], [bv false], [bv false], [bv true], [bv false], [bv true]][(4 : Nat)]? = some [bv false] from rfl)
  have oz42 := (show [[bv true], [bv false], [bv false], [bv true], [bv false], [bv true]][(5 : Nat)]? = some [bv true] from rfl)
  have oz45 := @VM.pre _ _ ([AV.own 950, i64 n.qm]) _ ([(950, Blk.slc 5 1 (List.map (row1 IntKind.u8) ([] ++ L n.kd ++ L n.na ++ L n.nb) ++ [[u8 (IntKind.u8.wrap n.za)]] ++ [[u8 (IntKind.u8.wrap n.zb)]]))]) _ _ _ ([GI.blk 950 (Blk.slc 5 1 (List.map (row1 IntKind.u8) ([] ++ L n.kd ++ L n.na ++ L n.nb ++ [IntKind.u8.wrap n.za] ++ [IntKind.u8.wrap n.zb]))), GI.sort]) _ (@rput_1 ([] ++ L n.kd ++ L n.na ++ L n.nb ++ [IntKind.u8.wrap n.za] ++ [IntKind.u8.wrap n.zb]) (L) (n.qm) bu4 hL) (by kernel_rfl) (.c (BlkW.rows (e := 5) (z := 1) (rows_to (row1 IntKind.u8) (r := List.map (row1 IntKind.u8) ([] ++ L n.kd ++ L n.na ++ L n.nb) ++ [[u8 (IntKind.u8.wrap n.za)]] ++ [[u8 (IntKind.u8.wrap n.zb)]]) (l := [] ++ L n.kd ++ L n.na ++ L n.nb ++ [IntKind.u8.wrap n.za] ++ [IntKind.u8.wrap n.zb]) (m := [] ++ L n.kd ++ L n.na ++ L n.nb ++ [IntKind.u8.wrap n.za] ++ [IntKind.u8.wrap n.zb]) (by first | (simp only [List.map_append, List.map_cons, List.map_nil, List.map_set, List.map_replicate, List.map_take, List.map_drop]; done) | rfl | (simp only [List.map_append, List.map_cons, List.map_nil, List.map_set, List.map_replicate, List.map_take, List.map_drop]; rfl)) rfl)) <| .n)
  have oz46 := @rput_1 ([] ++ L n.kd ++ L n.na ++ L n.nb ++ [IntKind.u8.wrap n.za] ++ [IntKind.u8.wrap n.zb] ++ L n.qm) (L) (n.qs) bu5 hL
  have oz54 := @VM.pre _ _ ([AV.own 950, i64 n.rm]) _ ([(950, Blk.slc 5 1 (List.map (row1 IntKind.u8) ([] ++ L n.kd ++ L n.na ++ L n.nb ++ [IntKind.u8.wrap n.za] ++ [IntKind.u8.wrap n.zb] ++ L n.qm ++ L n.qs) ++ [[u8 (IntKind.u8.wrap n.qz)]]))]) _ _ _ ([GI.blk 950 (Blk.slc 5 1 (List.map (row1 IntKind.u8) ([] ++ L n.kd ++ L n.na ++ L n.nb ++ [IntKind.u8.wrap n.za] ++ [IntKind.u8.wrap n.zb] ++ L n.qm ++ L n.qs ++ [IntKind.u8.wrap n.qz]))), GI.sort]) _ (@rput_1 ([] ++ L n.kd ++ L n.na ++ L n.nb ++ [IntKind.u8.wrap n.za] ++ [IntKind.u8.wrap n.zb] ++ L n.qm ++ L n.qs ++ [IntKind.u8.wrap n.qz]) (L) (n.rm) bu7 hL) (by kernel_rfl) (.c (BlkW.rows (e := 5) (z := 1) (rows_to (row1 IntKind.u8) (r := List.map (row1 IntKind.u8) ([] ++ L n.kd ++ L n.na ++ L n.nb ++ [IntKind.u8.wrap n.za] ++ [IntKind.u8.wrap n.zb] ++ L n.qm ++ L n.qs) ++ [[u8 (IntKind.u8.wrap n.qz)]]) (l := [] ++ L n.kd ++ L n.na ++ L n.nb ++ [IntKind.u8.wrap n.za] ++ [IntKind.u8.wrap n.zb] ++ L n.qm ++ L n.qs ++ [IntKind.u8.wrap n.qz]) (m := [] ++ L n.kd ++ L n.na ++ L n.nb ++ [IntKind.u8.wrap n.za] ++ [IntKind.u8.wrap n.zb] ++ L n.qm ++ L n.qs ++ [IntKind.u8.wrap n.qz]) (by first | (simp only [List.map_append, List.map_cons, List.map_nil, List.map_set, List.map_replicate, List.map_take, List.map_drop]; done) | rfl | (simp only [List.map_append, List.map_cons, List.map_nil, List.map_set, List.map_replicate, List.map_take, List.map_drop]; rfl)) rfl)) <| .n)
  have oz55 := @rput_1 ([] ++ L n.kd ++ L n.na ++ L n.nb ++ [IntKind.u8.wrap n.za] ++ [IntKind.u8.wrap n.zb] ++ L n.qm ++ L n.qs ++ [IntKind.u8.wrap n.qz] ++ L n.rm) (L) (n.rs) bu8 hL
  exact (VC.run (fn := Try.f107) (W := [.r [] [], .r [] [.callr (rO oz0)], .r [] [.callm [] [(951, 20000)] (rM oz1) (oM oz1), .callm [(20000, 950)] [(951, 20001)] (rM oz2) (oM oz2)], .r [] [.row (sO oz5)], .br true, .r [] [.callm [(20001, 950)] [(951, 20002)] (rM oz7) (oM oz7)], .r [] [.row (sO oz10)], .br false, .r [] [.row (sO oz10), .br true, .br true, .br true, .br false], .br false, .r [] [.row (sO oz10)], .br false, .r [] [.row (sO oz26)], .br true, .r [] [.w], .r [] [.row (sO oz26)], .br true, .r [] [.w], .r [] [.row (sO oz38)], .br false, .r [] [.row (sO oz42)], .br true, .r [] [.n n.qm, .callm [(61, 950)] [(951, 20003)] (rM oz45) (oM oz45), .callm [(20003, 950)] [(951, 20004)] (rM oz46) (oM oz46), .w], .r [] [.row (sO oz5)], .br true, .r [] [.n n.rm, .callm [(87, 950)] [(951, 20005)] (rM oz54) (oM oz54), .callm [(20005, 950)] [(951, 20006)] (rM oz55) (oM oz55)], .r [] [.w, .w], .r [] []]) (r := AV.sl 1 (List.map (row1 IntKind.u8) ([] ++ L n.kd ++ L n.na ++ L n.nb ++ [IntKind.u8.wrap n.za] ++ [IntKind.u8.wrap n.zb] ++ L n.qm ++ L n.qs ++ [IntKind.u8.wrap n.qz] ++ L n.rm ++ L n.rs) ++ [[u8 (IntKind.u8.wrap n.lo)], [u8 (IntKind.u8.wrap n.hi)]])) Try.func107 (by kernel_rfl) (.c oz0 <| .c oz1 <| .c oz2 <| .c oz3 <| .c oz4 <| .c oz5 <| .c oz6 <| .c oz7 <| .c oz8 <| .c oz9 <| .c oz10 <| .c oz11 <| .c oz8 <| .c oz9 <| .c oz10 <| .c oz11 <| .c oz11 <| .c oz11 <| .c oz11 <| .c (show (n.kd == 8) = false by (refine decide_eq_false ?_; omega)) <| .c (show (0 : Int) ≤ (2 : Int) by omega) <| .c (show (2 : Int) < (↑(6 : Nat) : Int) by omega) <| .c oz22 <| .c oz11 <| .c (show (0 : Int) ≤ (3 : Int) by omega) <| .c (show (3 : Int) < (↑(6 : Nat) : Int) by omega) <| .c oz26 <| .c oz6 <| .c (show ((List.map (row1 IntKind.u8) ([] ++ L n.kd ++ L n.na ++ L n.nb)).length + 1) * 1 ≤ 140737488355328 by (simp only [List.length_map] at *; omega)) <| .c (show (List.map (row1 IntKind.u8) ([] ++ L n.kd ++ L n.na ++ L n.nb)).length + 1 ≤ 9223372036854775807 by (simp only [List.length_map] at *; omega)) <| .c oz3 <| .c oz4 <| .c oz5 <| .c oz6 <| .c (show ((List.map (row1 IntKind.u8) ([] ++ L n.kd ++ L n.na ++ L n.nb) ++ [[u8 (IntKind.u8.wrap n.za)]]).length + 1) * 1 ≤ 140737488355328 by (simp at *; omega)) <| .c (show (List.map (row1 IntKind.u8) ([] ++ L n.kd ++ L n.na ++ L n.nb) ++ [[u8 (IntKind.u8.wrap n.za)]]).length + 1 ≤ 9223372036854775807 by (simp at *; omega)) <| .c (show (0 : Int) ≤ (4 : Int) by omega) <| .c (show (4 : Int) < (↑(6 : Nat) : Int) by omega) <| .c oz38 <| .c oz11 <| .c (show (0 : Int) ≤ (5 : Int) by omega) <| .c (show (5 : Int) < (↑(6 : Nat) : Int) by omega) <| .c oz42 <| .c oz6 <| .c (IntWalk.i64_in n.qm (by omega)) <| .c oz45 <| .c oz46 <| .c (show ((List.map (row1 IntKind.u8) ([] ++ L n.kd ++ L n.na ++ L n.nb ++ [IntKind.u8.wrap n.za] ++ [IntKind.u8.wrap n.zb] ++ L n.qm ++ L n.qs)).length + 1) * 1 ≤ 140737488355328 by (simp only [List.length_map] at *; omega)) <| .c (show (List.map (row1 IntKind.u8) ([] ++ L n.kd ++ L n.na ++ L n.nb ++ [IntKind.u8.wrap n.za] ++ [IntKind.u8.wrap n.zb] ++ L n.qm ++ L n.qs)).length + 1 ≤ 9223372036854775807 by (simp only [List.length_map] at *; omega)) <| .c oz3 <| .c oz4 <| .c oz5 <| .c oz6 <| .c (IntWalk.i64_in n.rm (by omega)) <| .c oz54 <| .c oz55 <| .c (show ((List.map (row1 IntKind.u8) ([] ++ L n.kd ++ L n.na ++ L n.nb ++ [IntKind.u8.wrap n.za] ++ [IntKind.u8.wrap n.zb] ++ L n.qm ++ L n.qs ++ [IntKind.u8.wrap n.qz] ++ L n.rm ++ L n.rs)).length + 2) * 1 ≤ 140737488355328 by (simp only [List.length_map] at *; omega)) <| .c (show (List.map (row1 IntKind.u8) ([] ++ L n.kd ++ L n.na ++ L n.nb ++ [IntKind.u8.wrap n.za] ++ [IntKind.u8.wrap n.zb] ++ L n.qm ++ L n.qs ++ [IntKind.u8.wrap n.qz] ++ L n.rm ++ L n.rs)).length + 2 ≤ 9223372036854775807 by (simp only [List.length_map] at *; omega)) <| .n)).weak (WeakL.refl _) (Weak.rows (rows_to (row1 IntKind.u8) (r := List.map (row1 IntKind.u8) ([] ++ L n.kd ++ L n.na ++ L n.nb ++ [IntKind.u8.wrap n.za] ++ [IntKind.u8.wrap n.zb] ++ L n.qm ++ L n.qs ++ [IntKind.u8.wrap n.qz] ++ L n.rm ++ L n.rs) ++ [[u8 (IntKind.u8.wrap n.lo)], [u8 (IntKind.u8.wrap n.hi)]]) (l := [] ++ L n.kd ++ L n.na ++ L n.nb ++ [IntKind.u8.wrap n.za] ++ [IntKind.u8.wrap n.zb] ++ L n.qm ++ L n.qs ++ [IntKind.u8.wrap n.qz] ++ L n.rm ++ L n.rs ++ [IntKind.u8.wrap n.lo, IntKind.u8.wrap n.hi]) (m := L n.kd ++ L n.na ++ L n.nb ++ [IntKind.u8.wrap n.za] ++ [IntKind.u8.wrap n.zb] ++ L n.qm ++ L n.qs ++ [IntKind.u8.wrap n.qz] ++ L n.rm ++ L n.rs ++ [IntKind.u8.wrap n.lo] ++ [IntKind.u8.wrap n.hi]) (by first | (simp only [List.map_append, List.map_cons, List.map_nil, List.map_set, List.map_replicate, List.map_take, List.map_drop]; done) | rfl | (simp only [List.map_append, List.map_cons, List.map_nil, List.map_set, List.map_replicate, List.map_take, List.map_drop]; rfl)) (show ([] ++ L n.kd ++ L n.na ++ L n.nb ++ [IntKind.u8.wrap n.za] ++ [IntKind.u8.wrap n.zb] ++ L n.qm ++ L n.qs ++ [IntKind.u8.wrap n.qz] ++ L n.rm ++ L n.rs ++ [IntKind.u8.wrap n.lo, IntKind.u8.wrap n.hi]) = (L n.kd ++ L n.na ++ L n.nb ++ [IntKind.u8.wrap n.za] ++ [IntKind.u8.wrap n.zb] ++ L n.qm ++ L n.qs ++ [IntKind.u8.wrap n.qz] ++ L n.rm ++ L n.rs ++ [IntKind.u8.wrap n.lo] ++ [IntKind.u8.wrap n.hi]) from (by (simp; done)))))
theorem rbytes_7 (L : Int → List Int) (n : Nod) (hL : RPuts L) (hk : n.kd = 7) (hw : n.w.length ≤ 16384) (hb : n.b.length ≤ 16384) (hx : ∀ x ∈ n.b, -2147483648 ≤ x ∧ x ≤ 2147483647) (hq : In32 n.qm) (hr : In32 n.rm) : VC Try.prog 107 ([nod n]) (.sl 1 ((L n.kd ++ L n.na ++ [IntKind.u8.wrap n.za] ++ L n.qm ++ L n.qs ++ [IntKind.u8.wrap n.qz] ++ [IntKind.u8.wrap n.lo] ++ [IntKind.u8.wrap n.hi]).map (row1 .u8))) := by
  have q0 := hL.l n.kd
  have q1 := hL.l n.na
  have q2 : ([IntKind.u8.wrap n.za]).length = 1 := rfl
  have q3 := hL.l n.qm
  have q4 := hL.l n.qs
  have q5 : ([IntKind.u8.wrap n.qz]).length = 1 := rfl
  have q6 : ([IntKind.u8.wrap n.lo]).length = 1 := rfl
  have q7 : ([IntKind.u8.wrap n.hi]).length = 1 := rfl
  have bu0 : ([] ++ L n.kd).length ≤ 1000000 := by (try simp only [List.nil_append, List.length_append]); omega
  have bu1 : ([] ++ L n.kd ++ L n.na).length ≤ 1000000 := by (try simp only [List.nil_append, List.length_append]); omega
  have bu2 : ([] ++ L n.kd ++ L n.na ++ [IntKind.u8.wrap n.za]).length ≤ 1000000 := by (try simp only [List.nil_append, List.length_append]); omega
  have bu3 : ([] ++ L n.kd ++ L n.na ++ [IntKind.u8.wrap n.za] ++ L n.qm).length ≤ 1000000 := by (try simp only [List.nil_append, List.length_append]); omega
  have bu4 : ([] ++ L n.kd ++ L n.na ++ [IntKind.u8.wrap n.za] ++ L n.qm ++ L n.qs).length ≤ 1000000 := by (try simp only [List.nil_append, List.length_append]); omega
  have bu5 : ([] ++ L n.kd ++ L n.na ++ [IntKind.u8.wrap n.za] ++ L n.qm ++ L n.qs ++ [IntKind.u8.wrap n.qz]).length ≤ 1000000 := by (try simp only [List.nil_append, List.length_append]); omega
  have bu6 : ([] ++ L n.kd ++ L n.na ++ [IntKind.u8.wrap n.za] ++ L n.qm ++ L n.qs ++ [IntKind.u8.wrap n.qz] ++ [IntKind.u8.wrap n.lo]).length ≤ 1000000 := by (try simp only [List.nil_append, List.length_append]); omega
  have bu7 : ([] ++ L n.kd ++ L n.na ++ [IntKind.u8.wrap n.za] ++ L n.qm ++ L n.qs ++ [IntKind.u8.wrap n.qz] ++ [IntKind.u8.wrap n.lo] ++ [IntKind.u8.wrap n.hi]).length ≤ 1000000 := by (try simp only [List.nil_append, List.length_append]); omega
  clear q0 q1 q2 q3 q4 q5 q6 q7
  have w5 : n.w.length ≤ 100000 := by omega
  have b5 : n.b.length ≤ 100000 := by omega
  have oz0 := @tells_7 (n.kd) hk
  have oz1 := @VM.pre _ _ ([AV.lit (Value.slice none 0 0), i64 n.kd]) _ ([]) _ _ _ ([GI.nils 0 950 5 1, GI.sort]) _ (@rput_1 ([]) (L) (n.kd) (by (simp; done)) hL) (by kernel_rfl) (.n)
  have oz2 := @rput_1 ([] ++ L n.kd) (L) (n.na) bu0 hL
  have oz3 := (show (0 : Int) ≤ (0 : Int) by omega)
  have oz4 := (show (0 : Int) < (↑(6 : Nat) : Int) by omega)
  have oz5 := (show [[bv false], [bv false], [bv false], [bv true], [bv false], [bv true]][(0 : Nat)]? = some [bv false] from rfl)
  have oz6 := (show false = false by with_reducible rfl)
  have oz7 := (show (0 : Int) ≤ (1 : Int) by omega)
  have oz8 := (show (1 : Int) < (↑(6 : Nat) : Int) by omega)
  have oz9 := (show [[bv false], [bv false], [bv false], [bv true], [bv false], [bv true]][(1 : Nat)]? = some [bv false] from rfl)
  have oz21 := (show [[bv false], [bv false], [bv false], [bv true], [bv false], [bv true]][(2 : Nat)]? = some [bv false] from rfl)
  have oz25 := (show [[bv false], [bv false], [bv false], [bv true], [bv false], [bv true]][(3 : Nat)]? = some [bv true] from rfl)
  have oz26 := (show true = true by with_reducible rfl)
  have oz35 := (show [[bv false], [bv false], [bv false], [bv true], [bv false], [bv true]][(4 : Nat)]? = some [bv false] from rfl)
  have oz39 := (show [[bv false], [bv false], [bv false], [bv true], [bv false], [bv true]][(5 : Nat)]? = some [bv true] from rfl)
  have oz42 := @VM.pre _ _ ([AV.own 950, i64 n.qm]) _ ([(950, Blk.slc 5 1 (List.map (row1 IntKind.u8) ([] ++ L n.kd ++ L n.na) ++ [[u8 (IntKind.u8.wrap n.za)]]))]) _ _ _ ([GI.blk 950 (Blk.slc 5 1 (List.map (row1 IntKind.u8) ([] ++ L n.kd ++ L n.na ++ [IntKind.u8.wrap n.za]))), GI.sort]) _ (@rput_1 ([] ++ L n.kd ++ L n.na ++ [IntKind.u8.wrap n.za]) (L) (n.qm) bu2 hL) (by kernel_rfl) (.c (BlkW.rows (e := 5) (z := 1) (rows_to (row1 IntKind.u8) (r := List.map (row1 IntKind.u8) ([] ++ L n.kd ++ L n.na) ++ [[u8 (IntKind.u8.wrap n.za)]]) (l := [] ++ L n.kd ++ L n.na ++ [IntKind.u8.wrap n.za]) (m := [] ++ L n.kd ++ L n.na ++ [IntKind.u8.wrap n.za]) (by first | (simp only [List.map_append, List.map_cons, List.map_nil, List.map_set, List.map_replicate, List.map_take, List.map_drop]; done) | rfl | (simp only [List.map_append, List.map_cons, List.map_nil, List.map_set, List.map_replicate, List.map_take, List.map_drop]; rfl)) rfl)) <| .n)
  have oz43 := @rput_1 ([] ++ L n.kd ++ L n.na ++ [IntKind.u8.wrap n.za] ++ L n.qm) (L) (n.qs) bu3 hL
  exact (VC.run (fn := Try.f107) (W := [.r [] [], .r [] [.callr (rO oz0)], .r [] [.callm [] [(951, 20000)] (rM oz1) (oM oz1), .callm [(20000, 950)] [(951, 20001)] (rM oz2) (oM oz2)], .r [] [.row (sO oz5)], .br false, .r [] [.row (sO oz5)], .br false, .r [] [.row (sO oz5), .br true, .br true, .br true, .br false], .br false, .r [] [.row (sO oz5)], .br false, .r [] [.row (sO oz25)], .br true, .r [] [.w], .r [] [.row (sO oz5)], .br false, .r [] [.row (sO oz5)], .br false, .r [] [.row (sO oz39)], .br true, .r [] [.n n.qm, .callm [(53, 950)] [(951, 20002)] (rM oz42) (oM oz42), .callm [(20002, 950)] [(951, 20003)] (rM oz43) (oM oz43), .w], .r [] [.row (sO oz5)], .br false, .r [] [.w, .w], .r [] []]) (r := AV.sl 1 (List.map (row1 IntKind.u8) ([] ++ L n.kd ++ L n.na ++ [IntKind.u8.wrap n.za] ++ L n.qm ++ L n.qs) ++ [[u8 (IntKind.u8.wrap n.qz)]] ++ [[u8 (IntKind.u8.wrap n.lo)], [u8 (IntKind.u8.wrap n.hi)]])) Try.func107 (by kernel_rfl) (.c oz0 <| .c oz1 <| .c oz2 <| .c oz3 <| .c oz4 <| .c oz5 <| .c oz6 <| .c oz7 <| .c oz8 <| .c oz9 <| .c oz6 <| .c oz7 <| .c oz8 <| .c oz9 <| .c oz6 <| .c oz6 <| .c oz6 <| .c oz6 <| .c (show (n.kd == 8) = false by (refine decide_eq_false ?_; omega)) <| .c (show (0 : Int) ≤ (2 : Int) by omega) <| .c (show (2 : Int) < (↑(6 : Nat) : Int) by omega) <| .c oz21 <| .c oz6 <| .c (show (0 : Int) ≤ (3 : Int) by omega) <| .c (show (3 : Int) < (↑(6 : Nat) : Int) by omega) <| .c oz25 <| .c oz26 <| .c (show ((List.map (row1 IntKind.u8) ([] ++ L n.kd ++ L n.na)).length + 1) * 1 ≤ 140737488355328 by (simp only [List.length_map] at *; omega)) <| .c (show (List.map (row1 IntKind.u8) ([] ++ L n.kd ++ L n.na)).length + 1 ≤ 9223372036854775807 by (simp only [List.length_map] at *; omega)) <| .c oz3 <| .c oz4 <| .c oz5 <| .c oz6 <| .c (show (0 : Int) ≤ (4 : Int) by omega) <| .c (show (4 : Int) < (↑(6 : Nat) : Int) by omega) <| .c oz35 <| .c oz6 <| .c (show (0 : Int) ≤ (5 : Int) by omega) <| .c (show (5 : Int) < (↑(6 : Nat) : Int) by omega) <| .c oz39 <| .c oz26 <| .c (IntWalk.i64_in n.qm (by omega)) <| .c oz42 <| .c oz43 <| .c (show ((List.map (row1 IntKind.u8) ([] ++ L n.kd ++ L n.na ++ [IntKind.u8.wrap n.za] ++ L n.qm ++ L n.qs)).length + 1) * 1 ≤ 140737488355328 by (simp only [List.length_map] at *; omega)) <| .c (show (List.map (row1 IntKind.u8) ([] ++ L n.kd ++ L n.na ++ [IntKind.u8.wrap n.za] ++ L n.qm ++ L n.qs)).length + 1 ≤ 9223372036854775807 by (simp only [List.length_map] at *; omega)) <| .c oz3 <| .c oz4 <| .c oz5 <| .c oz6 <| .c (show ((List.map (row1 IntKind.u8) ([] ++ L n.kd ++ L n.na ++ [IntKind.u8.wrap n.za] ++ L n.qm ++ L n.qs) ++ [[u8 (IntKind.u8.wrap n.qz)]]).length + 2) * 1 ≤ 140737488355328 by (simp at *; omega)) <| .c (show (List.map (row1 IntKind.u8) ([] ++ L n.kd ++ L n.na ++ [IntKind.u8.wrap n.za] ++ L n.qm ++ L n.qs) ++ [[u8 (IntKind.u8.wrap n.qz)]]).length + 2 ≤ 9223372036854775807 by (simp at *; omega)) <| .n)).weak (WeakL.refl _) (Weak.rows (rows_to (row1 IntKind.u8) (r := List.map (row1 IntKind.u8) ([] ++ L n.kd ++ L n.na ++ [IntKind.u8.wrap n.za] ++ L n.qm ++ L n.qs) ++ [[u8 (IntKind.u8.wrap n.qz)]] ++ [[u8 (IntKind.u8.wrap n.lo)], [u8 (IntKind.u8.wrap n.hi)]]) (l := [] ++ L n.kd ++ L n.na ++ [IntKind.u8.wrap n.za] ++ L n.qm ++ L n.qs ++ [IntKind.u8.wrap n.qz] ++ [IntKind.u8.wrap n.lo, IntKind.u8.wrap n.hi]) (m := L n.kd ++ L n.na ++ [IntKind.u8.wrap n.za] ++ L n.qm ++ L n.qs ++ [IntKind.u8.wrap n.qz] ++ [IntKind.u8.wrap n.lo] ++ [IntKind.u8.wrap n.hi]) (by first | (simp only [List.map_append, List.map_cons, List.map_nil, List.map_set, List.map_replicate, List.map_take, List.map_drop]; done) | rfl | (simp only [List.map_append, List.map_cons, List.map_nil, List.map_set, List.map_replicate, List.map_take, List.map_drop]; rfl)) (show ([] ++ L n.kd ++ L n.na ++ [IntKind.u8.wrap n.za] ++ L n.qm ++ L n.qs ++ [IntKind.u8.wrap n.qz] ++ [IntKind.u8.wrap n.lo, IntKind.u8.wrap n.hi]) = (L n.kd ++ L n.na ++ [IntKind.u8.wrap n.za] ++ L n.qm ++ L n.qs ++ [IntKind.u8.wrap n.qz] ++ [IntKind.u8.wrap n.lo] ++ [IntKind.u8.wrap n.hi]) from (by (simp; done)))))
theorem rbytes_8 (L : Int → List Int) (n : Nod) (hL : RPuts L) (hk : n.kd = 8) (hw : n.w.length ≤ 16384) (hb : n.b.length ≤ 16384) (hx : ∀ x ∈ n.b, -2147483648 ≤ x ∧ x ≤ 2147483647) (hq : In32 n.qm) (hr : In32 n.rm) : VC Try.prog 107 ([nod n]) (.sl 1 ((L n.kd ++ L n.na ++ L n.np ++ [IntKind.u8.wrap n.za]).map (row1 .u8))) := by
  have q0 := hL.l n.kd
  have q1 := hL.l n.na
  have q2 := hL.l n.np
  have q3 : ([IntKind.u8.wrap n.za]).length = 1 := rfl
  have bu0 : ([] ++ L n.kd).length ≤ 1000000 := by (try simp only [List.nil_append, List.length_append]); omega
  have bu1 : ([] ++ L n.kd ++ L n.na).length ≤ 1000000 := by (try simp only [List.nil_append, List.length_append]); omega
  have bu2 : ([] ++ L n.kd ++ L n.na ++ L n.np).length ≤ 1000000 := by (try simp only [List.nil_append, List.length_append]); omega
  have bu3 : ([] ++ L n.kd ++ L n.na ++ L n.np ++ [IntKind.u8.wrap n.za]).length ≤ 1000000 := by (try simp only [List.nil_append, List.length_append]); omega
  clear q0 q1 q2 q3
  have w5 : n.w.length ≤ 100000 := by omega
  have b5 : n.b.length ≤ 100000 := by omega
  have oz0 := @tells_8 (n.kd) hk
  have oz1 := @VM.pre _ _ ([AV.lit (Value.slice none 0 0), i64 n.kd]) _ ([]) _ _ _ ([GI.nils 0 950 5 1, GI.sort]) _ (@rput_1 ([]) (L) (n.kd) (by (simp; done)) hL) (by kernel_rfl) (.n)
  have oz2 := @rput_1 ([] ++ L n.kd) (L) (n.na) bu0 hL
  have oz3 := (show (0 : Int) ≤ (0 : Int) by omega)
  have oz4 := (show (0 : Int) < (↑(6 : Nat) : Int) by omega)
  have oz5 := (show [[bv false], [bv false], [bv false], [bv true], [bv false], [bv false]][(0 : Nat)]? = some [bv false] from rfl)
  have oz6 := (show false = false by with_reducible rfl)
  have oz7 := (show (0 : Int) ≤ (1 : Int) by omega)
  have oz8 := (show (1 : Int) < (↑(6 : Nat) : Int) by omega)
  have oz9 := (show [[bv false], [bv false], [bv false], [bv true], [bv false], [bv false]][(1 : Nat)]? = some [bv false] from rfl)
  have oz19 := @rput_1 ([] ++ L n.kd ++ L n.na) (L) (n.np) bu1 hL
  have oz22 := (show [[bv false], [bv false], [bv false], [bv true], [bv false], [bv false]][(2 : Nat)]? = some [bv false] from rfl)
  have oz26 := (show [[bv false], [bv false], [bv false], [bv true], [bv false], [bv false]][(3 : Nat)]? = some [bv true] from rfl)
  have oz36 := (show [[bv false], [bv false], [bv false], [bv true], [bv false], [bv false]][(4 : Nat)]? = some [bv false] from rfl)
  have oz40 := (show [[bv false], [bv false], [bv false], [bv true], [bv false], [bv false]][(5 : Nat)]? = some [bv false] from rfl)
  exact (VC.run (fn := Try.f107) (W := [.r [] [], .r [] [.callr (rO oz0)], .r [] [.callm [] [(951, 20000)] (rM oz1) (oM oz1), .callm [(20000, 950)] [(951, 20001)] (rM oz2) (oM oz2)], .r [] [.row (sO oz5)], .br false, .r [] [.row (sO oz5)], .br false, .r [] [.row (sO oz5), .br true, .br true, .br true, .br false], .br true, .r [] [.callm [(20001, 950)] [(951, 20002)] (rM oz19) (oM oz19)], .r [] [.row (sO oz22)], .br false, .r [] [.row (sO oz26)], .br true, .r [] [.w], .r [] [.row (sO oz5)], .br false, .r [] [.row (sO oz5)], .br false, .r [] [.row (sO oz5)], .br false, .r [] []]) (r := AV.sl 1 (List.map (row1 IntKind.u8) ([] ++ L n.kd ++ L n.na ++ L n.np) ++ [[u8 (IntKind.u8.wrap n.za)]])) Try.func107 (by kernel_rfl) (.c oz0 <| .c oz1 <| .c oz2 <| .c oz3 <| .c oz4 <| .c oz5 <| .c oz6 <| .c oz7 <| .c oz8 <| .c oz9 <| .c oz6 <| .c oz7 <| .c oz8 <| .c oz9 <| .c oz6 <| .c oz6 <| .c oz6 <| .c oz6 <| .c (show (n.kd == 8) = true by (refine decide_eq_true ?_; omega)) <| .c oz19 <| .c (show (0 : Int) ≤ (2 : Int) by omega) <| .c (show (2 : Int) < (↑(6 : Nat) : Int) by omega) <| .c oz22 <| .c oz6 <| .c (show (0 : Int) ≤ (3 : Int) by omega) <| .c (show (3 : Int) < (↑(6 : Nat) : Int) by omega) <| .c oz26 <| .c (show true = true by with_reducible rfl) <| .c (show ((List.map (row1 IntKind.u8) ([] ++ L n.kd ++ L n.na ++ L n.np)).length + 1) * 1 ≤ 140737488355328 by (simp only [List.length_map] at *; omega)) <| .c (show (List.map (row1 IntKind.u8) ([] ++ L n.kd ++ L n.na ++ L n.np)).length + 1 ≤ 9223372036854775807 by (simp only [List.length_map] at *; omega)) <| .c oz3 <| .c oz4 <| .c oz5 <| .c oz6 <| .c (show (0 : Int) ≤ (4 : Int) by omega) <| .c (show (4 : Int) < (↑(6 : Nat) : Int) by omega) <| .c oz36 <| .c oz6 <| .c (show (0 : Int) ≤ (5 : Int) by omega) <| .c (show (5 : Int) < (↑(6 : Nat) : Int) by omega) <| .c oz40 <| .c oz6 <| .n)).weak (WeakL.refl _) (Weak.rows (rows_to (row1 IntKind.u8) (r := List.map (row1 IntKind.u8) ([] ++ L n.kd ++ L n.na ++ L n.np) ++ [[u8 (IntKind.u8.wrap n.za)]]) (l := [] ++ L n.kd ++ L n.na ++ L n.np ++ [IntKind.u8.wrap n.za]) (m := L n.kd ++ L n.na ++ L n.np ++ [IntKind.u8.wrap n.za]) (by first | (simp only [List.map_append, List.map_cons, List.map_nil, List.map_set, List.map_replicate, List.map_take, List.map_drop]; done) | rfl | (simp only [List.map_append, List.map_cons, List.map_nil, List.map_set, List.map_replicate, List.map_take, List.map_drop]; rfl)) (show ([] ++ L n.kd ++ L n.na ++ L n.np ++ [IntKind.u8.wrap n.za]) = (L n.kd ++ L n.na ++ L n.np ++ [IntKind.u8.wrap n.za]) from (by (simp; done)))))
theorem rbytes_9 (L : Int → List Int) (n : Nod) (hL : RPuts L) (hk : n.kd < 1 ∨ 8 < n.kd) (hw : n.w.length ≤ 16384) (hb : n.b.length ≤ 16384) (hx : ∀ x ∈ n.b, -2147483648 ≤ x ∧ x ≤ 2147483647) (hq : In32 n.qm) (hr : In32 n.rm) : VC Try.prog 107 ([nod n]) (.sl 1 ((L n.kd ++ L n.na).map (row1 .u8))) := by
  have q0 := hL.l n.kd
  have q1 := hL.l n.na
  have bu0 : ([] ++ L n.kd).length ≤ 1000000 := by (try simp only [List.nil_append, List.length_append]); omega
  have bu1 : ([] ++ L n.kd ++ L n.na).length ≤ 1000000 := by (try simp only [List.nil_append, List.length_append]); omega
  clear q0 q1
  have w5 : n.w.length ≤ 100000 := by omega
  have b5 : n.b.length ≤ 100000 := by omega
  have oz0 := @tells_9 (n.kd) hk
  have oz1 := @VM.pre _ _ ([AV.lit (Value.slice none 0 0), i64 n.kd]) _ ([]) _ _ _ ([GI.nils 0 950 5 1, GI.sort]) _ (@rput_1 ([]) (L) (n.kd) (by (simp; done)) hL) (by kernel_rfl) (.n)
  have oz2 := @rput_1 ([] ++ L n.kd) (L) (n.na) bu0 hL
  have oz3 := (show (0 : Int) ≤ (0 : Int) by omega)
  have oz4 := (show (0 : Int) < (↑(6 : Nat) : Int) by omega)
  have oz5 := (show [[bv false], [bv false], [bv false], [bv false], [bv false], [bv false]][(0 : Nat)]? = some [bv false] from rfl)
  have oz6 := (show false = false by with_reducible rfl)
  have oz7 := (show (0 : Int) ≤ (1 : Int) by omega)
  have oz8 := (show (1 : Int) < (↑(6 : Nat) : Int) by omega)
  have oz9 := (show [[bv false], [bv false], [bv false], [bv false], [bv false], [bv false]][(1 : Nat)]? = some [bv false] from rfl)
  have oz21 := (show [[bv false], [bv false], [bv false], [bv false], [bv false], [bv false]][(2 : Nat)]? = some [bv false] from rfl)
  have oz25 := (show [[bv false], [bv false], [bv false], [bv false], [bv false], [bv false]][(3 : Nat)]? = some [bv false] from rfl)
  have oz33 := (show [[bv false], [bv false], [bv false], [bv false], [bv false], [bv false]][(4 : Nat)]? = some [bv false] from rfl)
  have oz37 := (show [[bv false], [bv false], [bv false], [bv false], [bv false], [bv false]][(5 : Nat)]? = some [bv false] from rfl)
  exact (VC.run (fn := Try.f107) (W := [.r [] [], .r [] [.callr (rO oz0)], .r [] [.callm [] [(951, 20000)] (rM oz1) (oM oz1), .callm [(20000, 950)] [(951, 20001)] (rM oz2) (oM oz2)], .r [] [.row (sO oz5)], .br false, .r [] [.row (sO oz5)], .br false, .r [] [.row (sO oz5), .br true, .br true, .br true, .br false], .br false, .r [] [.row (sO oz5)], .br false, .r [] [.row (sO oz5)], .br false, .r [] [.row (sO oz5)], .br false, .r [] [.row (sO oz5)], .br false, .r [] [.row (sO oz5)], .br false, .r [] []]) (r := AV.sl 1 (List.map (row1 IntKind.u8) ([] ++ L n.kd ++ L n.na))) Try.func107 (by kernel_rfl) (.c oz0 <| .c oz1 <| .c oz2 <| .c oz3 <| .c oz4 <| .c oz5 <| .c oz6 <| .c oz7 <| .c oz8 <| .c oz9 <| .c oz6 <| .c oz7 <| .c oz8 <| .c oz9 <| .c oz6 <| .c oz6 <| .c oz6 <| .c oz6 <| .c (show (n.kd == 8) = false by (refine decide_eq_false ?_; omega)) <| .c (show (0 : Int) ≤ (2 : Int) by omega) <| .c (show (2 : Int) < (↑(6 : Nat) : Int) by omega) <| .c oz21 <| .c oz6 <| .c (show (0 : Int) ≤ (3 : Int) by omega) <| .c (show (3 : Int) < (↑(6 : Nat) : Int) by omega) <| .c oz25 <| .c oz6 <| .c oz3 <| .c oz4 <| .c oz5 <| .c oz6 <| .c (show (0 : Int) ≤ (4 : Int) by omega) <| .c (show (4 : Int) < (↑(6 : Nat) : Int) by omega) <| .c oz33 <| .c oz6 <| .c (show (0 : Int) ≤ (5 : Int) by omega) <| .c (show (5 : Int) < (↑(6 : Nat) : Int) by omega) <| .c oz37 <| .c oz6 <| .n)).weak (WeakL.refl _) (Weak.rows (rows_to (row1 IntKind.u8) (r := List.map (row1 IntKind.u8) ([] ++ L n.kd ++ L n.na)) (l := [] ++ L n.kd ++ L n.na) (m := L n.kd ++ L n.na) rfl (show ([] ++ L n.kd ++ L n.na) = (L n.kd ++ L n.na) from (by (simp; done)))))
end Go.Proofs.Ytgecmooedhnenaa
/- A node's bytes, by the program and by the document. No condition. -/
namespace Go.Proofs.Ytgecmooedhnenaa
open Go.RowKit
set_option linter.unusedSimpArgs false
set_option linter.unusedVariables false
set_option linter.unnecessarySimpa false
noncomputable def nrng_y_I (l : List Int) (n : Nod) (k : Nat) : VS := stt 57 [(1, .ptr 1 0 0), (25, .sl 1 (l.map (row1 .i64))), (26, i64 6), (27, i64 k)] [(1, .var (nodC n))]
noncomputable def nrng_y_Z (l : List Int) (n : Nod) : VS := nrng_y_I l n (6)
theorem nrng_y_s (l : List Int) (n : Nod) (hl : l.length = 6) (h : ∀ k, k < 6 → okI (l.getD k default) = true) (k : Nat) (hk : k < 6) : VT Try.prog (fnC Try.f37 [1, 1, 0, 1, 0, 0]) (nrng_y_I l n k) .normal (nrng_y_I l n (k + 1)) := by
  have q := h k hk
  simp only [okI, Bool.and_eq_true, decide_eq_true_eq] at q
  have ql : (l.map (row1 .i64)).length = 6 := by rw [List.length_map]; exact hl
  exact VT.run (W := [.r [] [], .br true, .r [] [.row [i64 (l.getD k 0)]], .r [] [.op false, .op false, .sel 1], .br false, .r [] [.n ((↑k : Int) + 1)]]) (G := [.any (rg [(6, 1), (28, 6), (36, 2)]), .weak 27 (i64 (↑(k + 1) : Int)), .sort]) (by kernel_rfl) (.c (decide_eq_true (p := ((↑k : Int) < 6)) (by omega)) <| .c (show 0 ≤ (↑k : Int) by omega) <| .c (map_at (row1 IntKind.i64) (0) (l := l) (i := k) (by omega)) <| .c (show (decide (l.getD k 0 < 0) || decide (l.getD k 0 > 1024)) = false by (simp at *; omega)) <| .c (IntWalk.i64_in ((↑k : Int) + 1) (by omega)) <| .c (Weak.int (k := .i64) (show (((↑k : Int) + 1) : Int) = ((↑(k + 1) : Int)) from (by omega))) <| .n)
theorem nrng_y_e (l : List Int) (n : Nod) (hl : l.length = 6) (h : ∀ k, k < 6 → okI (l.getD k default) = true) : VT Try.prog (fnC Try.f37 [1, 1, 0, 1, 0, 0]) (nrng_y_I l n (6)) (.exit 0) (nrng_y_Z l n) := by
  exact VT.run (W := [.r [] [], .br false]) (G := [.any [28], .sort]) (by kernel_rfl) (.c (show false = false by with_reducible rfl) <| .n)
theorem nrng_y (l : List Int) (n : Nod) (hl : l.length = 6) (h : ∀ k, k < 6 → okI (l.getD k default) = true) : VT Try.prog (fnC Try.f37 [1, 1, 0, 1, 0]) (nrng_y_I l n 0) (.exit 0) (nrng_y_Z l n) :=
  VT.loop (fun k => nrng_y_I l n k) (6) (fun k hk => nrng_y_s l n hl h k hk) (nrng_y_e l n hl h) (by intro h; cases h)
noncomputable def nrng_n_I (l : List Int) (n : Nod) (m : Nat) (k : Nat) : VS := stt 57 [(1, .ptr 1 0 0), (25, .sl 1 (l.map (row1 .i64))), (26, i64 6), (27, i64 k)] [(1, .var (nodC n))]
noncomputable def nrng_n_Z (l : List Int) (n : Nod) (m : Nat) : VS := stt 57 [(2, nilv), (3, i64 3)] []
theorem nrng_n_s (l : List Int) (n : Nod) (m : Nat) (hl : l.length = 6) (hm : m < 6) (hf : okI (l.getD m default) ≠ true) (h : ∀ k, k < m → okI (l.getD k default) = true) (k : Nat) (hk : k < m) : VT Try.prog (fnC Try.f37 [1, 1, 0, 1, 0, 0]) (nrng_n_I l n m k) .normal (nrng_n_I l n m (k + 1)) := by
  have q := h k hk
  simp only [okI, Bool.and_eq_true, decide_eq_true_eq] at q
  have ql : (l.map (row1 .i64)).length = 6 := by rw [List.length_map]; exact hl
  exact VT.run (W := [.r [] [], .br true, .r [] [.row [i64 (l.getD k 0)]], .r [] [.op false, .op false, .sel 1], .br false, .r [] [.n ((↑k : Int) + 1)]]) (G := [.any (rg [(6, 1), (28, 6), (36, 2)]), .weak 27 (i64 (↑(k + 1) : Int)), .sort]) (by kernel_rfl) (.c (decide_eq_true (p := ((↑k : Int) < 6)) (by omega)) <| .c (show 0 ≤ (↑k : Int) by omega) <| .c (map_at (row1 IntKind.i64) (0) (l := l) (i := k) (by omega)) <| .c (show (decide (l.getD k 0 < 0) || decide (l.getD k 0 > 1024)) = false by (simp at *; omega)) <| .c (IntWalk.i64_in ((↑k : Int) + 1) (by omega)) <| .c (Weak.int (k := .i64) (show (((↑k : Int) + 1) : Int) = ((↑(k + 1) : Int)) from (by omega))) <| .n)
theorem nrng_n_e (l : List Int) (n : Nod) (m : Nat) (hl : l.length = 6) (hm : m < 6) (hf : okI (l.getD m default) ≠ true) (h : ∀ k, k < m → okI (l.getD k default) = true) : VT Try.prog (fnC Try.f37 [1, 1, 0, 1, 0, 0]) (nrng_n_I l n m (m)) (.ret) (nrng_n_Z l n m) := by
  have q := okI_n hf
  have ql : (l.map (row1 .i64)).length = 6 := by rw [List.length_map]; exact hl
  exact VT.run (W := [.r [] [], .br true, .r [] [.row [i64 (l.getD m 0)]], .r [] [.op false, .op false, .sel 1], .br true, .r [] []]) (G := [.any (rg [(1, 1), (6, 1), (25, 9), (36, 1)]), .drop [1], .sort]) (by kernel_rfl) (.c (decide_eq_true (p := ((↑m : Int) < 6)) (by omega)) <| .c (show 0 ≤ (↑m : Int) by omega) <| .c (map_at (row1 IntKind.i64) (0) (l := l) (i := m) (by omega)) <| .c (show (decide (l.getD m 0 < 0) || decide (l.getD m 0 > 1024)) = true by (simp at *; omega)) <| .n)
theorem nrng_n (l : List Int) (n : Nod) (m : Nat) (hl : l.length = 6) (hm : m < 6) (hf : okI (l.getD m default) ≠ true) (h : ∀ k, k < m → okI (l.getD k default) = true) : VT Try.prog (fnC Try.f37 [1, 1, 0, 1, 0]) (nrng_n_I l n m 0) (.ret) (nrng_n_Z l n m) :=
  VT.loop (fun k => nrng_n_I l n m k) (m) (fun k hk => nrng_n_s l n m hl hm hf h k hk) (nrng_n_e l n m hl hm hf h) (by intro h; cases h)
noncomputable def rrng_y_I (l : List Int) (n : Nod) (k : Nat) : VS := stt 53 [(1, .ptr 1 0 0), (5, .sl 1 (l.map (row1 .i64))), (6, i64 k)] [(1, .var (nodC n))]
noncomputable def rrng_y_Z (l : List Int) (n : Nod) : VS := rrng_y_I l n (6)
theorem rrng_y_s (l : List Int) (n : Nod) (hl : l.length = 6) (h : ∀ k, k < 6 → okI (l.getD k default) = true) (k : Nat) (hk : k < 6) : VT Try.prog (fnC Try.f38 [1, 1, 1, 0, 1, 0, 0]) (rrng_y_I l n k) .normal (rrng_y_I l n (k + 1)) := by
  have q := h k hk
  simp only [okI, Bool.and_eq_true, decide_eq_true_eq] at q
  have ql : (l.map (row1 .i64)).length = 6 := by rw [List.length_map]; exact hl
  have oz1 := (show 0 ≤ (↑k : Int) by omega)
  have oz2 := (map_at (row1 IntKind.i64) (0) (l := l) (i := k) (by omega))
  exact VT.run (W := [.r [] [], .br true, .r [] [.row (sO oz2), .op false, .op false, .op false, .row (sO oz2), .op false, .op false, .sel 1], .br false, .r [] [.n ((↑k : Int) + 1)]]) (G := [.any (rg [(25, 10), (40, 1)]), .weak 6 (i64 (↑(k + 1) : Int)), .sort]) (by kernel_rfl) (.c (decide_eq_true (p := ((↑k : Int) < 6)) (by omega)) <| .c oz1 <| .c oz2 <| .c oz1 <| .c oz2 <| .c (show (decide (l.getD k 0 < 0) || decide (l.getD k 0 > 1024)) = false by (simp at *; omega)) <| .c (IntWalk.i64_in ((↑k : Int) + 1) (by omega)) <| .c (Weak.int (k := .i64) (show (((↑k : Int) + 1) : Int) = ((↑(k + 1) : Int)) from (by omega))) <| .n)
theorem rrng_y_e (l : List Int) (n : Nod) (hl : l.length = 6) (h : ∀ k, k < 6 → okI (l.getD k default) = true) : VT Try.prog (fnC Try.f38 [1, 1, 1, 0, 1, 0, 0]) (rrng_y_I l n (6)) (.exit 0) (rrng_y_Z l n) := by
  exact VT.run (W := [.r [] [], .br false]) (G := [.any [25, 26], .sort]) (by kernel_rfl) (.c (show false = false by with_reducible rfl) <| .n)
theorem rrng_y (l : List Int) (n : Nod) (hl : l.length = 6) (h : ∀ k, k < 6 → okI (l.getD k default) = true) : VT Try.prog (fnC Try.f38 [1, 1, 1, 0, 1, 0]) (rrng_y_I l n 0) (.exit 0) (rrng_y_Z l n) :=
  VT.loop (fun k => rrng_y_I l n k) (6) (fun k hk => rrng_y_s l n hl h k hk) (rrng_y_e l n hl h) (by intro h; cases h)
noncomputable def rrng_n_I (l : List Int) (n : Nod) (m : Nat) (k : Nat) : VS := stt 53 [(1, .ptr 1 0 0), (5, .sl 1 (l.map (row1 .i64))), (6, i64 k)] [(1, .var (nodC n))]
noncomputable def rrng_n_Z (l : List Int) (n : Nod) (m : Nat) : VS := stt 53 [(2, nilv), (3, i64 3)] []
theorem rrng_n_s (l : List Int) (n : Nod) (m : Nat) (hl : l.length = 6) (hm : m < 6) (hf : okI (l.getD m default) ≠ true) (h : ∀ k, k < m → okI (l.getD k default) = true) (k : Nat) (hk : k < m) : VT Try.prog (fnC Try.f38 [1, 1, 1, 0, 1, 0, 0]) (rrng_n_I l n m k) .normal (rrng_n_I l n m (k + 1)) := by
  have q := h k hk
  simp only [okI, Bool.and_eq_true, decide_eq_true_eq] at q
  have ql : (l.map (row1 .i64)).length = 6 := by rw [List.length_map]; exact hl
  have oz1 := (show 0 ≤ (↑k : Int) by omega)
  have oz2 := (map_at (row1 IntKind.i64) (0) (l := l) (i := k) (by omega))
  exact VT.run (W := [.r [] [], .br true, .r [] [.row (sO oz2), .op false, .op false, .op false, .row (sO oz2), .op false, .op false, .sel 1], .br false, .r [] [.n ((↑k : Int) + 1)]]) (G := [.any (rg [(25, 10), (40, 1)]), .weak 6 (i64 (↑(k + 1) : Int)), .sort]) (by kernel_rfl) (.c (decide_eq_true (p := ((↑k : Int) < 6)) (by omega)) <| .c oz1 <| .c oz2 <| .c oz1 <| .c oz2 <| .c (show (decide (l.getD k 0 < 0) || decide (l.getD k 0 > 1024)) = false by (simp at *; omega)) <| .c (IntWalk.i64_in ((↑k : Int) + 1) (by omega)) <| .c (Weak.int (k := .i64) (show (((↑k : Int) + 1) : Int) = ((↑(k + 1) : Int)) from (by omega))) <| .n)
theorem rrng_n_e (l : List Int) (n : Nod) (m : Nat) (hl : l.length = 6) (hm : m < 6) (hf : okI (l.getD m default) ≠ true) (h : ∀ k, k < m → okI (l.getD k default) = true) : VT Try.prog (fnC Try.f38 [1, 1, 1, 0, 1, 0, 0]) (rrng_n_I l n m (m)) (.ret) (rrng_n_Z l n m) := by
  have q := okI_n hf
  have ql : (l.map (row1 .i64)).length = 6 := by rw [List.length_map]; exact hl
  have oz1 := (show 0 ≤ (↑m : Int) by omega)
  have oz2 := (map_at (row1 IntKind.i64) (0) (l := l) (i := m) (by omega))
  exact VT.run (W := [.r [] [], .br true, .r [] [.row (sO oz2), .op false, .op false, .op false, .row (sO oz2), .op false, .op false, .sel 1], .br true, .r [] []]) (G := [.any [1, 5, 6, 25, 26, 29, 30, 31, 32, 33, 34, 40], .drop [1], .sort]) (by kernel_rfl) (.c (decide_eq_true (p := ((↑m : Int) < 6)) (by omega)) <| .c oz1 <| .c oz2 <| .c oz1 <| .c oz2 <| .c (show (decide (l.getD m 0 < 0) || decide (l.getD m 0 > 1024)) = true by (simp at *; omega)) <| .n)
theorem rrng_n (l : List Int) (n : Nod) (m : Nat) (hl : l.length = 6) (hm : m < 6) (hf : okI (l.getD m default) ≠ true) (h : ∀ k, k < m → okI (l.getD k default) = true) : VT Try.prog (fnC Try.f38 [1, 1, 1, 0, 1, 0]) (rrng_n_I l n m 0) (.ret) (rrng_n_Z l n m) :=
  VT.loop (fun k => rrng_n_I l n m k) (m) (fun k hk => rrng_n_s l n m hl hm hf h k hk) (rrng_n_e l n m hl hm hf h) (by intro h; cases h)
theorem pnode_c (n : Nod) (hw : n.w.length ≤ 100000) (hb : n.b.length ≤ 100000) (hk : In64 n.kd) (hc : checkE n ≠ 0) : VC Try.prog 37 ([nod n]) (.tup [.sl 1 (([] : List Int).map (row1 .u8)), i64 (checkE n)]) := by
  have oz0 := @check_v (n) hw hb hk
  exact (VC.run (fn := Try.f37) (W := [.r [] [], .r [] [.callr (rO oz0)], .r [] [], .br true, .r [] []]) (r := AV.tup [AV.lit (Value.slice none 0 0), i64 (checkE n)]) Try.func37 (by kernel_rfl) (.c oz0 <| .c (show (checkE n != 0) = true by (simp; omega)) <| .n)).weak (WeakL.refl _) (Weak.tup (.cons (Weak.nil _) (.cons (.refl _) .nil)))
theorem pnode_r (n : Nod) (m : Nat) (hw : n.w.length ≤ 100000) (hb : n.b.length ≤ 100000) (hk : In64 n.kd) (hc : checkE n = 0) (hm : m < 6) (hf : okI ((six n).getD m default) ≠ true) (h : ∀ k, k < m → okI ((six n).getD k default) = true) : VC Try.prog 37 ([nod n]) (.tup [.sl 1 (([] : List Int).map (row1 .u8)), i64 3]) := by
  have hl6 : (six n).length = 6 := rfl
  have oz0 := @check_v (n) hw hb hk
  have oz4 := @nrng_n (six n) (n) (m) hl6 hm hf h
  exact (VC.run (fn := Try.f37) (W := [.r [] [], .r [] [.callr (rO oz0)], .r [] [], .br false, .r [] [], .code [.frz 25, .any (rg [(0, 1), (2, 3), (8, 4), (13, 12)]), .weak 26 (i64 6), .weak 27 (i64 (↑0 : Int)), .sort] (Exit.ret) (zO oz4)]) (r := AV.tup [AV.lit (Value.slice none 0 0), i64 3]) Try.func37 (by kernel_rfl) (.c oz0 <| .c (show (checkE n != 0) = false by (simp; omega)) <| .c (Weak.int (k := .i64) (show (((↑6 : Int)) : Int) = (6) from (by (simp; done)))) <| .c (Weak.int (k := .i64) (show ((0) : Int) = ((↑0 : Int)) from (by omega))) <| .c oz4 <| .n)).weak (WeakL.refl _) (Weak.tup (.cons (Weak.nil _) (.cons (.refl _) .nil)))
theorem pnode_w (n : Nod) (hw : n.w.length ≤ 100000) (hb : n.b.length ≤ 100000) (hk : In64 n.kd) (hc : checkE n = 0) (h : ∀ k, k < 6 → okI ((six n).getD k default) = true) (hl : 16384 < n.w.length ∨ 16384 < n.b.length) : VC Try.prog 37 ([nod n]) (.tup [.sl 1 (([] : List Int).map (row1 .u8)), i64 3]) := by
  have hl6 : (six n).length = 6 := rfl
  have oz0 := @check_v (n) hw hb hk
  have oz4 := @nrng_y (six n) (n) hl6 h
  exact (VC.run (fn := Try.f37) (W := [.r [] [], .r [] [.callr (rO oz0)], .r [] [], .br false, .r [] [], .code [.frz 25, .any (rg [(0, 1), (2, 3), (8, 4), (13, 12)]), .weak 26 (i64 6), .weak 27 (i64 (↑0 : Int)), .sort] (Exit.exit 0) (zO oz4), .r [] [.op false, .op false, .op false, .op false, .sel 1], .br true, .r [] []]) (r := AV.tup [AV.lit (Value.slice none 0 0), i64 3]) Try.func37 (by kernel_rfl) (.c oz0 <| .c (show (checkE n != 0) = false by (simp; omega)) <| .c (Weak.int (k := .i64) (show (((↑6 : Int)) : Int) = (6) from (by (simp; done)))) <| .c (Weak.int (k := .i64) (show ((0) : Int) = ((↑0 : Int)) from (by omega))) <| .c oz4 <| .c (show (decide ((↑(List.map (row1 IntKind.i8) n.w).length : Int) > 16384) || decide ((↑(List.map (row1 IntKind.i32) n.b).length : Int) > 16384)) = true by (simp; omega)) <| .n)).weak (WeakL.refl _) (Weak.tup (.cons (Weak.nil _) (.cons (.refl _) .nil)))
theorem pnode_y (L : Int → List Int) (n : Nod) (hL : Puts L) (okn : n.Ok) (hc : checkE n = 0) (h : ∀ k, k < 6 → okI ((six n).getD k default) = true) (hw : n.w.length ≤ 16384) (hb : n.b.length ≤ 16384) : VC Try.prog 37 ([nod n]) (.tup [.sl 1 ((nodeL L n).map (row1 .u8)), i64 0]) := by
  have hk := okn.kd
  have hx := okn.b
  have hq := okn.qm
  have hr := okn.rm
  have hl6 : (six n).length = 6 := rfl
  have oz0 := @check_v (n) (by omega) (by omega) hk
  have oz4 := @nrng_y (six n) (n) hl6 h
  have oz6 := @lwalk_v (L) (n) hL hw hb hx hq hr
  exact VC.run (fn := Try.f37) (W := [.r [] [], .r [] [.callr (rO oz0)], .r [] [], .br false, .r [] [], .code [.frz 25, .any (rg [(0, 1), (2, 3), (8, 4), (13, 12)]), .weak 26 (i64 6), .weak 27 (i64 (↑0 : Int)), .sort] (Exit.exit 0) (zO oz4), .r [] [.op false, .op false, .op false, .op false, .sel 1], .br false, .r [] [], .r [] [.callm [(49, 100000), (1, 100001)] [(951, 20000)] (rM oz6) (oM oz6)], .r [] []]) Try.func37 (by kernel_rfl) (.c oz0 <| .c (show (checkE n != 0) = false by (simp; omega)) <| .c (Weak.int (k := .i64) (show (((↑6 : Int)) : Int) = (6) from (by (simp; done)))) <| .c (Weak.int (k := .i64) (show ((0) : Int) = ((↑0 : Int)) from (by omega))) <| .c oz4 <| .c (show (decide ((↑(List.map (row1 IntKind.i8) n.w).length : Int) > 16384) || decide ((↑(List.map (row1 IntKind.i32) n.b).length : Int) > 16384)) = false by (simp; omega)) <| .c oz6 <| .n)
theorem rnode_c (n : Nod) (hw : n.w.length ≤ 100000) (hb : n.b.length ≤ 100000) (hk : In64 n.kd) (hc : checkE n ≠ 0) : VC Try.prog 38 ([nod n]) (.tup [.sl 1 (([] : List Int).map (row1 .u8)), i64 (checkE n)]) := by
  have oz0 := @refCheck_v (n) hw hb hk
  exact (VC.run (fn := Try.f38) (W := [.r [] [], .r [] [.callr (rO oz0)], .r [] [], .br true, .r [] []]) (r := AV.tup [AV.lit (Value.slice none 0 0), i64 (checkE n)]) Try.func38 (by kernel_rfl) (.c oz0 <| .c (show (checkE n != 0) = true by (simp; omega)) <| .n)).weak (WeakL.refl _) (Weak.tup (.cons (Weak.nil _) (.cons (.refl _) .nil)))
theorem rnode_r (n : Nod) (m : Nat) (hw : n.w.length ≤ 100000) (hb : n.b.length ≤ 100000) (hk : In64 n.kd) (hc : checkE n = 0) (hm : m < 6) (hf : okI ((six n).getD m default) ≠ true) (h : ∀ k, k < m → okI ((six n).getD k default) = true) : VC Try.prog 38 ([nod n]) (.tup [.sl 1 (([] : List Int).map (row1 .u8)), i64 3]) := by
  have hl6 : (six n).length = 6 := rfl
  have oz0 := @refCheck_v (n) hw hb hk
  have oz3 := @rrng_n (six n) (n) (m) hl6 hm hf h
  exact (VC.run (fn := Try.f38) (W := [.r [] [], .r [] [.callr (rO oz0)], .r [] [], .br false, .r [] [], .r [] [], .code [.frz 24, .any (rg [(0, 1), (2, 3), (7, 4), (12, 13)]), .weak 6 (i64 (↑0 : Int)), .sort] (Exit.ret) (zO oz3)]) (r := AV.tup [AV.lit (Value.slice none 0 0), i64 3]) Try.func38 (by kernel_rfl) (.c oz0 <| .c (show (checkE n != 0) = false by (simp; omega)) <| .c (Weak.int (k := .i64) (show ((0) : Int) = ((↑0 : Int)) from (by omega))) <| .c oz3 <| .n)).weak (WeakL.refl _) (Weak.tup (.cons (Weak.nil _) (.cons (.refl _) .nil)))
theorem rnode_w (n : Nod) (hw : n.w.length ≤ 100000) (hb : n.b.length ≤ 100000) (hk : In64 n.kd) (hc : checkE n = 0) (h : ∀ k, k < 6 → okI ((six n).getD k default) = true) (hl : 16384 < n.w.length ∨ 16384 < n.b.length) : VC Try.prog 38 ([nod n]) (.tup [.sl 1 (([] : List Int).map (row1 .u8)), i64 3]) := by
  have hl6 : (six n).length = 6 := rfl
  have oz0 := @refCheck_v (n) hw hb hk
  have oz3 := @rrng_y (six n) (n) hl6 h
  exact (VC.run (fn := Try.f38) (W := [.r [] [], .r [] [.callr (rO oz0)], .r [] [], .br false, .r [] [], .r [] [], .code [.frz 24, .any (rg [(0, 1), (2, 3), (7, 4), (12, 13)]), .weak 6 (i64 (↑0 : Int)), .sort] (Exit.exit 0) (zO oz3), .r [] [.op false, .op false, .op false, .op false, .sel 1], .br true, .r [] []]) (r := AV.tup [AV.lit (Value.slice none 0 0), i64 3]) Try.func38 (by kernel_rfl) (.c oz0 <| .c (show (checkE n != 0) = false by (simp; omega)) <| .c (Weak.int (k := .i64) (show ((0) : Int) = ((↑0 : Int)) from (by omega))) <| .c oz3 <| .c (show (decide ((↑(List.map (row1 IntKind.i8) n.w).length : Int) > 16384) || decide ((↑(List.map (row1 IntKind.i32) n.b).length : Int) > 16384)) = true by (simp; omega)) <| .n)).weak (WeakL.refl _) (Weak.tup (.cons (Weak.nil _) (.cons (.refl _) .nil)))
theorem rbytes_v (L : Int → List Int) (n : Nod) (hL : RPuts L) (hw : n.w.length ≤ 16384) (hb : n.b.length ≤ 16384) (hx : ∀ x ∈ n.b, -2147483648 ≤ x ∧ x ≤ 2147483647) (hq : In32 n.qm) (hr : In32 n.rm) : VC Try.prog 107 [nod n] (.sl 1 ((nodeL L n).map (row1 .u8))) := by
  by_cases k1 : n.kd = 1
  · rw [show nodeL L n = lb_1 L n from by unfold nodeL; rw [if_pos k1]]
    exact rbytes_1 L n hL k1 hw hb hx hq hr
  by_cases k2 : n.kd = 2
  · rw [show nodeL L n = lb_2 L n from by unfold nodeL; rw [if_neg k1, if_pos k2]]
    exact rbytes_2 L n hL k2 hw hb hx hq hr
  by_cases k3 : n.kd = 3
  · rw [show nodeL L n = lb_3 L n from by unfold nodeL; rw [if_neg k1, if_neg k2, if_pos k3]]
    exact rbytes_3 L n hL k3 hw hb hx hq hr
  by_cases k4 : n.kd = 4 ∨ n.kd = 5
  · rw [show nodeL L n = lb_4 L n from by unfold nodeL; rw [if_neg k1, if_neg k2, if_neg k3, if_pos k4]]
    exact rbytes_4 L n hL k4 hw hb hx hq hr
  by_cases k6 : n.kd = 6
  · rw [show nodeL L n = lb_6 L n from by unfold nodeL; rw [if_neg k1, if_neg k2, if_neg k3, if_neg k4, if_pos k6]]
    exact rbytes_6 L n hL k6 hw hb hx hq hr
  by_cases k7 : n.kd = 7
  · rw [show nodeL L n = lb_7 L n from by unfold nodeL; rw [if_neg k1, if_neg k2, if_neg k3, if_neg k4, if_neg k6, if_pos k7]]
    exact rbytes_7 L n hL k7 hw hb hx hq hr
  by_cases k8 : n.kd = 8
  · rw [show nodeL L n = lb_8 L n from by unfold nodeL; rw [if_neg k1, if_neg k2, if_neg k3, if_neg k4, if_neg k6, if_neg k7, if_pos k8]]
    exact rbytes_8 L n hL k8 hw hb hx hq hr
  rw [show nodeL L n = lb_9 L n from by unfold nodeL; rw [if_neg k1, if_neg k2, if_neg k3, if_neg k4, if_neg k6, if_neg k7, if_neg k8]]
  exact rbytes_9 L n hL (by omega) hw hb hx hq hr
theorem rnode_y (L : Int → List Int) (n : Nod) (hL : RPuts L) (okn : n.Ok) (hc : checkE n = 0) (h : ∀ k, k < 6 → okI ((six n).getD k default) = true) (hw : n.w.length ≤ 16384) (hb : n.b.length ≤ 16384) : VC Try.prog 38 ([nod n]) (.tup [.sl 1 ((nodeL L n).map (row1 .u8)), i64 0]) := by
  have hk := okn.kd
  have hx := okn.b
  have hq := okn.qm
  have hr := okn.rm
  have hl6 : (six n).length = 6 := rfl
  have oz0 := @refCheck_v (n) (by omega) (by omega) hk
  have oz3 := @rrng_y (six n) (n) hl6 h
  have oz5 := @rbytes_v (L) (n) hL hw hb hx hq hr
  exact VC.run (fn := Try.f38) (W := [.r [] [], .r [] [.callr (rO oz0)], .r [] [], .br false, .r [] [], .r [] [], .code [.frz 24, .any (rg [(0, 1), (2, 3), (7, 4), (12, 13)]), .weak 6 (i64 (↑0 : Int)), .sort] (Exit.exit 0) (zO oz3), .r [] [.op false, .op false, .op false, .op false, .sel 1], .br false, .r [] [.callr (rO oz5)]]) Try.func38 (by kernel_rfl) (.c oz0 <| .c (show (checkE n != 0) = false by (simp; omega)) <| .c (Weak.int (k := .i64) (show ((0) : Int) = ((↑0 : Int)) from (by omega))) <| .c oz3 <| .c (show (decide ((↑(List.map (row1 IntKind.i8) n.w).length : Int) > 16384) || decide ((↑(List.map (row1 IntKind.i32) n.b).length : Int) > 16384)) = false by (simp; omega)) <| .c oz5 <| .n)
theorem pnode_v (n : Nod) (okn : n.Ok) (hw : n.w.length ≤ 100000) (hb : n.b.length ≤ 100000) : VC Try.prog 37 [nod n] (.tup [.sl 1 ((nodeR n).1.map (row1 .u8)), i64 (nodeR n).2]) := by
  by_cases hc : checkE n = 0
  · cases hs : (six n).all okI with
    | true =>
      by_cases hl : 16384 < n.w.length ∨ 16384 < n.b.length
      · rw [show nodeR n = ([], 3) from by unfold nodeR; rw [if_neg (by simpa using hc), if_neg (by rw [hs]; simp), if_pos hl]]
        exact pnode_w n hw hb okn.kd hc (six_y hs) hl
      · rw [show nodeR n = (nodeL putN n, 0) from by unfold nodeR; rw [if_neg (by simpa using hc), if_neg (by rw [hs]; simp), if_neg hl]]
        exact pnode_y putN n puts okn hc (six_y hs) (by omega) (by omega)
    | false =>
      obtain ⟨m, hm, hf, h⟩ := six_n hs
      rw [show nodeR n = ([], 3) from by unfold nodeR; rw [if_neg (by simpa using hc), if_pos hs]]
      exact pnode_r n m hw hb okn.kd hc hm hf h
  · rw [show nodeR n = ([], checkE n) from by unfold nodeR; rw [if_pos hc]]
    exact pnode_c n hw hb okn.kd hc
theorem rnode_v (n : Nod) (okn : n.Ok) (hw : n.w.length ≤ 100000) (hb : n.b.length ≤ 100000) : VC Try.prog 38 [nod n] (.tup [.sl 1 ((nodeR n).1.map (row1 .u8)), i64 (nodeR n).2]) := by
  by_cases hc : checkE n = 0
  · cases hs : (six n).all okI with
    | true =>
      by_cases hl : 16384 < n.w.length ∨ 16384 < n.b.length
      · rw [show nodeR n = ([], 3) from by unfold nodeR; rw [if_neg (by simpa using hc), if_neg (by rw [hs]; simp), if_pos hl]]
        exact rnode_w n hw hb okn.kd hc (six_y hs) hl
      · rw [show nodeR n = (nodeL putN n, 0) from by unfold nodeR; rw [if_neg (by simpa using hc), if_neg (by rw [hs]; simp), if_neg hl]]
        exact rnode_y putN n rputs okn hc (six_y hs) (by omega) (by omega)
    | false =>
      obtain ⟨m, hm, hf, h⟩ := six_n hs
      rw [show nodeR n = ([], 3) from by unfold nodeR; rw [if_neg (by simpa using hc), if_pos hs]]
      exact rnode_r n m hw hb okn.kd hc hm hf h
  · rw [show nodeR n = ([], checkE n) from by unfold nodeR; rw [if_pos hc]]
    exact rnode_c n hw hb okn.kd hc
end Go.Proofs.Ytgecmooedhnenaa
/- A block's exit, by the layer. No condition. -/
namespace Go.Proofs.Ytgecmooedhnenaa
open Go.RowKit
set_option linter.unusedSimpArgs false
set_option linter.unusedVariables false
set_option linter.unnecessarySimpa false
theorem lsml_x (B : List Int) (x : Blc) (m : Int) (hB : B.length ≤ 1000000) (hw : x.w.length ≤ 100000) : VM Try.prog 256 ([.ptr 100000 0 0, .ptr 100001 0 2, i64 m]) ([(950, .slc 5 1 (B.map (row1 .u8))), (100000, .var [.own 950]), (100001, .var (blcC x))]) (.tup []) ([(951, .slc 5 1 ((B ++ smallL x.w).map (row1 .u8))), (100000, .var [.own 951]), (100001, .var (blcC x))]) := by
  have q : (smallL x.w).length = x.w.length := List.length_map _
  have oz0 := @small_v (x.w) (by omega)
  exact VM.run (fn := Try.f256) (W := [.r [] [.callr (rO oz0)]]) (G := [.ren 15 951, .blk 951 (Blk.slc 5 1 (List.map (row1 IntKind.u8) (B ++ smallL x.w))), .sort]) Try.func256 (by kernel_rfl) (.c oz0 <| .c (show ((List.map (row1 IntKind.u8) B).length + (List.map (row1 IntKind.u8) (smallL x.w)).length) * 1 ≤ 140737488355328 by (simp only [List.length_map]; omega)) <| .c (show (List.map (row1 IntKind.u8) B).length + (List.map (row1 IntKind.u8) (smallL x.w)).length ≤ 9223372036854775807 by (simp only [List.length_map]; omega)) <| .c (show BlkW (Blk.slc 5 1 (List.map (row1 IntKind.u8) B ++ List.map (row1 IntKind.u8) (smallL x.w))) (Blk.slc 5 1 (List.map (row1 IntKind.u8) (B ++ smallL x.w))) from (BlkW.rows (e := 5) (z := 1) (rows_to (row1 IntKind.u8) (r := List.map (row1 IntKind.u8) B ++ List.map (row1 IntKind.u8) (smallL x.w)) (l := B ++ smallL x.w) (m := B ++ smallL x.w) (by first | (simp only [List.map_append, List.map_cons, List.map_nil, List.map_set, List.map_replicate, List.map_take, List.map_drop]; done) | rfl | (simp only [List.map_append, List.map_cons, List.map_nil, List.map_set, List.map_replicate, List.map_take, List.map_drop]; rfl)) rfl))) <| .n)
theorem lwid_x (B : List Int) (x : Blc) (m : Int) (hB : B.length ≤ 1000000) (hw : x.b.length ≤ 100000) (hb : ∀ v ∈ x.b, -2147483648 ≤ v ∧ v ≤ 2147483647) : VM Try.prog 257 ([.ptr 100000 0 0, .ptr 100001 0 3, i64 m]) ([(950, .slc 5 1 (B.map (row1 .u8))), (100000, .var [.own 950]), (100001, .var (blcC x))]) (.tup []) ([(951, .slc 5 1 ((B ++ wideL x.b).map (row1 .u8))), (100000, .var [.own 951]), (100001, .var (blcC x))]) := by
  have q := wideL_len x.b hb
  have oz0 := @wide_v (x.b) hb (by omega)
  exact VM.run (fn := Try.f257) (W := [.r [] [.callr (rO oz0)]]) (G := [.ren 15 951, .blk 951 (Blk.slc 5 1 (List.map (row1 IntKind.u8) (B ++ wideL x.b))), .sort]) Try.func257 (by kernel_rfl) (.c oz0 <| .c (show ((List.map (row1 IntKind.u8) B).length + (List.map (row1 IntKind.u8) (wideL x.b)).length) * 1 ≤ 140737488355328 by (simp only [List.length_map]; omega)) <| .c (show (List.map (row1 IntKind.u8) B).length + (List.map (row1 IntKind.u8) (wideL x.b)).length ≤ 9223372036854775807 by (simp only [List.length_map]; omega)) <| .c (show BlkW (Blk.slc 5 1 (List.map (row1 IntKind.u8) B ++ List.map (row1 IntKind.u8) (wideL x.b))) (Blk.slc 5 1 (List.map (row1 IntKind.u8) (B ++ wideL x.b))) from (BlkW.rows (e := 5) (z := 1) (rows_to (row1 IntKind.u8) (r := List.map (row1 IntKind.u8) B ++ List.map (row1 IntKind.u8) (wideL x.b)) (l := B ++ wideL x.b) (m := B ++ wideL x.b) (by first | (simp only [List.map_append, List.map_cons, List.map_nil, List.map_set, List.map_replicate, List.map_take, List.map_drop]; done) | rfl | (simp only [List.map_append, List.map_cons, List.map_nil, List.map_set, List.map_replicate, List.map_take, List.map_drop]; rfl)) rfl))) <| .n)
theorem llists_x (B : List Int) (L : Int → List Int) (x : Blc) (hB : B.length ≤ 500000) (hL : Puts L) (hw : x.w.length ≤ 100000) (hb : x.b.length ≤ 16384) (hx : ∀ v ∈ x.b, -2147483648 ≤ v ∧ v ≤ 2147483647) : VM Try.prog 168 ([.ifc 160 (.ptr 100000 0 0), .ptr 100001 0 2, .ptr 100001 0 3]) ([(950, .slc 5 1 (B.map (row1 .u8))), (100000, .var [.own 950]), (100001, .var (blcC x))]) (.tup []) ([(951, .slc 5 1 ((B ++ L (x.w.length : Int) ++ smallL x.w ++ L (x.b.length : Int) ++ wideL x.b).map (row1 .u8))), (100000, .var [.own 951]), (100001, .var (blcC x))]) := by
  have q1 := hL.l (x.w.length : Int)
  have q3 := hL.l (x.b.length : Int)
  have q2 : (smallL x.w).length = x.w.length := List.length_map _
  have q4 : (B ++ L (x.w.length : Int)).length = B.length + (L (x.w.length : Int)).length := List.length_append
  have q5 : (B ++ L (x.w.length : Int) ++ smallL x.w).length = B.length + (L (x.w.length : Int)).length + x.w.length := by rw [List.length_append, q4, q2]
  have q6 : (B ++ L (x.w.length : Int) ++ smallL x.w ++ L (x.b.length : Int)).length = B.length + (L (x.w.length : Int)).length + x.w.length + (L (x.b.length : Int)).length := by rw [List.length_append, q5]
  have oz0 := @lnum_1 (B) (L) ((↑(List.map (row1 IntKind.i8) x.w).length : Int)) (16384) (by omega) hL
  have oz1 := (show MethodIs Try.prog (160 : Nat) "stepwell/pack.number" (methF Try.prog (160 : Nat) "stepwell/pack.number") from (methodIs (by kernel_rfl)))
  have oz2 := @lsml_x (B ++ L (↑(List.map (row1 IntKind.i8) x.w).length : Int)) (x) ((↑(List.map (row1 IntKind.i8) x.w).length : Int)) (by (simp only [List.length_map]; omega)) hw
  have oz4 := @lnum_1 (B ++ L (↑(List.map (row1 IntKind.i8) x.w).length : Int) ++ smallL x.w) (L) ((↑(List.map (row1 IntKind.i32) x.b).length : Int)) (16384) (by (simp only [List.length_map]; omega)) hL
  have oz6 := @lwid_x (B ++ L (↑(List.map (row1 IntKind.i8) x.w).length : Int) ++ smallL x.w ++ L (↑(List.map (row1 IntKind.i32) x.b).length : Int)) (x) ((↑(List.map (row1 IntKind.i32) x.b).length : Int)) (by (simp only [List.length_map]; omega)) (by omega) hx
  exact VM.run (fn := Try.f168) (W := [.r [] [], .r [] [.callm [(950, 950), (100000, 100000), (6, 100001)] [(951, 20000)] (rM oz0) (oM oz0)], .r [] [.callm [(20000, 950), (100000, 100000), (100001, 100001)] [(951, 20001)] (rM oz2) (oM oz2)], .r [] [], .r [] [.callm [(20001, 950), (100000, 100000), (7, 100001)] [(951, 20002)] (rM oz4) (oM oz4)], .r [] [.callm [(20002, 950), (100000, 100000), (100001, 100001)] [(951, 20003)] (rM oz6) (oM oz6)]]) (G := [.drop [6, 7], .ren 20003 951, .blk 951 (Blk.slc 5 1 (List.map (row1 IntKind.u8) (B ++ L (↑x.w.length : Int) ++ smallL x.w ++ L (↑x.b.length : Int) ++ wideL x.b))), .sort]) Try.func168 (by kernel_rfl) (.c oz0 <| .c oz1 <| .c oz2 <| .c (show MethodIs Try.prog (160 : Nat) "stepwell/pack.small" (methF Try.prog (160 : Nat) "stepwell/pack.small") from (methodIs (by kernel_rfl))) <| .c oz4 <| .c oz1 <| .c oz6 <| .c (show MethodIs Try.prog (160 : Nat) "stepwell/pack.wides" (methF Try.prog (160 : Nat) "stepwell/pack.wides") from (methodIs (by kernel_rfl))) <| .c (show BlkW (Blk.slc 5 1 (List.map (row1 IntKind.u8) (B ++ L (↑(List.map (row1 IntKind.i8) x.w).length : Int) ++ smallL x.w ++ L (↑(List.map (row1 IntKind.i32) x.b).length : Int) ++ wideL x.b))) (Blk.slc 5 1 (List.map (row1 IntKind.u8) (B ++ L (↑x.w.length : Int) ++ smallL x.w ++ L (↑x.b.length : Int) ++ wideL x.b))) from (BlkW.rows (e := 5) (z := 1) (rows_to (row1 IntKind.u8) (r := List.map (row1 IntKind.u8) (B ++ L (↑(List.map (row1 IntKind.i8) x.w).length : Int) ++ smallL x.w ++ L (↑(List.map (row1 IntKind.i32) x.b).length : Int) ++ wideL x.b)) (l := B ++ L (↑(List.map (row1 IntKind.i8) x.w).length : Int) ++ smallL x.w ++ L (↑(List.map (row1 IntKind.i32) x.b).length : Int) ++ wideL x.b) (m := B ++ L (↑x.w.length : Int) ++ smallL x.w ++ L (↑x.b.length : Int) ++ wideL x.b) rfl (show (B ++ L (↑(List.map (row1 IntKind.i8) x.w).length : Int) ++ smallL x.w ++ L (↑(List.map (row1 IntKind.i32) x.b).length : Int) ++ wideL x.b) = (B ++ L (↑x.w.length : Int) ++ smallL x.w ++ L (↑x.b.length : Int) ++ wideL x.b) from (by (simp; done)))))) <| .n)
theorem lexit_n (B : List Int) (L : Int → List Int) (x : Blc) (hB : B.length ≤ 400000) (hL : Puts L) (hk : x.ex = false) : VM Try.prog 116 ([.ifc 160 (.ptr 100000 0 0), .ptr 100001 0 0]) ([(950, .slc 5 1 (B.map (row1 .u8))), (100000, .var [.own 950]), (100001, .var (blcC x))]) (.tup []) ([(951, .slc 5 1 ((B ++ L 0).map (row1 .u8))), (100000, .var [.own 951]), (100001, .var (blcC x))]) := by
  have oz1 := @lnum_1 (B) (L) (0) (1) (by omega) hL
  exact VM.run (fn := Try.f116) (W := [.r [] [], .r [] [], .br false, .r [] [.callm [(950, 950), (100000, 100000), (4, 100001)] [(951, 20000)] (rM oz1) (oM oz1)], .r [] [], .r [] [], .br true]) (G := [.drop [4], .ren 20000 951, .blk 100001 (Blk.var [AV.sl 19 (List.map nodC x.n), bv x.ex, AV.sl 1 (List.map (row1 IntKind.i8) x.w), AV.sl 1 (List.map (row1 IntKind.i32) x.b), i32 x.nd]), .sort]) Try.func116 (by kernel_rfl) (.c hk <| .c oz1 <| .c (show MethodIs Try.prog (160 : Nat) "stepwell/pack.number" (methF Try.prog (160 : Nat) "stepwell/pack.number") from (methodIs (by kernel_rfl))) <| .c (show true = true by with_reducible rfl) <| .c (show BlkW (Blk.var [AV.sl 19 (List.map nodC x.n), bv false, AV.sl 1 (List.map (row1 IntKind.i8) x.w), AV.sl 1 (List.map (row1 IntKind.i32) x.b), i32 x.nd]) (Blk.var [AV.sl 19 (List.map nodC x.n), bv x.ex, AV.sl 1 (List.map (row1 IntKind.i8) x.w), AV.sl 1 (List.map (row1 IntKind.i32) x.b), i32 x.nd]) from (BlkW.var (m := [AV.sl 19 (List.map nodC x.n), bv x.ex, AV.sl 1 (List.map (row1 IntKind.i8) x.w), AV.sl 1 (List.map (row1 IntKind.i32) x.b), i32 x.nd]) (.cons (.refl _) (.cons (Weak.bool (show ((false) : Bool) = (x.ex) from (by (simp; omega)))) (.cons (.refl _) (.cons (.refl _) (.cons (.refl _) .nil))))))) <| .n)
theorem lexit_y (B : List Int) (L : Int → List Int) (x : Blc) (hB : B.length ≤ 300000) (hL : Puts L) (hk : x.ex = true) (hw : x.w.length ≤ 16384) (hb : x.b.length ≤ 16384) (hx : ∀ v ∈ x.b, -2147483648 ≤ v ∧ v ≤ 2147483647) (hn : In32 x.nd) : VM Try.prog 116 ([.ifc 160 (.ptr 100000 0 0), .ptr 100001 0 0]) ([(950, .slc 5 1 (B.map (row1 .u8))), (100000, .var [.own 950]), (100001, .var (blcC x))]) (.tup []) ([(951, .slc 5 1 ((B ++ L 1 ++ L (x.w.length : Int) ++ smallL x.w ++ L (x.b.length : Int) ++ wideL x.b ++ L x.nd).map (row1 .u8))), (100000, .var [.own 951]), (100001, .var (blcC x))]) := by
  have q1 := hL.l (x.w.length : Int)
  have q3 := hL.l (x.b.length : Int)
  have q7 := hL.l 1
  have q2 : (smallL x.w).length = x.w.length := List.length_map _
  have q8 := wideL_len x.b hx
  have r0 : (B ++ L 1).length ≤ 500000 := by (try simp only [List.length_append]); omega
  have r1 : (B ++ L 1 ++ L (x.w.length : Int) ++ smallL x.w ++ L (x.b.length : Int) ++ wideL x.b).length ≤ 1000000 := by (try simp only [List.length_append]); omega
  have w5 : x.w.length ≤ 100000 := by omega
  clear q1 q3 q7 q2 q8
  have oz1 := @lnum_1 (B) (L) (1) (1) (by omega) hL
  have oz2 := (show MethodIs Try.prog (160 : Nat) "stepwell/pack.number" (methF Try.prog (160 : Nat) "stepwell/pack.number") from (methodIs (by kernel_rfl)))
  have oz4 := @llists_x (B ++ L 1) (L) (Blc.mk x.n true x.w x.b x.nd) r0 hL w5 hb hx
  have oz6 := @lnum_1 (B ++ L 1 ++ L (↑x.w.length : Int) ++ smallL x.w ++ L (↑x.b.length : Int) ++ wideL x.b) (L) (x.nd) (2147483647) r1 hL
  exact VM.run (fn := Try.f116) (W := [.r [] [], .r [] [], .br true, .r [] [], .r [] [.callm [(950, 950), (100000, 100000), (4, 100001)] [(951, 20000)] (rM oz1) (oM oz1)], .r [] [], .r [] [], .br false, .r [] [.callm [(20000, 950), (100000, 100000), (100001, 100001)] [(951, 20001)] (rM oz4) (oM oz4)], .r [] [.n x.nd], .r [] [.callm [(20001, 950), (100000, 100000), (5, 100001)] [(951, 20002)] (rM oz6) (oM oz6)], .r [] [.n x.nd]]) (G := [.drop [4, 5], .ren 20002 951, .blk 100001 (Blk.var [AV.sl 19 (List.map nodC x.n), bv x.ex, AV.sl 1 (List.map (row1 IntKind.i8) x.w), AV.sl 1 (List.map (row1 IntKind.i32) x.b), i32 x.nd]), .sort]) Try.func116 (by kernel_rfl) (.c hk <| .c oz1 <| .c oz2 <| .c (show false = false by with_reducible rfl) <| .c oz4 <| .c (IntWalk.i64_in x.nd (by omega)) <| .c oz6 <| .c oz2 <| .c (IntWalk.i32_in x.nd (by omega)) <| .c (show BlkW (Blk.var [AV.sl 19 (List.map nodC x.n), bv true, AV.sl 1 (List.map (row1 IntKind.i8) x.w), AV.sl 1 (List.map (row1 IntKind.i32) x.b), i32 x.nd]) (Blk.var [AV.sl 19 (List.map nodC x.n), bv x.ex, AV.sl 1 (List.map (row1 IntKind.i8) x.w), AV.sl 1 (List.map (row1 IntKind.i32) x.b), i32 x.nd]) from (BlkW.var (m := [AV.sl 19 (List.map nodC x.n), bv x.ex, AV.sl 1 (List.map (row1 IntKind.i8) x.w), AV.sl 1 (List.map (row1 IntKind.i32) x.b), i32 x.nd]) (.cons (.refl _) (.cons (Weak.bool (show ((true) : Bool) = (x.ex) from (by (simp; omega)))) (.cons (.refl _) (.cons (.refl _) (.cons (.refl _) .nil))))))) <| .n)
end Go.Proofs.Ytgecmooedhnenaa
/- The numbers of a node by its kind, of a taker. No condition. -/
namespace Go.Proofs.Ytgecmooedhnenaa
open Go.RowKit
set_option linter.unusedSimpArgs false
set_option linter.unusedVariables false
set_option linter.unnecessarySimpa false
theorem tsides_1 (s : Rst) (n : Nod) (h : s.In) (hk : n.kd = 1) : VM Try.prog 166 ([.ifc 169 (.agg [.ptr 100000 0 0]), .ptr 100001 0 0, .agg [bv false, bv true, bv true, bv true, bv true, bv true]]) ([(100000, .var (rdC s)), (100001, .var (nodC n))]) (.tup []) ([(100000, .var (rdC (cntS (cntS (cntS (cntS s 1024) 1024) 1024) 1024))), (100001, .var (nodC { n with nk := cntV s 1024, ns := cntV (cntS s 1024) 1024, np := cntV (cntS (cntS s 1024) 1024) 1024, no := cntV (cntS (cntS (cntS s 1024) 1024) 1024) 1024 }))]) := by
  have oz0 := @side_n
  have oz1 := @tside_nk (s) (n) h
  have oz2 := @tside_ns (cntS s 1024) (Nod.mk n.kd n.na n.nb (cntV s 1024) n.ns n.np n.no n.za n.zb n.w n.b n.qm n.qs n.qz n.rm n.rs n.rz n.lo n.hi) (by (repeat first | exact h | apply cnt_in))
  have oz3 := (show true = !false by (simp; done))
  have oz9 := @tside_np (cntS (cntS s 1024) 1024) (Nod.mk n.kd n.na n.nb (cntV s 1024) (cntV (cntS s 1024) 1024) n.np n.no n.za n.zb n.w n.b n.qm n.qs n.qz n.rm n.rs n.rz n.lo n.hi) (by (repeat first | exact h | apply cnt_in))
  have oz10 := @tside_no (cntS (cntS (cntS s 1024) 1024) 1024) (Nod.mk n.kd n.na n.nb (cntV s 1024) (cntV (cntS s 1024) 1024) (cntV (cntS (cntS s 1024) 1024) 1024) n.no n.za n.zb n.w n.b n.qm n.qs n.qz n.rm n.rs n.rz n.lo n.hi) (by (repeat first | exact h | apply cnt_in))
  exact VM.run (fn := Try.f166) (W := [.r [] [], .r [] [], .r [] [.callm [] [] (rM oz0) (oM oz0)], .r [] [.callm [(100000, 100000), (100001, 100001), (3, 100002)] [] (rM oz1) (oM oz1)], .r [] [.callm [(100000, 100000), (100001, 100001), (3, 100002)] [] (rM oz2) (oM oz2)], .r [] [.br false, .br false, .br false, .br false, .br false, .br true, .callm [(100000, 100000), (100001, 100001), (3, 100002)] [] (rM oz9) (oM oz9)], .r [] [.callm [(100000, 100000), (100001, 100001), (3, 100002)] [] (rM oz10) (oM oz10)]]) (G := [.drop [5, 3], .sort]) Try.func166 (by kernel_rfl) (.c oz0 <| .c oz1 <| .c oz2 <| .c oz3 <| .c oz3 <| .c oz3 <| .c oz3 <| .c oz3 <| .c (show true = true by with_reducible rfl) <| .c oz9 <| .c oz10 <| .n)
theorem tsides_2 (s : Rst) (n : Nod) (h : s.In) (hk : n.kd = 2) : VM Try.prog 166 ([.ifc 169 (.agg [.ptr 100000 0 0]), .ptr 100001 0 0, .agg [bv false, bv true, bv false, bv true, bv true, bv true]]) ([(100000, .var (rdC s)), (100001, .var (nodC n))]) (.tup []) ([(100000, .var (rdC (cntS (cntS (cntS s 1024) 1024) 1024))), (100001, .var (nodC { n with nk := cntV s 1024, ns := cntV (cntS s 1024) 1024, np := cntV (cntS (cntS s 1024) 1024) 1024 }))]) := by
  have oz0 := @side_n
  have oz1 := @tside_nk (s) (n) h
  have oz2 := @tside_ns (cntS s 1024) (Nod.mk n.kd n.na n.nb (cntV s 1024) n.ns n.np n.no n.za n.zb n.w n.b n.qm n.qs n.qz n.rm n.rs n.rz n.lo n.hi) (by (repeat first | exact h | apply cnt_in))
  have oz3 := (show true = !false by (simp; done))
  have oz9 := @tside_np (cntS (cntS s 1024) 1024) (Nod.mk n.kd n.na n.nb (cntV s 1024) (cntV (cntS s 1024) 1024) n.np n.no n.za n.zb n.w n.b n.qm n.qs n.qz n.rm n.rs n.rz n.lo n.hi) (by (repeat first | exact h | apply cnt_in))
  exact VM.run (fn := Try.f166) (W := [.r [] [], .r [] [], .r [] [.callm [] [] (rM oz0) (oM oz0)], .r [] [.callm [(100000, 100000), (100001, 100001), (3, 100002)] [] (rM oz1) (oM oz1)], .r [] [.callm [(100000, 100000), (100001, 100001), (3, 100002)] [] (rM oz2) (oM oz2)], .r [] [.br false, .br false, .br false, .br false, .br false, .br true, .callm [(100000, 100000), (100001, 100001), (3, 100002)] [] (rM oz9) (oM oz9)], .r [] [.callm [] [] (rM oz0) (oM oz0)]]) (G := [.drop [5, 3], .sort]) Try.func166 (by kernel_rfl) (.c oz0 <| .c oz1 <| .c oz2 <| .c oz3 <| .c oz3 <| .c oz3 <| .c oz3 <| .c oz3 <| .c (show true = true by with_reducible rfl) <| .c oz9 <| .c oz0 <| .n)
theorem tsides_3 (s : Rst) (n : Nod) (h : s.In) (hk : n.kd = 3) : VM Try.prog 166 ([.ifc 169 (.agg [.ptr 100000 0 0]), .ptr 100001 0 0, .agg [bv false, bv false, bv true, bv true, bv true, bv true]]) ([(100000, .var (rdC s)), (100001, .var (nodC n))]) (.tup []) ([(100000, .var (rdC (cntS s 1024))), (100001, .var (nodC { n with no := cntV s 1024 }))]) := by
  have oz0 := @side_n
  have oz3 := (show false = false by with_reducible rfl)
  have oz9 := @VM.pre _ _ ([bv (n.kd == 8), AV.any, AV.any]) _ ([]) _ _ _ ([GI.weak 0 (bv false), GI.sort]) _ (@side_n) (by kernel_rfl) (.c (Weak.bool (show ((n.kd == 8) : Bool) = (false) from (by (refine decide_eq_false ?_; omega)))) <| .n)
  have oz10 := @tside_no (s) (n) h
  exact VM.run (fn := Try.f166) (W := [.r [] [], .r [] [], .r [] [.callm [] [] (rM oz0) (oM oz0)], .r [] [.callm [] [] (rM oz0) (oM oz0)], .r [] [.callm [] [] (rM oz0) (oM oz0)], .r [] [.br true, .br true, .br true, .br true, .br true, .br false, .callm [] [] (rM oz9) (oM oz9)], .r [] [.callm [(100000, 100000), (100001, 100001), (3, 100002)] [] (rM oz10) (oM oz10)]]) (G := [.drop [5, 3], .sort]) Try.func166 (by kernel_rfl) (.c oz0 <| .c oz0 <| .c oz0 <| .c oz3 <| .c oz3 <| .c oz3 <| .c oz3 <| .c oz3 <| .c oz3 <| .c oz9 <| .c oz10 <| .n)
theorem tsides_4 (s : Rst) (n : Nod) (h : s.In) (hk : n.kd = 4 ∨ n.kd = 5) : VM Try.prog 166 ([.ifc 169 (.agg [.ptr 100000 0 0]), .ptr 100001 0 0, .agg [bv false, bv true, bv false, bv false, bv false, bv false]]) ([(100000, .var (rdC s)), (100001, .var (nodC n))]) (.tup []) ([(100000, .var (rdC (cntS (cntS (cntS s 1024) 1024) 1024))), (100001, .var (nodC { n with nk := cntV s 1024, ns := cntV (cntS s 1024) 1024, np := cntV (cntS (cntS s 1024) 1024) 1024 }))]) := by
  have oz0 := @side_n
  have oz1 := @tside_nk (s) (n) h
  have oz2 := @tside_ns (cntS s 1024) (Nod.mk n.kd n.na n.nb (cntV s 1024) n.ns n.np n.no n.za n.zb n.w n.b n.qm n.qs n.qz n.rm n.rs n.rz n.lo n.hi) (by (repeat first | exact h | apply cnt_in))
  have oz3 := (show true = !false by (simp; done))
  have oz9 := @tside_np (cntS (cntS s 1024) 1024) (Nod.mk n.kd n.na n.nb (cntV s 1024) (cntV (cntS s 1024) 1024) n.np n.no n.za n.zb n.w n.b n.qm n.qs n.qz n.rm n.rs n.rz n.lo n.hi) (by (repeat first | exact h | apply cnt_in))
  exact VM.run (fn := Try.f166) (W := [.r [] [], .r [] [], .r [] [.callm [] [] (rM oz0) (oM oz0)], .r [] [.callm [(100000, 100000), (100001, 100001), (3, 100002)] [] (rM oz1) (oM oz1)], .r [] [.callm [(100000, 100000), (100001, 100001), (3, 100002)] [] (rM oz2) (oM oz2)], .r [] [.br false, .br false, .br false, .br false, .br false, .br true, .callm [(100000, 100000), (100001, 100001), (3, 100002)] [] (rM oz9) (oM oz9)], .r [] [.callm [] [] (rM oz0) (oM oz0)]]) (G := [.drop [5, 3], .sort]) Try.func166 (by kernel_rfl) (.c oz0 <| .c oz1 <| .c oz2 <| .c oz3 <| .c oz3 <| .c oz3 <| .c oz3 <| .c oz3 <| .c (show true = true by with_reducible rfl) <| .c oz9 <| .c oz0 <| .n)
theorem tsides_6 (s : Rst) (n : Nod) (h : s.In) (hk : n.kd = 6) : VM Try.prog 166 ([.ifc 169 (.agg [.ptr 100000 0 0]), .ptr 100001 0 0, .agg [bv true, bv false, bv false, bv true, bv false, bv true]]) ([(100000, .var (rdC s)), (100001, .var (nodC n))]) (.tup []) ([(100000, .var (rdC (cntS s 1024))), (100001, .var (nodC { n with nb := cntV s 1024 }))]) := by
  have oz0 := @tside_nb (s) (n) h
  have oz1 := @side_n
  have oz3 := (show false = false by with_reducible rfl)
  have oz9 := @VM.pre _ _ ([bv (n.kd == 8), AV.any, AV.any]) _ ([]) _ _ _ ([GI.weak 0 (bv false), GI.sort]) _ (@side_n) (by kernel_rfl) (.c (Weak.bool (show ((n.kd == 8) : Bool) = (false) from (by (refine decide_eq_false ?_; omega)))) <| .n)
  exact VM.run (fn := Try.f166) (W := [.r [] [], .r [] [], .r [] [.callm [(100000, 100000), (100001, 100001), (3, 100002)] [] (rM oz0) (oM oz0)], .r [] [.callm [] [] (rM oz1) (oM oz1)], .r [] [.callm [] [] (rM oz1) (oM oz1)], .r [] [.br true, .br true, .br true, .br true, .br true, .br false, .callm [] [] (rM oz9) (oM oz9)], .r [] [.callm [] [] (rM oz1) (oM oz1)]]) (G := [.drop [5, 3], .sort]) Try.func166 (by kernel_rfl) (.c oz0 <| .c oz1 <| .c oz1 <| .c oz3 <| .c oz3 <| .c oz3 <| .c oz3 <| .c oz3 <| .c oz3 <| .c oz9 <| .c oz1 <| .n)
theorem tsides_7 (s : Rst) (n : Nod) (h : s.In) (hk : n.kd = 7) : VM Try.prog 166 ([.ifc 169 (.agg [.ptr 100000 0 0]), .ptr 100001 0 0, .agg [bv false, bv false, bv false, bv true, bv false, bv true]]) ([(100000, .var (rdC s)), (100001, .var (nodC n))]) (.tup []) ([(100000, .var (rdC s)), (100001, .var (nodC n))]) := by
  have oz0 := @side_n
  have oz3 := (show false = false by with_reducible rfl)
  have oz9 := @VM.pre _ _ ([bv (n.kd == 8), AV.any, AV.any]) _ ([]) _ _ _ ([GI.weak 0 (bv false), GI.sort]) _ (@side_n) (by kernel_rfl) (.c (Weak.bool (show ((n.kd == 8) : Bool) = (false) from (by (refine decide_eq_false ?_; omega)))) <| .n)
  exact VM.run (fn := Try.f166) (W := [.r [] [], .r [] [], .r [] [.callm [] [] (rM oz0) (oM oz0)], .r [] [.callm [] [] (rM oz0) (oM oz0)], .r [] [.callm [] [] (rM oz0) (oM oz0)], .r [] [.br true, .br true, .br true, .br true, .br true, .br false, .callm [] [] (rM oz9) (oM oz9)], .r [] [.callm [] [] (rM oz0) (oM oz0)]]) (G := [.drop [3, 5], .sort]) Try.func166 (by kernel_rfl) (.c oz0 <| .c oz0 <| .c oz0 <| .c oz3 <| .c oz3 <| .c oz3 <| .c oz3 <| .c oz3 <| .c oz3 <| .c oz9 <| .c oz0 <| .n)
theorem tsides_8 (s : Rst) (n : Nod) (h : s.In) (hk : n.kd = 8) : VM Try.prog 166 ([.ifc 169 (.agg [.ptr 100000 0 0]), .ptr 100001 0 0, .agg [bv false, bv false, bv false, bv true, bv false, bv false]]) ([(100000, .var (rdC s)), (100001, .var (nodC n))]) (.tup []) ([(100000, .var (rdC (cntS s 1024))), (100001, .var (nodC { n with np := cntV s 1024 }))]) := by
  have oz0 := @side_n
  have oz3 := (show false = false by with_reducible rfl)
  have oz9 := @VM.pre _ _ ([bv (n.kd == 8), AV.ptr 100001 0 5, AV.ptr 100002 0 0]) _ ([(100000, Blk.var [AV.sl 1 (List.map (row1 IntKind.u8) s.fst), i64 s.snd]), (100001, Blk.var [i64 n.kd, i64 n.na, i64 n.nb, i64 n.nk, i64 n.ns, i64 n.np, i64 n.no, i8 n.za, i8 n.zb, AV.sl 1 (List.map (row1 IntKind.i8) n.w), AV.sl 1 (List.map (row1 IntKind.i32) n.b), i32 n.qm, i64 n.qs, i8 n.qz, i32 n.rm, i64 n.rs, i8 n.rz, i8 n.lo, i8 n.hi]), (100002, Blk.var [AV.ifc 169 (AV.agg [AV.ptr 100000 0 0])])]) _ _ _ ([GI.weak 0 (bv true), GI.sort]) _ (@tside_np (s) (n) h) (by kernel_rfl) (.c (Weak.bool (show ((n.kd == 8) : Bool) = (true) from (by (refine decide_eq_true ?_; omega)))) <| .n)
  exact VM.run (fn := Try.f166) (W := [.r [] [], .r [] [], .r [] [.callm [] [] (rM oz0) (oM oz0)], .r [] [.callm [] [] (rM oz0) (oM oz0)], .r [] [.callm [] [] (rM oz0) (oM oz0)], .r [] [.br true, .br true, .br true, .br true, .br true, .br false, .callm [(100000, 100000), (100001, 100001), (3, 100002)] [] (rM oz9) (oM oz9)], .r [] [.callm [] [] (rM oz0) (oM oz0)]]) (G := [.drop [5, 3], .sort]) Try.func166 (by kernel_rfl) (.c oz0 <| .c oz0 <| .c oz0 <| .c oz3 <| .c oz3 <| .c oz3 <| .c oz3 <| .c oz3 <| .c oz3 <| .c oz9 <| .c oz0 <| .n)
theorem tsides_9 (s : Rst) (n : Nod) (h : s.In) (hk : n.kd < 1 ∨ 8 < n.kd) : VM Try.prog 166 ([.ifc 169 (.agg [.ptr 100000 0 0]), .ptr 100001 0 0, .agg [bv false, bv false, bv false, bv false, bv false, bv false]]) ([(100000, .var (rdC s)), (100001, .var (nodC n))]) (.tup []) ([(100000, .var (rdC s)), (100001, .var (nodC n))]) := by
  have oz0 := @side_n
  have oz3 := (show false = false by with_reducible rfl)
  have oz9 := @VM.pre _ _ ([bv (n.kd == 8), AV.any, AV.any]) _ ([]) _ _ _ ([GI.weak 0 (bv false), GI.sort]) _ (@side_n) (by kernel_rfl) (.c (Weak.bool (show ((n.kd == 8) : Bool) = (false) from (by (refine decide_eq_false ?_; omega)))) <| .n)
  exact VM.run (fn := Try.f166) (W := [.r [] [], .r [] [], .r [] [.callm [] [] (rM oz0) (oM oz0)], .r [] [.callm [] [] (rM oz0) (oM oz0)], .r [] [.callm [] [] (rM oz0) (oM oz0)], .r [] [.br true, .br true, .br true, .br true, .br true, .br false, .callm [] [] (rM oz9) (oM oz9)], .r [] [.callm [] [] (rM oz0) (oM oz0)]]) (G := [.drop [3, 5], .sort]) Try.func166 (by kernel_rfl) (.c oz0 <| .c oz0 <| .c oz0 <| .c oz3 <| .c oz3 <| .c oz3 <| .c oz3 <| .c oz3 <| .c oz3 <| .c oz9 <| .c oz0 <| .n)
end Go.Proofs.Ytgecmooedhnenaa
/- The walk through a node, of a taker. No condition. -/
namespace Go.Proofs.Ytgecmooedhnenaa
open Go.RowKit
set_option linter.unusedSimpArgs false
set_option linter.unusedVariables false
set_option linter.unnecessarySimpa false
def lstW (s : Rst) : List Int := smlV (cntS s 16384) (cntV s 16384)
def lst1 (s : Rst) : Rst := smlS (cntS s 16384) (cntV s 16384)
def lstB (s : Rst) : List Int := widV (cntS (lst1 s) 16384) (cntV (lst1 s) 16384)
def lstS (s : Rst) : Rst := widS (cntS (lst1 s) 16384) (cntV (lst1 s) 16384)
def sclS (s : Rst) : Rst := cntS (cntS s 2147483647) 62
def sclM (s : Rst) : Int := cntV s 2147483647
def sclH (s : Rst) : Int := cntV (cntS s 2147483647) 62
theorem lst_in {s : Rst} (h : s.In) : (lstS s).In := wid_in (cnt_in (sml_in (cnt_in h _) _) _) _
theorem scl_in {s : Rst} (h : s.In) : (sclS s).In := cnt_in (cnt_in h _) _
theorem tlists_v (s : Rst) (n : Nod) (h : s.In) : VM Try.prog 168 [.ifc 169 (.agg [.ptr 100000 0 0]), .ptr 100001 0 9, .ptr 100001 0 10] [(100000, .var (rdC s)), (100001, .var (nodC n))] (.tup []) [(100000, .var (rdC (lstS s))), (100001, .var (nodC { n with w := lstW s, b := lstB s }))] := tlists_0 s n h
theorem tscale_qv (s : Rst) (n : Nod) (h : s.In) : VM Try.prog 169 [.ifc 169 (.agg [.ptr 100000 0 0]), .ptr 100001 0 11] [(100000, .var (rdC s)), (100001, .var (nodC n))] (.tup []) [(100000, .var (rdC (sclS s))), (100001, .var (nodC { n with qm := sclM s, qs := sclH s }))] := tscale_q s n h
theorem tscale_rv (s : Rst) (n : Nod) (h : s.In) : VM Try.prog 169 [.ifc 169 (.agg [.ptr 100000 0 0]), .ptr 100001 0 14] [(100000, .var (rdC s)), (100001, .var (nodC n))] (.tup []) [(100000, .var (rdC (sclS s))), (100001, .var (nodC { n with rm := sclM s, rs := sclH s }))] := tscale_r s n h
def ts_1 (s : Rst) : Rst := (smlS (smlS (smlS (sclS (lstS (smlS (cntS (cntS (cntS (cntS (cntS (cntS s 9) 1024) 1024) 1024) 1024) 1024) 1))) 1) 1) 1)
def tn_1 (s : Rst) (n : Nod) : Nod := { n with kd := cntV s 9, na := cntV (cntS s 9) 1024, nk := cntV (cntS (cntS s 9) 1024) 1024, ns := cntV (cntS (cntS (cntS s 9) 1024) 1024) 1024, np := cntV (cntS (cntS (cntS (cntS s 9) 1024) 1024) 1024) 1024, no := cntV (cntS (cntS (cntS (cntS (cntS s 9) 1024) 1024) 1024) 1024) 1024, za := oneV (cntS (cntS (cntS (cntS (cntS (cntS s 9) 1024) 1024) 1024) 1024) 1024), w := lstW (smlS (cntS (cntS (cntS (cntS (cntS (cntS s 9) 1024) 1024) 1024) 1024) 1024) 1), b := lstB (smlS (cntS (cntS (cntS (cntS (cntS (cntS s 9) 1024) 1024) 1024) 1024) 1024) 1), qm := sclM (lstS (smlS (cntS (cntS (cntS (cntS (cntS (cntS s 9) 1024) 1024) 1024) 1024) 1024) 1)), qs := sclH (lstS (smlS (cntS (cntS (cntS (cntS (cntS (cntS s 9) 1024) 1024) 1024) 1024) 1024) 1)), qz := oneV (sclS (lstS (smlS (cntS (cntS (cntS (cntS (cntS (cntS s 9) 1024) 1024) 1024) 1024) 1024) 1))), lo := oneV (smlS (sclS (lstS (smlS (cntS (cntS (cntS (cntS (cntS (cntS s 9) 1024) 1024) 1024) 1024) 1024) 1))) 1), hi := oneV (smlS (smlS (sclS (lstS (smlS (cntS (cntS (cntS (cntS (cntS (cntS s 9) 1024) 1024) 1024) 1024) 1024) 1))) 1) 1) }
theorem twalk_1 (s : Rst) (n : Nod) (h : s.In) (hk : cntV s 9 = 1) (z1 : n.za = 0) (z2 : n.zb = 0) (z3 : n.qz = 0) (z4 : n.lo = 0) (z5 : n.hi = 0) : VM Try.prog 105 ([.ifc 169 (.agg [.ptr 100000 0 0]), .ptr 100001 0 0]) ([(100000, .var (rdC s)), (100001, .var (nodC n))]) (.tup []) ([(100000, .var (rdC (smlS (smlS (smlS (sclS (lstS (smlS (cntS (cntS (cntS (cntS (cntS (cntS s 9) 1024) 1024) 1024) 1024) 1024) 1))) 1) 1) 1))), (100001, .var (nodC { n with kd := cntV s 9, na := cntV (cntS s 9) 1024, nk := cntV (cntS (cntS s 9) 1024) 1024, ns := cntV (cntS (cntS (cntS s 9) 1024) 1024) 1024, np := cntV (cntS (cntS (cntS (cntS s 9) 1024) 1024) 1024) 1024, no := cntV (cntS (cntS (cntS (cntS (cntS s 9) 1024) 1024) 1024) 1024) 1024, za := oneV (cntS (cntS (cntS (cntS (cntS (cntS s 9) 1024) 1024) 1024) 1024) 1024), w := lstW (smlS (cntS (cntS (cntS (cntS (cntS (cntS s 9) 1024) 1024) 1024) 1024) 1024) 1), b := lstB (smlS (cntS (cntS (cntS (cntS (cntS (cntS s 9) 1024) 1024) 1024) 1024) 1024) 1), qm := sclM (lstS (smlS (cntS (cntS (cntS (cntS (cntS (cntS s 9) 1024) 1024) 1024) 1024) 1024) 1)), qs := sclH (lstS (smlS (cntS (cntS (cntS (cntS (cntS (cntS s 9) 1024) 1024) 1024) 1024) 1024) 1)), qz := oneV (sclS (lstS (smlS (cntS (cntS (cntS (cntS (cntS (cntS s 9) 1024) 1024) 1024) 1024) 1024) 1))), lo := oneV (smlS (sclS (lstS (smlS (cntS (cntS (cntS (cntS (cntS (cntS s 9) 1024) 1024) 1024) 1024) 1024) 1))) 1), hi := oneV (smlS (smlS (sclS (lstS (smlS (cntS (cntS (cntS (cntS (cntS (cntS s 9) 1024) 1024) 1024) 1024) 1024) 1))) 1) 1) }))]) := by
  have oz0 := (show NilNo Try.prog (169 : Nat) "stepwell/pack.number" from (nilNo (f := 119) (by kernel_rfl)))
  have oz1 := @tnum_kd (s) (n) (9) h (by omega) (by omega)
  have oz2 := (show MethodIs Try.prog (169 : Nat) "stepwell/pack.number" (methF Try.prog (169 : Nat) "stepwell/pack.number") from (methodIs (by kernel_rfl)))
  have oz4 := @tnum_na (cntS s 9) (Nod.mk (cntV s 9) n.na n.nb n.nk n.ns n.np n.no n.za n.zb n.w n.b n.qm n.qs n.qz n.rm n.rs n.rz n.lo n.hi) (1024) (by (repeat first | exact h | apply cnt_in | apply sml_in | apply lst_in | apply scl_in)) (by omega) (by omega)
  have oz6 := @of_1 (cntV s 9) hk
  have oz7 := @tsides_1 (cntS (cntS s 9) 1024) (Nod.mk (cntV s 9) (cntV (cntS s 9) 1024) n.nb n.nk n.ns n.np n.no n.za n.zb n.w n.b n.qm n.qs n.qz n.rm n.rs n.rz n.lo n.hi) (by (repeat first | exact h | apply cnt_in | apply sml_in | apply lst_in | apply scl_in)) hk
  have oz8 := (show true = true by with_reducible rfl)
  have oz9 := @tone_za (cntS (cntS (cntS (cntS (cntS (cntS s 9) 1024) 1024) 1024) 1024) 1024) (Nod.mk (cntV s 9) (cntV (cntS s 9) 1024) n.nb (cntV (cntS (cntS s 9) 1024) 1024) (cntV (cntS (cntS (cntS s 9) 1024) 1024) 1024) (cntV (cntS (cntS (cntS (cntS s 9) 1024) 1024) 1024) 1024) (cntV (cntS (cntS (cntS (cntS (cntS s 9) 1024) 1024) 1024) 1024) 1024) n.za n.zb n.w n.b n.qm n.qs n.qz n.rm n.rs n.rz n.lo n.hi) (by (repeat first | exact h | apply cnt_in | apply sml_in | apply lst_in | apply scl_in)) z1
  have oz10 := (show false = false by with_reducible rfl)
  have oz12 := @tlists_v (smlS (cntS (cntS (cntS (cntS (cntS (cntS s 9) 1024) 1024) 1024) 1024) 1024) 1) (Nod.mk (cntV s 9) (cntV (cntS s 9) 1024) n.nb (cntV (cntS (cntS s 9) 1024) 1024) (cntV (cntS (cntS (cntS s 9) 1024) 1024) 1024) (cntV (cntS (cntS (cntS (cntS s 9) 1024) 1024) 1024) 1024) (cntV (cntS (cntS (cntS (cntS (cntS s 9) 1024) 1024) 1024) 1024) 1024) (oneV (cntS (cntS (cntS (cntS (cntS (cntS s 9) 1024) 1024) 1024) 1024) 1024)) n.zb n.w n.b n.qm n.qs n.qz n.rm n.rs n.rz n.lo n.hi) (by (repeat first | exact h | apply cnt_in | apply sml_in | apply lst_in | apply scl_in))
  have oz14 := @tscale_qv (lstS (smlS (cntS (cntS (cntS (cntS (cntS (cntS s 9) 1024) 1024) 1024) 1024) 1024) 1)) (Nod.mk (cntV s 9) (cntV (cntS s 9) 1024) n.nb (cntV (cntS (cntS s 9) 1024) 1024) (cntV (cntS (cntS (cntS s 9) 1024) 1024) 1024) (cntV (cntS (cntS (cntS (cntS s 9) 1024) 1024) 1024) 1024) (cntV (cntS (cntS (cntS (cntS (cntS s 9) 1024) 1024) 1024) 1024) 1024) (oneV (cntS (cntS (cntS (cntS (cntS (cntS s 9) 1024) 1024) 1024) 1024) 1024)) n.zb (lstW (smlS (cntS (cntS (cntS (cntS (cntS (cntS s 9) 1024) 1024) 1024) 1024) 1024) 1)) (lstB (smlS (cntS (cntS (cntS (cntS (cntS (cntS s 9) 1024) 1024) 1024) 1024) 1024) 1)) n.qm n.qs n.qz n.rm n.rs n.rz n.lo n.hi) (by (repeat first | exact h | apply cnt_in | apply sml_in | apply lst_in | apply scl_in))
  have oz15 := @tone_qz (sclS (lstS (smlS (cntS (cntS (cntS (cntS (cntS (cntS s 9) 1024) 1024) 1024) 1024) 1024) 1))) (Nod.mk (cntV s 9) (cntV (cntS s 9) 1024) n.nb (cntV (cntS (cntS s 9) 1024) 1024) (cntV (cntS (cntS (cntS s 9) 1024) 1024) 1024) (cntV (cntS (cntS (cntS (cntS s 9) 1024) 1024) 1024) 1024) (cntV (cntS (cntS (cntS (cntS (cntS s 9) 1024) 1024) 1024) 1024) 1024) (oneV (cntS (cntS (cntS (cntS (cntS (cntS s 9) 1024) 1024) 1024) 1024) 1024)) n.zb (lstW (smlS (cntS (cntS (cntS (cntS (cntS (cntS s 9) 1024) 1024) 1024) 1024) 1024) 1)) (lstB (smlS (cntS (cntS (cntS (cntS (cntS (cntS s 9) 1024) 1024) 1024) 1024) 1024) 1)) (sclM (lstS (smlS (cntS (cntS (cntS (cntS (cntS (cntS s 9) 1024) 1024) 1024) 1024) 1024) 1))) (sclH (lstS (smlS (cntS (cntS (cntS (cntS (cntS (cntS s 9) 1024) 1024) 1024) 1024) 1024) 1))) n.qz n.rm n.rs n.rz n.lo n.hi) (by (repeat first | exact h | apply cnt_in | apply sml_in | apply lst_in | apply scl_in)) z3
  have oz17 := @tone_lo (smlS (sclS (lstS (smlS (cntS (cntS (cntS (cntS (cntS (cntS s 9) 1024) 1024) 1024) 1024) 1024) 1))) 1) (Nod.mk (cntV s 9) (cntV (cntS s 9) 1024) n.nb (cntV (cntS (cntS s 9) 1024) 1024) (cntV (cntS (cntS (cntS s 9) 1024) 1024) 1024) (cntV (cntS (cntS (cntS (cntS s 9) 1024) 1024) 1024) 1024) (cntV (cntS (cntS (cntS (cntS (cntS s 9) 1024) 1024) 1024) 1024) 1024) (oneV (cntS (cntS (cntS (cntS (cntS (cntS s 9) 1024) 1024) 1024) 1024) 1024)) n.zb (lstW (smlS (cntS (cntS (cntS (cntS (cntS (cntS s 9) 1024) 1024) 1024) 1024) 1024) 1)) (lstB (smlS (cntS (cntS (cntS (cntS (cntS (cntS s 9) 1024) 1024) 1024) 1024) 1024) 1)) (sclM (lstS (smlS (cntS (cntS (cntS (cntS (cntS (cntS s 9) 1024) 1024) 1024) 1024) 1024) 1))) (sclH (lstS (smlS (cntS (cntS (cntS (cntS (cntS (cntS s 9) 1024) 1024) 1024) 1024) 1024) 1))) (oneV (sclS (lstS (smlS (cntS (cntS (cntS (cntS (cntS (cntS s 9) 1024) 1024) 1024) 1024) 1024) 1)))) n.rm n.rs n.rz n.lo n.hi) (by (repeat first | exact h | apply cnt_in | apply sml_in | apply lst_in | apply scl_in)) z4
  have oz18 := @tone_hi (smlS (smlS (sclS (lstS (smlS (cntS (cntS (cntS (cntS (cntS (cntS s 9) 1024) 1024) 1024) 1024) 1024) 1))) 1) 1) (Nod.mk (cntV s 9) (cntV (cntS s 9) 1024) n.nb (cntV (cntS (cntS s 9) 1024) 1024) (cntV (cntS (cntS (cntS s 9) 1024) 1024) 1024) (cntV (cntS (cntS (cntS (cntS s 9) 1024) 1024) 1024) 1024) (cntV (cntS (cntS (cntS (cntS (cntS s 9) 1024) 1024) 1024) 1024) 1024) (oneV (cntS (cntS (cntS (cntS (cntS (cntS s 9) 1024) 1024) 1024) 1024) 1024)) n.zb (lstW (smlS (cntS (cntS (cntS (cntS (cntS (cntS s 9) 1024) 1024) 1024) 1024) 1024) 1)) (lstB (smlS (cntS (cntS (cntS (cntS (cntS (cntS s 9) 1024) 1024) 1024) 1024) 1024) 1)) (sclM (lstS (smlS (cntS (cntS (cntS (cntS (cntS (cntS s 9) 1024) 1024) 1024) 1024) 1024) 1))) (sclH (lstS (smlS (cntS (cntS (cntS (cntS (cntS (cntS s 9) 1024) 1024) 1024) 1024) 1024) 1))) (oneV (sclS (lstS (smlS (cntS (cntS (cntS (cntS (cntS (cntS s 9) 1024) 1024) 1024) 1024) 1024) 1)))) n.rm n.rs n.rz (oneV (smlS (sclS (lstS (smlS (cntS (cntS (cntS (cntS (cntS (cntS s 9) 1024) 1024) 1024) 1024) 1024) 1))) 1)) n.hi) (by (repeat first | exact h | apply cnt_in | apply sml_in | apply lst_in | apply scl_in)) z5
  exact VM.run (fn := Try.f105) (W := [.r [] [.callm [(100000, 100000), (100001, 100001)] [] (rM oz1) (oM oz1)], .r [] [.callm [(100000, 100000), (100001, 100001)] [] (rM oz4) (oM oz4)], .r [] [.callr (rO oz6)], .r [] [.callm [(100000, 100000), (100001, 100001)] [] (rM oz7) (oM oz7)], .r [] [], .br true, .r [] [.callm [(100000, 100000), (100001, 100001)] [] (rM oz9) (oM oz9)], .r [] [], .br false, .r [] [], .br true, .r [] [.callm [(100000, 100000), (100001, 100001)] [] (rM oz12) (oM oz12)], .r [] [], .br false, .r [] [.callm [(100000, 100000), (100001, 100001)] [] (rM oz14) (oM oz14)], .r [] [.callm [(100000, 100000), (100001, 100001)] [] (rM oz15) (oM oz15)], .r [] [], .br false, .r [] [.callm [(100000, 100000), (100001, 100001)] [] (rM oz17) (oM oz17)], .r [] [.callm [(100000, 100000), (100001, 100001)] [] (rM oz18) (oM oz18)]]) (G := [.drop [4], .sort]) Try.func105 (by kernel_rfl) (.c oz0 <| .c oz1 <| .c oz2 <| .c oz0 <| .c oz4 <| .c oz2 <| .c oz6 <| .c oz7 <| .c oz8 <| .c oz9 <| .c oz10 <| .c oz8 <| .c oz12 <| .c oz10 <| .c oz14 <| .c oz15 <| .c oz10 <| .c oz17 <| .c oz18 <| .n)
theorem twalk_1v (s : Rst) (n : Nod) (h : s.In) (hk : cntV s 9 = 1) (z1 : n.za = 0) (z2 : n.zb = 0) (z3 : n.qz = 0) (z4 : n.lo = 0) (z5 : n.hi = 0) : VM Try.prog 105 [.ifc 169 (.agg [.ptr 100000 0 0]), .ptr 100001 0 0] [(100000, .var (rdC s)), (100001, .var (nodC n))] (.tup []) [(100000, .var (rdC (ts_1 s))), (100001, .var (nodC (tn_1 s n)))] := twalk_1 s n h hk z1 z2 z3 z4 z5
def ts_2 (s : Rst) : Rst := (smlS (smlS (smlS (sclS (lstS (smlS (cntS (cntS (cntS (cntS (cntS s 9) 1024) 1024) 1024) 1024) 1))) 1) 1) 1)
def tn_2 (s : Rst) (n : Nod) : Nod := { n with kd := cntV s 9, na := cntV (cntS s 9) 1024, nk := cntV (cntS (cntS s 9) 1024) 1024, ns := cntV (cntS (cntS (cntS s 9) 1024) 1024) 1024, np := cntV (cntS (cntS (cntS (cntS s 9) 1024) 1024) 1024) 1024, za := oneV (cntS (cntS (cntS (cntS (cntS s 9) 1024) 1024) 1024) 1024), w := lstW (smlS (cntS (cntS (cntS (cntS (cntS s 9) 1024) 1024) 1024) 1024) 1), b := lstB (smlS (cntS (cntS (cntS (cntS (cntS s 9) 1024) 1024) 1024) 1024) 1), qm := sclM (lstS (smlS (cntS (cntS (cntS (cntS (cntS s 9) 1024) 1024) 1024) 1024) 1)), qs := sclH (lstS (smlS (cntS (cntS (cntS (cntS (cntS s 9) 1024) 1024) 1024) 1024) 1)), qz := oneV (sclS (lstS (smlS (cntS (cntS (cntS (cntS (cntS s 9) 1024) 1024) 1024) 1024) 1))), lo := oneV (smlS (sclS (lstS (smlS (cntS (cntS (cntS (cntS (cntS s 9) 1024) 1024) 1024) 1024) 1))) 1), hi := oneV (smlS (smlS (sclS (lstS (smlS (cntS (cntS (cntS (cntS (cntS s 9) 1024) 1024) 1024) 1024) 1))) 1) 1) }
theorem twalk_2 (s : Rst) (n : Nod) (h : s.In) (hk : cntV s 9 = 2) (z1 : n.za = 0) (z2 : n.zb = 0) (z3 : n.qz = 0) (z4 : n.lo = 0) (z5 : n.hi = 0) : VM Try.prog 105 ([.ifc 169 (.agg [.ptr 100000 0 0]), .ptr 100001 0 0]) ([(100000, .var (rdC s)), (100001, .var (nodC n))]) (.tup []) ([(100000, .var (rdC (smlS (smlS (smlS (sclS (lstS (smlS (cntS (cntS (cntS (cntS (cntS s 9) 1024) 1024) 1024) 1024) 1))) 1) 1) 1))), (100001, .var (nodC { n with kd := cntV s 9, na := cntV (cntS s 9) 1024, nk := cntV (cntS (cntS s 9) 1024) 1024, ns := cntV (cntS (cntS (cntS s 9) 1024) 1024) 1024, np := cntV (cntS (cntS (cntS (cntS s 9) 1024) 1024) 1024) 1024, za := oneV (cntS (cntS (cntS (cntS (cntS s 9) 1024) 1024) 1024) 1024), w := lstW (smlS (cntS (cntS (cntS (cntS (cntS s 9) 1024) 1024) 1024) 1024) 1), b := lstB (smlS (cntS (cntS (cntS (cntS (cntS s 9) 1024) 1024) 1024) 1024) 1), qm := sclM (lstS (smlS (cntS (cntS (cntS (cntS (cntS s 9) 1024) 1024) 1024) 1024) 1)), qs := sclH (lstS (smlS (cntS (cntS (cntS (cntS (cntS s 9) 1024) 1024) 1024) 1024) 1)), qz := oneV (sclS (lstS (smlS (cntS (cntS (cntS (cntS (cntS s 9) 1024) 1024) 1024) 1024) 1))), lo := oneV (smlS (sclS (lstS (smlS (cntS (cntS (cntS (cntS (cntS s 9) 1024) 1024) 1024) 1024) 1))) 1), hi := oneV (smlS (smlS (sclS (lstS (smlS (cntS (cntS (cntS (cntS (cntS s 9) 1024) 1024) 1024) 1024) 1))) 1) 1) }))]) := by
  have oz0 := (show NilNo Try.prog (169 : Nat) "stepwell/pack.number" from (nilNo (f := 119) (by kernel_rfl)))
  have oz1 := @tnum_kd (s) (n) (9) h (by omega) (by omega)
  have oz2 := (show MethodIs Try.prog (169 : Nat) "stepwell/pack.number" (methF Try.prog (169 : Nat) "stepwell/pack.number") from (methodIs (by kernel_rfl)))
  have oz4 := @tnum_na (cntS s 9) (Nod.mk (cntV s 9) n.na n.nb n.nk n.ns n.np n.no n.za n.zb n.w n.b n.qm n.qs n.qz n.rm n.rs n.rz n.lo n.hi) (1024) (by (repeat first | exact h | apply cnt_in | apply sml_in | apply lst_in | apply scl_in)) (by omega) (by omega)
  have oz6 := @of_2 (cntV s 9) hk
  have oz7 := @tsides_2 (cntS (cntS s 9) 1024) (Nod.mk (cntV s 9) (cntV (cntS s 9) 1024) n.nb n.nk n.ns n.np n.no n.za n.zb n.w n.b n.qm n.qs n.qz n.rm n.rs n.rz n.lo n.hi) (by (repeat first | exact h | apply cnt_in | apply sml_in | apply lst_in | apply scl_in)) hk
  have oz8 := (show true = true by with_reducible rfl)
  have oz9 := @tone_za (cntS (cntS (cntS (cntS (cntS s 9) 1024) 1024) 1024) 1024) (Nod.mk (cntV s 9) (cntV (cntS s 9) 1024) n.nb (cntV (cntS (cntS s 9) 1024) 1024) (cntV (cntS (cntS (cntS s 9) 1024) 1024) 1024) (cntV (cntS (cntS (cntS (cntS s 9) 1024) 1024) 1024) 1024) n.no n.za n.zb n.w n.b n.qm n.qs n.qz n.rm n.rs n.rz n.lo n.hi) (by (repeat first | exact h | apply cnt_in | apply sml_in | apply lst_in | apply scl_in)) z1
  have oz10 := (show false = false by with_reducible rfl)
  have oz12 := @tlists_v (smlS (cntS (cntS (cntS (cntS (cntS s 9) 1024) 1024) 1024) 1024) 1) (Nod.mk (cntV s 9) (cntV (cntS s 9) 1024) n.nb (cntV (cntS (cntS s 9) 1024) 1024) (cntV (cntS (cntS (cntS s 9) 1024) 1024) 1024) (cntV (cntS (cntS (cntS (cntS s 9) 1024) 1024) 1024) 1024) n.no (oneV (cntS (cntS (cntS (cntS (cntS s 9) 1024) 1024) 1024) 1024)) n.zb n.w n.b n.qm n.qs n.qz n.rm n.rs n.rz n.lo n.hi) (by (repeat first | exact h | apply cnt_in | apply sml_in | apply lst_in | apply scl_in))
  have oz14 := @tscale_qv (lstS (smlS (cntS (cntS (cntS (cntS (cntS s 9) 1024) 1024) 1024) 1024) 1)) (Nod.mk (cntV s 9) (cntV (cntS s 9) 1024) n.nb (cntV (cntS (cntS s 9) 1024) 1024) (cntV (cntS (cntS (cntS s 9) 1024) 1024) 1024) (cntV (cntS (cntS (cntS (cntS s 9) 1024) 1024) 1024) 1024) n.no (oneV (cntS (cntS (cntS (cntS (cntS s 9) 1024) 1024) 1024) 1024)) n.zb (lstW (smlS (cntS (cntS (cntS (cntS (cntS s 9) 1024) 1024) 1024) 1024) 1)) (lstB (smlS (cntS (cntS (cntS (cntS (cntS s 9) 1024) 1024) 1024) 1024) 1)) n.qm n.qs n.qz n.rm n.rs n.rz n.lo n.hi) (by (repeat first | exact h | apply cnt_in | apply sml_in | apply lst_in | apply scl_in))
  have oz15 := @tone_qz (sclS (lstS (smlS (cntS (cntS (cntS (cntS (cntS s 9) 1024) 1024) 1024) 1024) 1))) (Nod.mk (cntV s 9) (cntV (cntS s 9) 1024) n.nb (cntV (cntS (cntS s 9) 1024) 1024) (cntV (cntS (cntS (cntS s 9) 1024) 1024) 1024) (cntV (cntS (cntS (cntS (cntS s 9) 1024) 1024) 1024) 1024) n.no (oneV (cntS (cntS (cntS (cntS (cntS s 9) 1024) 1024) 1024) 1024)) n.zb (lstW (smlS (cntS (cntS (cntS (cntS (cntS s 9) 1024) 1024) 1024) 1024) 1)) (lstB (smlS (cntS (cntS (cntS (cntS (cntS s 9) 1024) 1024) 1024) 1024) 1)) (sclM (lstS (smlS (cntS (cntS (cntS (cntS (cntS s 9) 1024) 1024) 1024) 1024) 1))) (sclH (lstS (smlS (cntS (cntS (cntS (cntS (cntS s 9) 1024) 1024) 1024) 1024) 1))) n.qz n.rm n.rs n.rz n.lo n.hi) (by (repeat first | exact h | apply cnt_in | apply sml_in | apply lst_in | apply scl_in)) z3
  have oz17 := @tone_lo (smlS (sclS (lstS (smlS (cntS (cntS (cntS (cntS (cntS s 9) 1024) 1024) 1024) 1024) 1))) 1) (Nod.mk (cntV s 9) (cntV (cntS s 9) 1024) n.nb (cntV (cntS (cntS s 9) 1024) 1024) (cntV (cntS (cntS (cntS s 9) 1024) 1024) 1024) (cntV (cntS (cntS (cntS (cntS s 9) 1024) 1024) 1024) 1024) n.no (oneV (cntS (cntS (cntS (cntS (cntS s 9) 1024) 1024) 1024) 1024)) n.zb (lstW (smlS (cntS (cntS (cntS (cntS (cntS s 9) 1024) 1024) 1024) 1024) 1)) (lstB (smlS (cntS (cntS (cntS (cntS (cntS s 9) 1024) 1024) 1024) 1024) 1)) (sclM (lstS (smlS (cntS (cntS (cntS (cntS (cntS s 9) 1024) 1024) 1024) 1024) 1))) (sclH (lstS (smlS (cntS (cntS (cntS (cntS (cntS s 9) 1024) 1024) 1024) 1024) 1))) (oneV (sclS (lstS (smlS (cntS (cntS (cntS (cntS (cntS s 9) 1024) 1024) 1024) 1024) 1)))) n.rm n.rs n.rz n.lo n.hi) (by (repeat first | exact h | apply cnt_in | apply sml_in | apply lst_in | apply scl_in)) z4
  have oz18 := @tone_hi (smlS (smlS (sclS (lstS (smlS (cntS (cntS (cntS (cntS (cntS s 9) 1024) 1024) 1024) 1024) 1))) 1) 1) (Nod.mk (cntV s 9) (cntV (cntS s 9) 1024) n.nb (cntV (cntS (cntS s 9) 1024) 1024) (cntV (cntS (cntS (cntS s 9) 1024) 1024) 1024) (cntV (cntS (cntS (cntS (cntS s 9) 1024) 1024) 1024) 1024) n.no (oneV (cntS (cntS (cntS (cntS (cntS s 9) 1024) 1024) 1024) 1024)) n.zb (lstW (smlS (cntS (cntS (cntS (cntS (cntS s 9) 1024) 1024) 1024) 1024) 1)) (lstB (smlS (cntS (cntS (cntS (cntS (cntS s 9) 1024) 1024) 1024) 1024) 1)) (sclM (lstS (smlS (cntS (cntS (cntS (cntS (cntS s 9) 1024) 1024) 1024) 1024) 1))) (sclH (lstS (smlS (cntS (cntS (cntS (cntS (cntS s 9) 1024) 1024) 1024) 1024) 1))) (oneV (sclS (lstS (smlS (cntS (cntS (cntS (cntS (cntS s 9) 1024) 1024) 1024) 1024) 1)))) n.rm n.rs n.rz (oneV (smlS (sclS (lstS (smlS (cntS (cntS (cntS (cntS (cntS s 9) 1024) 1024) 1024) 1024) 1))) 1)) n.hi) (by (repeat first | exact h | apply cnt_in | apply sml_in | apply lst_in | apply scl_in)) z5
  exact VM.run (fn := Try.f105) (W := [.r [] [.callm [(100000, 100000), (100001, 100001)] [] (rM oz1) (oM oz1)], .r [] [.callm [(100000, 100000), (100001, 100001)] [] (rM oz4) (oM oz4)], .r [] [.callr (rO oz6)], .r [] [.callm [(100000, 100000), (100001, 100001)] [] (rM oz7) (oM oz7)], .r [] [], .br true, .r [] [.callm [(100000, 100000), (100001, 100001)] [] (rM oz9) (oM oz9)], .r [] [], .br false, .r [] [], .br true, .r [] [.callm [(100000, 100000), (100001, 100001)] [] (rM oz12) (oM oz12)], .r [] [], .br false, .r [] [.callm [(100000, 100000), (100001, 100001)] [] (rM oz14) (oM oz14)], .r [] [.callm [(100000, 100000), (100001, 100001)] [] (rM oz15) (oM oz15)], .r [] [], .br false, .r [] [.callm [(100000, 100000), (100001, 100001)] [] (rM oz17) (oM oz17)], .r [] [.callm [(100000, 100000), (100001, 100001)] [] (rM oz18) (oM oz18)]]) (G := [.drop [4], .sort]) Try.func105 (by kernel_rfl) (.c oz0 <| .c oz1 <| .c oz2 <| .c oz0 <| .c oz4 <| .c oz2 <| .c oz6 <| .c oz7 <| .c oz8 <| .c oz9 <| .c oz10 <| .c oz8 <| .c oz12 <| .c oz10 <| .c oz14 <| .c oz15 <| .c oz10 <| .c oz17 <| .c oz18 <| .n)
theorem twalk_2v (s : Rst) (n : Nod) (h : s.In) (hk : cntV s 9 = 2) (z1 : n.za = 0) (z2 : n.zb = 0) (z3 : n.qz = 0) (z4 : n.lo = 0) (z5 : n.hi = 0) : VM Try.prog 105 [.ifc 169 (.agg [.ptr 100000 0 0]), .ptr 100001 0 0] [(100000, .var (rdC s)), (100001, .var (nodC n))] (.tup []) [(100000, .var (rdC (ts_2 s))), (100001, .var (nodC (tn_2 s n)))] := twalk_2 s n h hk z1 z2 z3 z4 z5
def ts_3 (s : Rst) : Rst := (smlS (smlS (smlS (sclS (lstS (smlS (cntS (cntS (cntS s 9) 1024) 1024) 1))) 1) 1) 1)
def tn_3 (s : Rst) (n : Nod) : Nod := { n with kd := cntV s 9, na := cntV (cntS s 9) 1024, no := cntV (cntS (cntS s 9) 1024) 1024, za := oneV (cntS (cntS (cntS s 9) 1024) 1024), w := lstW (smlS (cntS (cntS (cntS s 9) 1024) 1024) 1), b := lstB (smlS (cntS (cntS (cntS s 9) 1024) 1024) 1), qm := sclM (lstS (smlS (cntS (cntS (cntS s 9) 1024) 1024) 1)), qs := sclH (lstS (smlS (cntS (cntS (cntS s 9) 1024) 1024) 1)), qz := oneV (sclS (lstS (smlS (cntS (cntS (cntS s 9) 1024) 1024) 1))), lo := oneV (smlS (sclS (lstS (smlS (cntS (cntS (cntS s 9) 1024) 1024) 1))) 1), hi := oneV (smlS (smlS (sclS (lstS (smlS (cntS (cntS (cntS s 9) 1024) 1024) 1))) 1) 1) }
theorem twalk_3 (s : Rst) (n : Nod) (h : s.In) (hk : cntV s 9 = 3) (z1 : n.za = 0) (z2 : n.zb = 0) (z3 : n.qz = 0) (z4 : n.lo = 0) (z5 : n.hi = 0) : VM Try.prog 105 ([.ifc 169 (.agg [.ptr 100000 0 0]), .ptr 100001 0 0]) ([(100000, .var (rdC s)), (100001, .var (nodC n))]) (.tup []) ([(100000, .var (rdC (smlS (smlS (smlS (sclS (lstS (smlS (cntS (cntS (cntS s 9) 1024) 1024) 1))) 1) 1) 1))), (100001, .var (nodC { n with kd := cntV s 9, na := cntV (cntS s 9) 1024, no := cntV (cntS (cntS s 9) 1024) 1024, za := oneV (cntS (cntS (cntS s 9) 1024) 1024), w := lstW (smlS (cntS (cntS (cntS s 9) 1024) 1024) 1), b := lstB (smlS (cntS (cntS (cntS s 9) 1024) 1024) 1), qm := sclM (lstS (smlS (cntS (cntS (cntS s 9) 1024) 1024) 1)), qs := sclH (lstS (smlS (cntS (cntS (cntS s 9) 1024) 1024) 1)), qz := oneV (sclS (lstS (smlS (cntS (cntS (cntS s 9) 1024) 1024) 1))), lo := oneV (smlS (sclS (lstS (smlS (cntS (cntS (cntS s 9) 1024) 1024) 1))) 1), hi := oneV (smlS (smlS (sclS (lstS (smlS (cntS (cntS (cntS s 9) 1024) 1024) 1))) 1) 1) }))]) := by
  have oz0 := (show NilNo Try.prog (169 : Nat) "stepwell/pack.number" from (nilNo (f := 119) (by kernel_rfl)))
  have oz1 := @tnum_kd (s) (n) (9) h (by omega) (by omega)
  have oz2 := (show MethodIs Try.prog (169 : Nat) "stepwell/pack.number" (methF Try.prog (169 : Nat) "stepwell/pack.number") from (methodIs (by kernel_rfl)))
  have oz4 := @tnum_na (cntS s 9) (Nod.mk (cntV s 9) n.na n.nb n.nk n.ns n.np n.no n.za n.zb n.w n.b n.qm n.qs n.qz n.rm n.rs n.rz n.lo n.hi) (1024) (by (repeat first | exact h | apply cnt_in | apply sml_in | apply lst_in | apply scl_in)) (by omega) (by omega)
  have oz6 := @of_3 (cntV s 9) hk
  have oz7 := @tsides_3 (cntS (cntS s 9) 1024) (Nod.mk (cntV s 9) (cntV (cntS s 9) 1024) n.nb n.nk n.ns n.np n.no n.za n.zb n.w n.b n.qm n.qs n.qz n.rm n.rs n.rz n.lo n.hi) (by (repeat first | exact h | apply cnt_in | apply sml_in | apply lst_in | apply scl_in)) hk
  have oz8 := (show true = true by with_reducible rfl)
  have oz9 := @tone_za (cntS (cntS (cntS s 9) 1024) 1024) (Nod.mk (cntV s 9) (cntV (cntS s 9) 1024) n.nb n.nk n.ns n.np (cntV (cntS (cntS s 9) 1024) 1024) n.za n.zb n.w n.b n.qm n.qs n.qz n.rm n.rs n.rz n.lo n.hi) (by (repeat first | exact h | apply cnt_in | apply sml_in | apply lst_in | apply scl_in)) z1
  have oz10 := (show false = false by with_reducible rfl)
  have oz12 := @tlists_v (smlS (cntS (cntS (cntS s 9) 1024) 1024) 1) (Nod.mk (cntV s 9) (cntV (cntS s 9) 1024) n.nb n.nk n.ns n.np (cntV (cntS (cntS s 9) 1024) 1024) (oneV (cntS (cntS (cntS s 9) 1024) 1024)) n.zb n.w n.b n.qm n.qs n.qz n.rm n.rs n.rz n.lo n.hi) (by (repeat first | exact h | apply cnt_in | apply sml_in | apply lst_in | apply scl_in))
  have oz14 := @tscale_qv (lstS (smlS (cntS (cntS (cntS s 9) 1024) 1024) 1)) (Nod.mk (cntV s 9) (cntV (cntS s 9) 1024) n.nb n.nk n.ns n.np (cntV (cntS (cntS s 9) 1024) 1024) (oneV (cntS (cntS (cntS s 9) 1024) 1024)) n.zb (lstW (smlS (cntS (cntS (cntS s 9) 1024) 1024) 1)) (lstB (smlS (cntS (cntS (cntS s 9) 1024) 1024) 1)) n.qm n.qs n.qz n.rm n.rs n.rz n.lo n.hi) (by (repeat first | exact h | apply cnt_in | apply sml_in | apply lst_in | apply scl_in))
  have oz15 := @tone_qz (sclS (lstS (smlS (cntS (cntS (cntS s 9) 1024) 1024) 1))) (Nod.mk (cntV s 9) (cntV (cntS s 9) 1024) n.nb n.nk n.ns n.np (cntV (cntS (cntS s 9) 1024) 1024) (oneV (cntS (cntS (cntS s 9) 1024) 1024)) n.zb (lstW (smlS (cntS (cntS (cntS s 9) 1024) 1024) 1)) (lstB (smlS (cntS (cntS (cntS s 9) 1024) 1024) 1)) (sclM (lstS (smlS (cntS (cntS (cntS s 9) 1024) 1024) 1))) (sclH (lstS (smlS (cntS (cntS (cntS s 9) 1024) 1024) 1))) n.qz n.rm n.rs n.rz n.lo n.hi) (by (repeat first | exact h | apply cnt_in | apply sml_in | apply lst_in | apply scl_in)) z3
  have oz17 := @tone_lo (smlS (sclS (lstS (smlS (cntS (cntS (cntS s 9) 1024) 1024) 1))) 1) (Nod.mk (cntV s 9) (cntV (cntS s 9) 1024) n.nb n.nk n.ns n.np (cntV (cntS (cntS s 9) 1024) 1024) (oneV (cntS (cntS (cntS s 9) 1024) 1024)) n.zb (lstW (smlS (cntS (cntS (cntS s 9) 1024) 1024) 1)) (lstB (smlS (cntS (cntS (cntS s 9) 1024) 1024) 1)) (sclM (lstS (smlS (cntS (cntS (cntS s 9) 1024) 1024) 1))) (sclH (lstS (smlS (cntS (cntS (cntS s 9) 1024) 1024) 1))) (oneV (sclS (lstS (smlS (cntS (cntS (cntS s 9) 1024) 1024) 1)))) n.rm n.rs n.rz n.lo n.hi) (by (repeat first | exact h | apply cnt_in | apply sml_in | apply lst_in | apply scl_in)) z4
  have oz18 := @tone_hi (smlS (smlS (sclS (lstS (smlS (cntS (cntS (cntS s 9) 1024) 1024) 1))) 1) 1) (Nod.mk (cntV s 9) (cntV (cntS s 9) 1024) n.nb n.nk n.ns n.np (cntV (cntS (cntS s 9) 1024) 1024) (oneV (cntS (cntS (cntS s 9) 1024) 1024)) n.zb (lstW (smlS (cntS (cntS (cntS s 9) 1024) 1024) 1)) (lstB (smlS (cntS (cntS (cntS s 9) 1024) 1024) 1)) (sclM (lstS (smlS (cntS (cntS (cntS s 9) 1024) 1024) 1))) (sclH (lstS (smlS (cntS (cntS (cntS s 9) 1024) 1024) 1))) (oneV (sclS (lstS (smlS (cntS (cntS (cntS s 9) 1024) 1024) 1)))) n.rm n.rs n.rz (oneV (smlS (sclS (lstS (smlS (cntS (cntS (cntS s 9) 1024) 1024) 1))) 1)) n.hi) (by (repeat first | exact h | apply cnt_in | apply sml_in | apply lst_in | apply scl_in)) z5
  exact VM.run (fn := Try.f105) (W := [.r [] [.callm [(100000, 100000), (100001, 100001)] [] (rM oz1) (oM oz1)], .r [] [.callm [(100000, 100000), (100001, 100001)] [] (rM oz4) (oM oz4)], .r [] [.callr (rO oz6)], .r [] [.callm [(100000, 100000), (100001, 100001)] [] (rM oz7) (oM oz7)], .r [] [], .br true, .r [] [.callm [(100000, 100000), (100001, 100001)] [] (rM oz9) (oM oz9)], .r [] [], .br false, .r [] [], .br true, .r [] [.callm [(100000, 100000), (100001, 100001)] [] (rM oz12) (oM oz12)], .r [] [], .br false, .r [] [.callm [(100000, 100000), (100001, 100001)] [] (rM oz14) (oM oz14)], .r [] [.callm [(100000, 100000), (100001, 100001)] [] (rM oz15) (oM oz15)], .r [] [], .br false, .r [] [.callm [(100000, 100000), (100001, 100001)] [] (rM oz17) (oM oz17)], .r [] [.callm [(100000, 100000), (100001, 100001)] [] (rM oz18) (oM oz18)]]) (G := [.drop [4], .sort]) Try.func105 (by kernel_rfl) (.c oz0 <| .c oz1 <| .c oz2 <| .c oz0 <| .c oz4 <| .c oz2 <| .c oz6 <| .c oz7 <| .c oz8 <| .c oz9 <| .c oz10 <| .c oz8 <| .c oz12 <| .c oz10 <| .c oz14 <| .c oz15 <| .c oz10 <| .c oz17 <| .c oz18 <| .n)
theorem twalk_3v (s : Rst) (n : Nod) (h : s.In) (hk : cntV s 9 = 3) (z1 : n.za = 0) (z2 : n.zb = 0) (z3 : n.qz = 0) (z4 : n.lo = 0) (z5 : n.hi = 0) : VM Try.prog 105 [.ifc 169 (.agg [.ptr 100000 0 0]), .ptr 100001 0 0] [(100000, .var (rdC s)), (100001, .var (nodC n))] (.tup []) [(100000, .var (rdC (ts_3 s))), (100001, .var (nodC (tn_3 s n)))] := twalk_3 s n h hk z1 z2 z3 z4 z5
def ts_4 (s : Rst) : Rst := (cntS (cntS (cntS (cntS (cntS s 9) 1024) 1024) 1024) 1024)
def tn_4 (s : Rst) (n : Nod) : Nod := { n with kd := cntV s 9, na := cntV (cntS s 9) 1024, nk := cntV (cntS (cntS s 9) 1024) 1024, ns := cntV (cntS (cntS (cntS s 9) 1024) 1024) 1024, np := cntV (cntS (cntS (cntS (cntS s 9) 1024) 1024) 1024) 1024 }
theorem twalk_4 (s : Rst) (n : Nod) (h : s.In) (hk : cntV s 9 = 4 ∨ cntV s 9 = 5) (z1 : n.za = 0) (z2 : n.zb = 0) (z3 : n.qz = 0) (z4 : n.lo = 0) (z5 : n.hi = 0) : VM Try.prog 105 ([.ifc 169 (.agg [.ptr 100000 0 0]), .ptr 100001 0 0]) ([(100000, .var (rdC s)), (100001, .var (nodC n))]) (.tup []) ([(100000, .var (rdC (cntS (cntS (cntS (cntS (cntS s 9) 1024) 1024) 1024) 1024))), (100001, .var (nodC { n with kd := cntV s 9, na := cntV (cntS s 9) 1024, nk := cntV (cntS (cntS s 9) 1024) 1024, ns := cntV (cntS (cntS (cntS s 9) 1024) 1024) 1024, np := cntV (cntS (cntS (cntS (cntS s 9) 1024) 1024) 1024) 1024 }))]) := by
  have oz0 := (show NilNo Try.prog (169 : Nat) "stepwell/pack.number" from (nilNo (f := 119) (by kernel_rfl)))
  have oz1 := @tnum_kd (s) (n) (9) h (by omega) (by omega)
  have oz2 := (show MethodIs Try.prog (169 : Nat) "stepwell/pack.number" (methF Try.prog (169 : Nat) "stepwell/pack.number") from (methodIs (by kernel_rfl)))
  have oz4 := @tnum_na (cntS s 9) (Nod.mk (cntV s 9) n.na n.nb n.nk n.ns n.np n.no n.za n.zb n.w n.b n.qm n.qs n.qz n.rm n.rs n.rz n.lo n.hi) (1024) (by (repeat first | exact h | apply cnt_in | apply sml_in | apply lst_in | apply scl_in)) (by omega) (by omega)
  have oz6 := @of_4 (cntV s 9) hk
  have oz7 := @tsides_4 (cntS (cntS s 9) 1024) (Nod.mk (cntV s 9) (cntV (cntS s 9) 1024) n.nb n.nk n.ns n.np n.no n.za n.zb n.w n.b n.qm n.qs n.qz n.rm n.rs n.rz n.lo n.hi) (by (repeat first | exact h | apply cnt_in | apply sml_in | apply lst_in | apply scl_in)) hk
  have oz8 := (show false = false by with_reducible rfl)
  exact VM.run (fn := Try.f105) (W := [.r [] [.callm [(100000, 100000), (100001, 100001)] [] (rM oz1) (oM oz1)], .r [] [.callm [(100000, 100000), (100001, 100001)] [] (rM oz4) (oM oz4)], .r [] [.callr (rO oz6)], .r [] [.callm [(100000, 100000), (100001, 100001)] [] (rM oz7) (oM oz7)], .r [] [], .br false, .r [] [], .br false, .r [] [], .br false, .r [] [], .br true]) (G := [.drop [4], .sort]) Try.func105 (by kernel_rfl) (.c oz0 <| .c oz1 <| .c oz2 <| .c oz0 <| .c oz4 <| .c oz2 <| .c oz6 <| .c oz7 <| .c oz8 <| .c oz8 <| .c oz8 <| .c (show true = true by with_reducible rfl) <| .n)
theorem twalk_4v (s : Rst) (n : Nod) (h : s.In) (hk : cntV s 9 = 4 ∨ cntV s 9 = 5) (z1 : n.za = 0) (z2 : n.zb = 0) (z3 : n.qz = 0) (z4 : n.lo = 0) (z5 : n.hi = 0) : VM Try.prog 105 [.ifc 169 (.agg [.ptr 100000 0 0]), .ptr 100001 0 0] [(100000, .var (rdC s)), (100001, .var (nodC n))] (.tup []) [(100000, .var (rdC (ts_4 s))), (100001, .var (nodC (tn_4 s n)))] := twalk_4 s n h hk z1 z2 z3 z4 z5
def ts_6 (s : Rst) : Rst := (smlS (smlS (sclS (smlS (sclS (smlS (smlS (cntS (cntS (cntS s 9) 1024) 1024) 1) 1)) 1)) 1) 1)
def tn_6 (s : Rst) (n : Nod) : Nod := { n with kd := cntV s 9, na := cntV (cntS s 9) 1024, nb := cntV (cntS (cntS s 9) 1024) 1024, za := oneV (cntS (cntS (cntS s 9) 1024) 1024), zb := oneV (smlS (cntS (cntS (cntS s 9) 1024) 1024) 1), qm := sclM (smlS (smlS (cntS (cntS (cntS s 9) 1024) 1024) 1) 1), qs := sclH (smlS (smlS (cntS (cntS (cntS s 9) 1024) 1024) 1) 1), qz := oneV (sclS (smlS (smlS (cntS (cntS (cntS s 9) 1024) 1024) 1) 1)), rm := sclM (smlS (sclS (smlS (smlS (cntS (cntS (cntS s 9) 1024) 1024) 1) 1)) 1), rs := sclH (smlS (sclS (smlS (smlS (cntS (cntS (cntS s 9) 1024) 1024) 1) 1)) 1), lo := oneV (sclS (smlS (sclS (smlS (smlS (cntS (cntS (cntS s 9) 1024) 1024) 1) 1)) 1)), hi := oneV (smlS (sclS (smlS (sclS (smlS (smlS (cntS (cntS (cntS s 9) 1024) 1024) 1) 1)) 1)) 1) }
theorem twalk_6 (s : Rst) (n : Nod) (h : s.In) (hk : cntV s 9 = 6) (z1 : n.za = 0) (z2 : n.zb = 0) (z3 : n.qz = 0) (z4 : n.lo = 0) (z5 : n.hi = 0) : VM Try.prog 105 ([.ifc 169 (.agg [.ptr 100000 0 0]), .ptr 100001 0 0]) ([(100000, .var (rdC s)), (100001, .var (nodC n))]) (.tup []) ([(100000, .var (rdC (smlS (smlS (sclS (smlS (sclS (smlS (smlS (cntS (cntS (cntS s 9) 1024) 1024) 1) 1)) 1)) 1) 1))), (100001, .var (nodC { n with kd := cntV s 9, na := cntV (cntS s 9) 1024, nb := cntV (cntS (cntS s 9) 1024) 1024, za := oneV (cntS (cntS (cntS s 9) 1024) 1024), zb := oneV (smlS (cntS (cntS (cntS s 9) 1024) 1024) 1), qm := sclM (smlS (smlS (cntS (cntS (cntS s 9) 1024) 1024) 1) 1), qs := sclH (smlS (smlS (cntS (cntS (cntS s 9) 1024) 1024) 1) 1), qz := oneV (sclS (smlS (smlS (cntS (cntS (cntS s 9) 1024) 1024) 1) 1)), rm := sclM (smlS (sclS (smlS (smlS (cntS (cntS (cntS s 9) 1024) 1024) 1) 1)) 1), rs := sclH (smlS (sclS (smlS (smlS (cntS (cntS (cntS s 9) 1024) 1024) 1) 1)) 1), lo := oneV (sclS (smlS (sclS (smlS (smlS (cntS (cntS (cntS s 9) 1024) 1024) 1) 1)) 1)), hi := oneV (smlS (sclS (smlS (sclS (smlS (smlS (cntS (cntS (cntS s 9) 1024) 1024) 1) 1)) 1)) 1) }))]) := by
  have oz0 := (show NilNo Try.prog (169 : Nat) "stepwell/pack.number" from (nilNo (f := 119) (by kernel_rfl)))
  have oz1 := @tnum_kd (s) (n) (9) h (by omega) (by omega)
  have oz2 := (show MethodIs Try.prog (169 : Nat) "stepwell/pack.number" (methF Try.prog (169 : Nat) "stepwell/pack.number") from (methodIs (by kernel_rfl)))
  have oz4 := @tnum_na (cntS s 9) (Nod.mk (cntV s 9) n.na n.nb n.nk n.ns n.np n.no n.za n.zb n.w n.b n.qm n.qs n.qz n.rm n.rs n.rz n.lo n.hi) (1024) (by (repeat first | exact h | apply cnt_in | apply sml_in | apply lst_in | apply scl_in)) (by omega) (by omega)
  have oz6 := @of_6 (cntV s 9) hk
  have oz7 := @tsides_6 (cntS (cntS s 9) 1024) (Nod.mk (cntV s 9) (cntV (cntS s 9) 1024) n.nb n.nk n.ns n.np n.no n.za n.zb n.w n.b n.qm n.qs n.qz n.rm n.rs n.rz n.lo n.hi) (by (repeat first | exact h | apply cnt_in | apply sml_in | apply lst_in | apply scl_in)) hk
  have oz8 := (show true = true by with_reducible rfl)
  have oz9 := @tone_za (cntS (cntS (cntS s 9) 1024) 1024) (Nod.mk (cntV s 9) (cntV (cntS s 9) 1024) (cntV (cntS (cntS s 9) 1024) 1024) n.nk n.ns n.np n.no n.za n.zb n.w n.b n.qm n.qs n.qz n.rm n.rs n.rz n.lo n.hi) (by (repeat first | exact h | apply cnt_in | apply sml_in | apply lst_in | apply scl_in)) z1
  have oz11 := @tone_zb (smlS (cntS (cntS (cntS s 9) 1024) 1024) 1) (Nod.mk (cntV s 9) (cntV (cntS s 9) 1024) (cntV (cntS (cntS s 9) 1024) 1024) n.nk n.ns n.np n.no (oneV (cntS (cntS (cntS s 9) 1024) 1024)) n.zb n.w n.b n.qm n.qs n.qz n.rm n.rs n.rz n.lo n.hi) (by (repeat first | exact h | apply cnt_in | apply sml_in | apply lst_in | apply scl_in)) z2
  have oz12 := (show false = false by with_reducible rfl)
  have oz14 := @tscale_qv (smlS (smlS (cntS (cntS (cntS s 9) 1024) 1024) 1) 1) (Nod.mk (cntV s 9) (cntV (cntS s 9) 1024) (cntV (cntS (cntS s 9) 1024) 1024) n.nk n.ns n.np n.no (oneV (cntS (cntS (cntS s 9) 1024) 1024)) (oneV (smlS (cntS (cntS (cntS s 9) 1024) 1024) 1)) n.w n.b n.qm n.qs n.qz n.rm n.rs n.rz n.lo n.hi) (by (repeat first | exact h | apply cnt_in | apply sml_in | apply lst_in | apply scl_in))
  have oz15 := @tone_qz (sclS (smlS (smlS (cntS (cntS (cntS s 9) 1024) 1024) 1) 1)) (Nod.mk (cntV s 9) (cntV (cntS s 9) 1024) (cntV (cntS (cntS s 9) 1024) 1024) n.nk n.ns n.np n.no (oneV (cntS (cntS (cntS s 9) 1024) 1024)) (oneV (smlS (cntS (cntS (cntS s 9) 1024) 1024) 1)) n.w n.b (sclM (smlS (smlS (cntS (cntS (cntS s 9) 1024) 1024) 1) 1)) (sclH (smlS (smlS (cntS (cntS (cntS s 9) 1024) 1024) 1) 1)) n.qz n.rm n.rs n.rz n.lo n.hi) (by (repeat first | exact h | apply cnt_in | apply sml_in | apply lst_in | apply scl_in)) z3
  have oz17 := @tscale_rv (smlS (sclS (smlS (smlS (cntS (cntS (cntS s 9) 1024) 1024) 1) 1)) 1) (Nod.mk (cntV s 9) (cntV (cntS s 9) 1024) (cntV (cntS (cntS s 9) 1024) 1024) n.nk n.ns n.np n.no (oneV (cntS (cntS (cntS s 9) 1024) 1024)) (oneV (smlS (cntS (cntS (cntS s 9) 1024) 1024) 1)) n.w n.b (sclM (smlS (smlS (cntS (cntS (cntS s 9) 1024) 1024) 1) 1)) (sclH (smlS (smlS (cntS (cntS (cntS s 9) 1024) 1024) 1) 1)) (oneV (sclS (smlS (smlS (cntS (cntS (cntS s 9) 1024) 1024) 1) 1))) n.rm n.rs n.rz n.lo n.hi) (by (repeat first | exact h | apply cnt_in | apply sml_in | apply lst_in | apply scl_in))
  have oz18 := @tone_lo (sclS (smlS (sclS (smlS (smlS (cntS (cntS (cntS s 9) 1024) 1024) 1) 1)) 1)) (Nod.mk (cntV s 9) (cntV (cntS s 9) 1024) (cntV (cntS (cntS s 9) 1024) 1024) n.nk n.ns n.np n.no (oneV (cntS (cntS (cntS s 9) 1024) 1024)) (oneV (smlS (cntS (cntS (cntS s 9) 1024) 1024) 1)) n.w n.b (sclM (smlS (smlS (cntS (cntS (cntS s 9) 1024) 1024) 1) 1)) (sclH (smlS (smlS (cntS (cntS (cntS s 9) 1024) 1024) 1) 1)) (oneV (sclS (smlS (smlS (cntS (cntS (cntS s 9) 1024) 1024) 1) 1))) (sclM (smlS (sclS (smlS (smlS (cntS (cntS (cntS s 9) 1024) 1024) 1) 1)) 1)) (sclH (smlS (sclS (smlS (smlS (cntS (cntS (cntS s 9) 1024) 1024) 1) 1)) 1)) n.rz n.lo n.hi) (by (repeat first | exact h | apply cnt_in | apply sml_in | apply lst_in | apply scl_in)) z4
  have oz19 := @tone_hi (smlS (sclS (smlS (sclS (smlS (smlS (cntS (cntS (cntS s 9) 1024) 1024) 1) 1)) 1)) 1) (Nod.mk (cntV s 9) (cntV (cntS s 9) 1024) (cntV (cntS (cntS s 9) 1024) 1024) n.nk n.ns n.np n.no (oneV (cntS (cntS (cntS s 9) 1024) 1024)) (oneV (smlS (cntS (cntS (cntS s 9) 1024) 1024) 1)) n.w n.b (sclM (smlS (smlS (cntS (cntS (cntS s 9) 1024) 1024) 1) 1)) (sclH (smlS (smlS (cntS (cntS (cntS s 9) 1024) 1024) 1) 1)) (oneV (sclS (smlS (smlS (cntS (cntS (cntS s 9) 1024) 1024) 1) 1))) (sclM (smlS (sclS (smlS (smlS (cntS (cntS (cntS s 9) 1024) 1024) 1) 1)) 1)) (sclH (smlS (sclS (smlS (smlS (cntS (cntS (cntS s 9) 1024) 1024) 1) 1)) 1)) n.rz (oneV (sclS (smlS (sclS (smlS (smlS (cntS (cntS (cntS s 9) 1024) 1024) 1) 1)) 1))) n.hi) (by (repeat first | exact h | apply cnt_in | apply sml_in | apply lst_in | apply scl_in)) z5
  exact VM.run (fn := Try.f105) (W := [.r [] [.callm [(100000, 100000), (100001, 100001)] [] (rM oz1) (oM oz1)], .r [] [.callm [(100000, 100000), (100001, 100001)] [] (rM oz4) (oM oz4)], .r [] [.callr (rO oz6)], .r [] [.callm [(100000, 100000), (100001, 100001)] [] (rM oz7) (oM oz7)], .r [] [], .br true, .r [] [.callm [(100000, 100000), (100001, 100001)] [] (rM oz9) (oM oz9)], .r [] [], .br true, .r [] [.callm [(100000, 100000), (100001, 100001)] [] (rM oz11) (oM oz11)], .r [] [], .br false, .r [] [], .br false, .r [] [.callm [(100000, 100000), (100001, 100001)] [] (rM oz14) (oM oz14)], .r [] [.callm [(100000, 100000), (100001, 100001)] [] (rM oz15) (oM oz15)], .r [] [], .br true, .r [] [.callm [(100000, 100000), (100001, 100001)] [] (rM oz17) (oM oz17)], .r [] [.callm [(100000, 100000), (100001, 100001)] [] (rM oz18) (oM oz18)], .r [] [.callm [(100000, 100000), (100001, 100001)] [] (rM oz19) (oM oz19)]]) (G := [.drop [4], .sort]) Try.func105 (by kernel_rfl) (.c oz0 <| .c oz1 <| .c oz2 <| .c oz0 <| .c oz4 <| .c oz2 <| .c oz6 <| .c oz7 <| .c oz8 <| .c oz9 <| .c oz8 <| .c oz11 <| .c oz12 <| .c oz12 <| .c oz14 <| .c oz15 <| .c oz8 <| .c oz17 <| .c oz18 <| .c oz19 <| .n)
theorem twalk_6v (s : Rst) (n : Nod) (h : s.In) (hk : cntV s 9 = 6) (z1 : n.za = 0) (z2 : n.zb = 0) (z3 : n.qz = 0) (z4 : n.lo = 0) (z5 : n.hi = 0) : VM Try.prog 105 [.ifc 169 (.agg [.ptr 100000 0 0]), .ptr 100001 0 0] [(100000, .var (rdC s)), (100001, .var (nodC n))] (.tup []) [(100000, .var (rdC (ts_6 s))), (100001, .var (nodC (tn_6 s n)))] := twalk_6 s n h hk z1 z2 z3 z4 z5
def ts_7 (s : Rst) : Rst := (smlS (smlS (smlS (sclS (smlS (cntS (cntS s 9) 1024) 1)) 1) 1) 1)
def tn_7 (s : Rst) (n : Nod) : Nod := { n with kd := cntV s 9, na := cntV (cntS s 9) 1024, za := oneV (cntS (cntS s 9) 1024), qm := sclM (smlS (cntS (cntS s 9) 1024) 1), qs := sclH (smlS (cntS (cntS s 9) 1024) 1), qz := oneV (sclS (smlS (cntS (cntS s 9) 1024) 1)), lo := oneV (smlS (sclS (smlS (cntS (cntS s 9) 1024) 1)) 1), hi := oneV (smlS (smlS (sclS (smlS (cntS (cntS s 9) 1024) 1)) 1) 1) }
theorem twalk_7 (s : Rst) (n : Nod) (h : s.In) (hk : cntV s 9 = 7) (z1 : n.za = 0) (z2 : n.zb = 0) (z3 : n.qz = 0) (z4 : n.lo = 0) (z5 : n.hi = 0) : VM Try.prog 105 ([.ifc 169 (.agg [.ptr 100000 0 0]), .ptr 100001 0 0]) ([(100000, .var (rdC s)), (100001, .var (nodC n))]) (.tup []) ([(100000, .var (rdC (smlS (smlS (smlS (sclS (smlS (cntS (cntS s 9) 1024) 1)) 1) 1) 1))), (100001, .var (nodC { n with kd := cntV s 9, na := cntV (cntS s 9) 1024, za := oneV (cntS (cntS s 9) 1024), qm := sclM (smlS (cntS (cntS s 9) 1024) 1), qs := sclH (smlS (cntS (cntS s 9) 1024) 1), qz := oneV (sclS (smlS (cntS (cntS s 9) 1024) 1)), lo := oneV (smlS (sclS (smlS (cntS (cntS s 9) 1024) 1)) 1), hi := oneV (smlS (smlS (sclS (smlS (cntS (cntS s 9) 1024) 1)) 1) 1) }))]) := by
  have oz0 := (show NilNo Try.prog (169 : Nat) "stepwell/pack.number" from (nilNo (f := 119) (by kernel_rfl)))
  have oz1 := @tnum_kd (s) (n) (9) h (by omega) (by omega)
  have oz2 := (show MethodIs Try.prog (169 : Nat) "stepwell/pack.number" (methF Try.prog (169 : Nat) "stepwell/pack.number") from (methodIs (by kernel_rfl)))
  have oz4 := @tnum_na (cntS s 9) (Nod.mk (cntV s 9) n.na n.nb n.nk n.ns n.np n.no n.za n.zb n.w n.b n.qm n.qs n.qz n.rm n.rs n.rz n.lo n.hi) (1024) (by (repeat first | exact h | apply cnt_in | apply sml_in | apply lst_in | apply scl_in)) (by omega) (by omega)
  have oz6 := @of_7 (cntV s 9) hk
  have oz7 := @tsides_7 (cntS (cntS s 9) 1024) (Nod.mk (cntV s 9) (cntV (cntS s 9) 1024) n.nb n.nk n.ns n.np n.no n.za n.zb n.w n.b n.qm n.qs n.qz n.rm n.rs n.rz n.lo n.hi) (by (repeat first | exact h | apply cnt_in | apply sml_in | apply lst_in | apply scl_in)) hk
  have oz9 := @tone_za (cntS (cntS s 9) 1024) (Nod.mk (cntV s 9) (cntV (cntS s 9) 1024) n.nb n.nk n.ns n.np n.no n.za n.zb n.w n.b n.qm n.qs n.qz n.rm n.rs n.rz n.lo n.hi) (by (repeat first | exact h | apply cnt_in | apply sml_in | apply lst_in | apply scl_in)) z1
  have oz10 := (show false = false by with_reducible rfl)
  have oz13 := @tscale_qv (smlS (cntS (cntS s 9) 1024) 1) (Nod.mk (cntV s 9) (cntV (cntS s 9) 1024) n.nb n.nk n.ns n.np n.no (oneV (cntS (cntS s 9) 1024)) n.zb n.w n.b n.qm n.qs n.qz n.rm n.rs n.rz n.lo n.hi) (by (repeat first | exact h | apply cnt_in | apply sml_in | apply lst_in | apply scl_in))
  have oz14 := @tone_qz (sclS (smlS (cntS (cntS s 9) 1024) 1)) (Nod.mk (cntV s 9) (cntV (cntS s 9) 1024) n.nb n.nk n.ns n.np n.no (oneV (cntS (cntS s 9) 1024)) n.zb n.w n.b (sclM (smlS (cntS (cntS s 9) 1024) 1)) (sclH (smlS (cntS (cntS s 9) 1024) 1)) n.qz n.rm n.rs n.rz n.lo n.hi) (by (repeat first | exact h | apply cnt_in | apply sml_in | apply lst_in | apply scl_in)) z3
  have oz16 := @tone_lo (smlS (sclS (smlS (cntS (cntS s 9) 1024) 1)) 1) (Nod.mk (cntV s 9) (cntV (cntS s 9) 1024) n.nb n.nk n.ns n.np n.no (oneV (cntS (cntS s 9) 1024)) n.zb n.w n.b (sclM (smlS (cntS (cntS s 9) 1024) 1)) (sclH (smlS (cntS (cntS s 9) 1024) 1)) (oneV (sclS (smlS (cntS (cntS s 9) 1024) 1))) n.rm n.rs n.rz n.lo n.hi) (by (repeat first | exact h | apply cnt_in | apply sml_in | apply lst_in | apply scl_in)) z4
  have oz17 := @tone_hi (smlS (smlS (sclS (smlS (cntS (cntS s 9) 1024) 1)) 1) 1) (Nod.mk (cntV s 9) (cntV (cntS s 9) 1024) n.nb n.nk n.ns n.np n.no (oneV (cntS (cntS s 9) 1024)) n.zb n.w n.b (sclM (smlS (cntS (cntS s 9) 1024) 1)) (sclH (smlS (cntS (cntS s 9) 1024) 1)) (oneV (sclS (smlS (cntS (cntS s 9) 1024) 1))) n.rm n.rs n.rz (oneV (smlS (sclS (smlS (cntS (cntS s 9) 1024) 1)) 1)) n.hi) (by (repeat first | exact h | apply cnt_in | apply sml_in | apply lst_in | apply scl_in)) z5
  exact VM.run (fn := Try.f105) (W := [.r [] [.callm [(100000, 100000), (100001, 100001)] [] (rM oz1) (oM oz1)], .r [] [.callm [(100000, 100000), (100001, 100001)] [] (rM oz4) (oM oz4)], .r [] [.callr (rO oz6)], .r [] [.callm [(100000, 100000), (100001, 100001)] [] (rM oz7) (oM oz7)], .r [] [], .br true, .r [] [.callm [(100000, 100000), (100001, 100001)] [] (rM oz9) (oM oz9)], .r [] [], .br false, .r [] [], .br false, .r [] [], .br false, .r [] [.callm [(100000, 100000), (100001, 100001)] [] (rM oz13) (oM oz13)], .r [] [.callm [(100000, 100000), (100001, 100001)] [] (rM oz14) (oM oz14)], .r [] [], .br false, .r [] [.callm [(100000, 100000), (100001, 100001)] [] (rM oz16) (oM oz16)], .r [] [.callm [(100000, 100000), (100001, 100001)] [] (rM oz17) (oM oz17)]]) (G := [.drop [4], .sort]) Try.func105 (by kernel_rfl) (.c oz0 <| .c oz1 <| .c oz2 <| .c oz0 <| .c oz4 <| .c oz2 <| .c oz6 <| .c oz7 <| .c (show true = true by with_reducible rfl) <| .c oz9 <| .c oz10 <| .c oz10 <| .c oz10 <| .c oz13 <| .c oz14 <| .c oz10 <| .c oz16 <| .c oz17 <| .n)
theorem twalk_7v (s : Rst) (n : Nod) (h : s.In) (hk : cntV s 9 = 7) (z1 : n.za = 0) (z2 : n.zb = 0) (z3 : n.qz = 0) (z4 : n.lo = 0) (z5 : n.hi = 0) : VM Try.prog 105 [.ifc 169 (.agg [.ptr 100000 0 0]), .ptr 100001 0 0] [(100000, .var (rdC s)), (100001, .var (nodC n))] (.tup []) [(100000, .var (rdC (ts_7 s))), (100001, .var (nodC (tn_7 s n)))] := twalk_7 s n h hk z1 z2 z3 z4 z5
def ts_8 (s : Rst) : Rst := (smlS (cntS (cntS (cntS s 9) 1024) 1024) 1)
def tn_8 (s : Rst) (n : Nod) : Nod := { n with kd := cntV s 9, na := cntV (cntS s 9) 1024, np := cntV (cntS (cntS s 9) 1024) 1024, za := oneV (cntS (cntS (cntS s 9) 1024) 1024) }
theorem twalk_8 (s : Rst) (n : Nod) (h : s.In) (hk : cntV s 9 = 8) (z1 : n.za = 0) (z2 : n.zb = 0) (z3 : n.qz = 0) (z4 : n.lo = 0) (z5 : n.hi = 0) : VM Try.prog 105 ([.ifc 169 (.agg [.ptr 100000 0 0]), .ptr 100001 0 0]) ([(100000, .var (rdC s)), (100001, .var (nodC n))]) (.tup []) ([(100000, .var (rdC (smlS (cntS (cntS (cntS s 9) 1024) 1024) 1))), (100001, .var (nodC { n with kd := cntV s 9, na := cntV (cntS s 9) 1024, np := cntV (cntS (cntS s 9) 1024) 1024, za := oneV (cntS (cntS (cntS s 9) 1024) 1024) }))]) := by
  have oz0 := (show NilNo Try.prog (169 : Nat) "stepwell/pack.number" from (nilNo (f := 119) (by kernel_rfl)))
  have oz1 := @tnum_kd (s) (n) (9) h (by omega) (by omega)
  have oz2 := (show MethodIs Try.prog (169 : Nat) "stepwell/pack.number" (methF Try.prog (169 : Nat) "stepwell/pack.number") from (methodIs (by kernel_rfl)))
  have oz4 := @tnum_na (cntS s 9) (Nod.mk (cntV s 9) n.na n.nb n.nk n.ns n.np n.no n.za n.zb n.w n.b n.qm n.qs n.qz n.rm n.rs n.rz n.lo n.hi) (1024) (by (repeat first | exact h | apply cnt_in | apply sml_in | apply lst_in | apply scl_in)) (by omega) (by omega)
  have oz6 := @of_8 (cntV s 9) hk
  have oz7 := @tsides_8 (cntS (cntS s 9) 1024) (Nod.mk (cntV s 9) (cntV (cntS s 9) 1024) n.nb n.nk n.ns n.np n.no n.za n.zb n.w n.b n.qm n.qs n.qz n.rm n.rs n.rz n.lo n.hi) (by (repeat first | exact h | apply cnt_in | apply sml_in | apply lst_in | apply scl_in)) hk
  have oz8 := (show true = true by with_reducible rfl)
  have oz9 := @tone_za (cntS (cntS (cntS s 9) 1024) 1024) (Nod.mk (cntV s 9) (cntV (cntS s 9) 1024) n.nb n.nk n.ns (cntV (cntS (cntS s 9) 1024) 1024) n.no n.za n.zb n.w n.b n.qm n.qs n.qz n.rm n.rs n.rz n.lo n.hi) (by (repeat first | exact h | apply cnt_in | apply sml_in | apply lst_in | apply scl_in)) z1
  have oz10 := (show false = false by with_reducible rfl)
  exact VM.run (fn := Try.f105) (W := [.r [] [.callm [(100000, 100000), (100001, 100001)] [] (rM oz1) (oM oz1)], .r [] [.callm [(100000, 100000), (100001, 100001)] [] (rM oz4) (oM oz4)], .r [] [.callr (rO oz6)], .r [] [.callm [(100000, 100000), (100001, 100001)] [] (rM oz7) (oM oz7)], .r [] [], .br true, .r [] [.callm [(100000, 100000), (100001, 100001)] [] (rM oz9) (oM oz9)], .r [] [], .br false, .r [] [], .br false, .r [] [], .br true]) (G := [.drop [4], .sort]) Try.func105 (by kernel_rfl) (.c oz0 <| .c oz1 <| .c oz2 <| .c oz0 <| .c oz4 <| .c oz2 <| .c oz6 <| .c oz7 <| .c oz8 <| .c oz9 <| .c oz10 <| .c oz10 <| .c oz8 <| .n)
theorem twalk_8v (s : Rst) (n : Nod) (h : s.In) (hk : cntV s 9 = 8) (z1 : n.za = 0) (z2 : n.zb = 0) (z3 : n.qz = 0) (z4 : n.lo = 0) (z5 : n.hi = 0) : VM Try.prog 105 [.ifc 169 (.agg [.ptr 100000 0 0]), .ptr 100001 0 0] [(100000, .var (rdC s)), (100001, .var (nodC n))] (.tup []) [(100000, .var (rdC (ts_8 s))), (100001, .var (nodC (tn_8 s n)))] := twalk_8 s n h hk z1 z2 z3 z4 z5
def ts_9 (s : Rst) : Rst := (cntS (cntS s 9) 1024)
def tn_9 (s : Rst) (n : Nod) : Nod := { n with kd := cntV s 9, na := cntV (cntS s 9) 1024 }
theorem twalk_9 (s : Rst) (n : Nod) (h : s.In) (hk : cntV s 9 < 1 ∨ 8 < cntV s 9) (z1 : n.za = 0) (z2 : n.zb = 0) (z3 : n.qz = 0) (z4 : n.lo = 0) (z5 : n.hi = 0) : VM Try.prog 105 ([.ifc 169 (.agg [.ptr 100000 0 0]), .ptr 100001 0 0]) ([(100000, .var (rdC s)), (100001, .var (nodC n))]) (.tup []) ([(100000, .var (rdC (cntS (cntS s 9) 1024))), (100001, .var (nodC { n with kd := cntV s 9, na := cntV (cntS s 9) 1024 }))]) := by
  have oz0 := (show NilNo Try.prog (169 : Nat) "stepwell/pack.number" from (nilNo (f := 119) (by kernel_rfl)))
  have oz1 := @tnum_kd (s) (n) (9) h (by omega) (by omega)
  have oz2 := (show MethodIs Try.prog (169 : Nat) "stepwell/pack.number" (methF Try.prog (169 : Nat) "stepwell/pack.number") from (methodIs (by kernel_rfl)))
  have oz4 := @tnum_na (cntS s 9) (Nod.mk (cntV s 9) n.na n.nb n.nk n.ns n.np n.no n.za n.zb n.w n.b n.qm n.qs n.qz n.rm n.rs n.rz n.lo n.hi) (1024) (by (repeat first | exact h | apply cnt_in | apply sml_in | apply lst_in | apply scl_in)) (by omega) (by omega)
  have oz6 := @of_9 (cntV s 9) hk
  have oz7 := @tsides_9 (cntS (cntS s 9) 1024) (Nod.mk (cntV s 9) (cntV (cntS s 9) 1024) n.nb n.nk n.ns n.np n.no n.za n.zb n.w n.b n.qm n.qs n.qz n.rm n.rs n.rz n.lo n.hi) (by (repeat first | exact h | apply cnt_in | apply sml_in | apply lst_in | apply scl_in)) hk
  have oz8 := (show false = false by with_reducible rfl)
  exact VM.run (fn := Try.f105) (W := [.r [] [.callm [(100000, 100000), (100001, 100001)] [] (rM oz1) (oM oz1)], .r [] [.callm [(100000, 100000), (100001, 100001)] [] (rM oz4) (oM oz4)], .r [] [.callr (rO oz6)], .r [] [.callm [(100000, 100000), (100001, 100001)] [] (rM oz7) (oM oz7)], .r [] [], .br false, .r [] [], .br false, .r [] [], .br false, .r [] [], .br true]) (G := [.drop [4], .sort]) Try.func105 (by kernel_rfl) (.c oz0 <| .c oz1 <| .c oz2 <| .c oz0 <| .c oz4 <| .c oz2 <| .c oz6 <| .c oz7 <| .c oz8 <| .c oz8 <| .c oz8 <| .c (show true = true by with_reducible rfl) <| .n)
theorem twalk_9v (s : Rst) (n : Nod) (h : s.In) (hk : cntV s 9 < 1 ∨ 8 < cntV s 9) (z1 : n.za = 0) (z2 : n.zb = 0) (z3 : n.qz = 0) (z4 : n.lo = 0) (z5 : n.hi = 0) : VM Try.prog 105 [.ifc 169 (.agg [.ptr 100000 0 0]), .ptr 100001 0 0] [(100000, .var (rdC s)), (100001, .var (nodC n))] (.tup []) [(100000, .var (rdC (ts_9 s))), (100001, .var (nodC (tn_9 s n)))] := twalk_9 s n h hk z1 z2 z3 z4 z5
end Go.Proofs.Ytgecmooedhnenaa
/- Numbers and lists of bytes go there and back. No condition. (Plain.) -/
namespace Go.Proofs.Ytgecmooedhnenaa
open Go.RowKit
set_option linter.unusedSimpArgs false
set_option linter.unusedVariables false
set_option linter.unnecessarySimpa false
theorem getP (n : Nat) (hn : n < 18446744073709551616) (b : List Int) : getV (putL n ++ b) = n ∧ getN (putL n ++ b) = (putL n).length ∧ getE (putL n ++ b) = 0 := by
  have := got n b hn
  simp only [getV, getN, getE, this, and_self]
theorem putN_eq {v : Int} (h0 : 0 ≤ v) (h1 : v ≤ 2147483647) : putN v = putL v.toNat := by
  unfold putN; rw [IntKind.wrap_u64, show v % 18446744073709551616 = v from by omega]
theorem cnt_there {v m : Int} (h0 : 0 ≤ v) (h1 : v ≤ m) (hm : m ≤ 2147483647) (b : List Int) : cntS (putN v ++ b, 0) m = (b, 0) ∧ cntV (putN v ++ b, 0) m = v := by
  obtain ⟨g1, g2, g3⟩ := getP v.toNat (by omega) b
  rw [putN_eq h0 (by omega)]
  constructor
  · unfold cntS
    rw [if_neg (by simp), if_neg (by simpa using g3), if_neg (by dsimp only; rw [g1]; omega)]
    dsimp only
    rw [g2, Int.toNat_natCast, List.drop_left]
  · unfold cntV
    rw [if_neg (by simp), if_neg (by simpa using g3), if_neg (by dsimp only; rw [g1]; omega)]
    dsimp only
    rw [g1]; omega
theorem cnt_ok {s : Rst} {m : Int} (h : (cntS s m).2 = 0) : s.2 = 0 := by
  by_cases q : s.2 = 0
  · exact q
  · unfold cntS at h; rw [if_pos q] at h; exact absurd h q
theorem cnt_back {s : Rst} {m : Int} (h : s.In) (hs : (cntS s m).2 = 0) : s.1 = putN (cntV s m) ++ (cntS s m).1 := by
  have he := cnt_ok hs
  unfold cntS at hs
  rw [if_neg (by simpa using he)] at hs
  by_cases h1 : getE s.1 = 0
  · rw [if_neg (by simpa using h1)] at hs
    by_cases h2 : max m 0 < getV s.1
    · rw [if_pos h2] at hs; simp at hs
    · have r := get_rng h.b
      obtain ⟨_, _, e⟩ := get_back s.1 h.b (getV s.1) (getN s.1) (Prod.ext rfl (Prod.ext rfl h1))
      have a : cntS s m = (s.1.drop (getN s.1).toNat, 0) := by unfold cntS; rw [if_neg (by simpa using he), if_neg (by simpa using h1), if_neg h2]
      have b : cntV s m = getV s.1 := by unfold cntV; rw [if_neg (by simpa using he), if_neg (by simpa using h1), if_neg h2]
      rw [a, b, putN, IntKind.wrap_u64, show getV s.1 % 18446744073709551616 = getV s.1 from by omega, e, List.take_append_drop]
  · rw [if_pos h1] at hs; exact absurd hs h1
theorem tkW_eq (l : List Int) (k : Nat) (h : k ≤ l.length) : tkW l k = (l.take k).map IntKind.i8.wrap := by
  induction k with
  | zero => rfl
  | succ k ih =>
    rw [tkW, ih (by omega), dpW_eq, List.take_succ_eq_append_getElem (by omega), List.map_append]
    congr 1
    simp [List.getD_eq_getElem?_getD, List.getElem?_drop, List.getElem?_eq_getElem (show k < l.length by omega)]
theorem small_w8 (l : List Int) (h : ∀ x ∈ l, In8 x) : (smallL l).map IntKind.i8.wrap = l := by
  unfold smallL
  rw [List.map_map]
  conv => rhs; rw [← List.map_id l]
  apply List.map_congr_left
  intro x hx
  have := h x hx
  unfold In8 at this
  simp only [Function.comp, id]
  unfold IntKind.wrap; simp [IntKind.bits, IntKind.signed]; omega
theorem w8_small (l : List Int) (h : ∀ x ∈ l, 0 ≤ x ∧ x ≤ 255) : smallL (l.map IntKind.i8.wrap) = l := by
  unfold smallL
  rw [List.map_map]
  conv => rhs; rw [← List.map_id l]
  apply List.map_congr_left
  intro x hx
  have := h x hx
  simp only [Function.comp, id]
  unfold IntKind.wrap; simp [IntKind.bits, IntKind.signed]; omega
theorem sml_there (l : List Int) (h : ∀ x ∈ l, In8 x) (b : List Int) : smlS (smallL l ++ b, 0) l.length = (b, 0) ∧ smlV (smallL l ++ b, 0) l.length = l := by
  have q : (smallL l).length = l.length := List.length_map _
  have q2 : (smallL l ++ b).length = l.length + b.length := by rw [List.length_append, q]
  by_cases h1 : (l.length : Int) < 1
  · have : l = [] := List.length_eq_zero_iff.1 (by omega)
    subst this
    constructor
    · unfold smlS; rw [if_neg (by simp), if_pos h1]; rfl
    · unfold smlV; rw [if_neg (by simp), if_pos h1]
  · constructor
    · unfold smlS; rw [if_neg (by simp), if_neg h1, if_neg (by dsimp only; omega)]
      dsimp only
      rw [dpW_eq, Int.toNat_natCast, ← q, List.drop_left]
    · unfold smlV; rw [if_neg (by simp), if_neg h1, if_neg (by dsimp only; omega)]
      dsimp only
      rw [Int.toNat_natCast, tkW_eq _ _ (by omega), ← q, List.take_left, small_w8 l h]
theorem sml_ok {s : Rst} {n : Int} (h : (smlS s n).2 = 0) : s.2 = 0 := by
  by_cases q : s.2 = 0
  · exact q
  · unfold smlS at h; rw [if_pos q] at h; exact absurd h q
theorem sml_back {s : Rst} {n : Int} (h : s.In) (hs : (smlS s n).2 = 0) (h0 : 0 ≤ n) : s.1 = smallL (smlV s n) ++ (smlS s n).1 ∧ ((smlV s n).length : Int) = n := by
  have he := sml_ok hs
  unfold smlS at hs
  rw [if_neg (by simpa using he)] at hs
  by_cases h1 : n < 1
  · have a : smlS s n = s := by unfold smlS; rw [if_neg (by simpa using he), if_pos h1]
    have b : smlV s n = [] := by unfold smlV; rw [if_neg (by simpa using he), if_pos h1]
    rw [a, b]
    exact ⟨rfl, by simp; omega⟩
  · rw [if_neg h1] at hs
    by_cases h2 : (s.1.length : Int) < n
    · rw [if_pos h2] at hs; simp at hs
    · have a : smlS s n = (dpW s.1 n.toNat, 0) := by unfold smlS; rw [if_neg (by simpa using he), if_neg h1, if_neg h2]
      have b : smlV s n = tkW s.1 n.toNat := by unfold smlV; rw [if_neg (by simpa using he), if_neg h1, if_neg h2]
      rw [a, b, dpW_eq, tkW_eq _ _ (by omega), w8_small _ (fun x hx => h.b x (List.mem_of_mem_take hx)), List.take_append_drop]
      refine ⟨rfl, ?_⟩
      rw [List.length_map, List.length_take]; omega
theorem one_there {x : Int} (h : In8 x) (b : List Int) : smlS ([IntKind.u8.wrap x] ++ b, 0) 1 = (b, 0) ∧ oneV ([IntKind.u8.wrap x] ++ b, 0) = x := by
  have := sml_there [x] (by simpa using h) b
  rw [small1] at this
  refine ⟨this.1, ?_⟩
  unfold oneV
  rw [show smlV ([IntKind.u8.wrap x] ++ b, 0) 1 = [x] from this.2]; rfl
theorem one_back {s : Rst} (h : s.In) (hs : (smlS s 1).2 = 0) : s.1 = [IntKind.u8.wrap (oneV s)] ++ (smlS s 1).1 := by
  obtain ⟨a, b⟩ := sml_back h hs (by omega)
  unfold oneV
  match q : smlV s 1, b with
  | [x], _ => rw [q, small1] at a; exact a
theorem fold_unfold {g : Int} (h : 0 ≤ g) : foldN (unfoldN g) = g := by
  unfold foldN unfoldN
  split
  · split <;> omega
  · split <;> omega
theorem int_there {x lo hi : Int} (h0 : lo ≤ x) (h1 : x ≤ hi) (hx : -2147483648 ≤ x ∧ x ≤ 2147483647) (b : List Int) : intS (putL (foldN x).toNat ++ b, 0) lo hi = (b, 0) ∧ intV (putL (foldN x).toNat ++ b, 0) lo hi = x := by
  have f := foldN_bd x (by omega) (by omega)
  obtain ⟨g1, g2, g3⟩ := getP (foldN x).toNat (by omega) b
  have u : unfoldN (getV (putL (foldN x).toNat ++ b)) = x := by rw [g1, Int.toNat_of_nonneg f.1]; exact unfold_fold x _ rfl
  constructor
  · unfold intS
    rw [if_neg (by simp), if_neg (by simpa using g3), if_neg (by dsimp only; rw [u]; omega)]
    dsimp only
    rw [g2, Int.toNat_natCast, List.drop_left]
  · unfold intV
    rw [if_neg (by simp), if_neg (by simpa using g3), if_neg (by dsimp only; rw [u]; omega)]
    exact u
theorem int_ok {s : Rst} {lo hi : Int} (h : (intS s lo hi).2 = 0) : s.2 = 0 := by
  by_cases q : s.2 = 0
  · exact q
  · unfold intS at h; rw [if_pos q] at h; exact absurd h q
theorem int_back {s : Rst} {lo hi : Int} (h : s.In) (hs : (intS s lo hi).2 = 0) : s.1 = putL (foldN (intV s lo hi)).toNat ++ (intS s lo hi).1 := by
  have he := int_ok hs
  unfold intS at hs
  rw [if_neg (by simpa using he)] at hs
  by_cases h1 : getE s.1 = 0
  · rw [if_neg (by simpa using h1)] at hs
    by_cases h2 : unfoldN (getV s.1) < lo ∨ hi < unfoldN (getV s.1)
    · rw [if_pos h2] at hs; simp at hs
    · have r := get_rng h.b
      obtain ⟨_, _, e⟩ := get_back s.1 h.b (getV s.1) (getN s.1) (Prod.ext rfl (Prod.ext rfl h1))
      have a : intS s lo hi = (s.1.drop (getN s.1).toNat, 0) := by unfold intS; rw [if_neg (by simpa using he), if_neg (by simpa using h1), if_neg h2]
      have b : intV s lo hi = unfoldN (getV s.1) := by unfold intV; rw [if_neg (by simpa using he), if_neg (by simpa using h1), if_neg h2]
      rw [a, b, fold_unfold r.1, e, List.take_append_drop]
  · rw [if_pos h1] at hs; exact absurd hs h1
theorem itS_succ (s : Rst) (k : Nat) : itS s (k + 1) = itS (intS s (-2147483648) 2147483647) k := by
  induction k with
  | zero => rfl
  | succ k ih => rw [itS, ih]; rfl
theorem itV_succ (s : Rst) (k : Nat) : itV s (k + 1) = intV s (-2147483648) 2147483647 :: itV (intS s (-2147483648) 2147483647) k := by
  induction k with
  | zero => rfl
  | succ k ih => rw [itV, ih, itS_succ]; rfl
theorem it_there (l : List Int) (h : ∀ x ∈ l, -2147483648 ≤ x ∧ x ≤ 2147483647) (b : List Int) : itS (wideL l ++ b, 0) l.length = (b, 0) ∧ itV (wideL l ++ b, 0) l.length = l := by
  induction l with
  | nil => exact ⟨rfl, rfl⟩
  | cons x l ih =>
    have hx := h x (by simp)
    obtain ⟨a1, a2⟩ := int_there hx.1 hx.2 hx (wideL l ++ b)
    obtain ⟨i1, i2⟩ := ih fun y hy => h y (by simp [hy])
    rw [List.length_cons, wideL_cons, List.append_assoc, itS_succ, itV_succ, a1, a2, i1, i2]
    exact ⟨rfl, rfl⟩
theorem putL_pos (n : Nat) : 0 < (putL n).length := by
  unfold putL; split <;> simp
theorem wideL_ge (l : List Int) : l.length ≤ (wideL l).length := by
  induction l with
  | nil => simp
  | cons x l ih =>
    have := putL_pos (foldN x).toNat
    rw [wideL_cons, List.length_append, List.length_cons]; omega
theorem wid_there (l : List Int) (h : ∀ x ∈ l, -2147483648 ≤ x ∧ x ≤ 2147483647) (b : List Int) : widS (wideL l ++ b, 0) l.length = (b, 0) ∧ widV (wideL l ++ b, 0) l.length = l := by
  have q := wideL_ge l
  have q2 : (wideL l ++ b).length = (wideL l).length + b.length := List.length_append
  obtain ⟨i1, i2⟩ := it_there l h b
  by_cases h1 : (l.length : Int) < 1
  · have : l = [] := List.length_eq_zero_iff.1 (by omega)
    subst this
    constructor
    · unfold widS; rw [if_neg (by simp), if_pos h1]; rfl
    · unfold widV; rw [if_neg (by simp), if_pos h1]
  · constructor
    · unfold widS; rw [if_neg (by simp), if_neg h1, if_neg (by dsimp only; omega), Int.toNat_natCast, i1]
    · unfold widV; rw [if_neg (by simp), if_neg h1, if_neg (by dsimp only; omega), Int.toNat_natCast, i1, if_neg (by simp), i2]
theorem wid_ok {s : Rst} {n : Int} (h : (widS s n).2 = 0) : s.2 = 0 := by
  by_cases q : s.2 = 0
  · exact q
  · unfold widS at h; rw [if_pos q] at h; exact absurd h q
theorem it_ok {s : Rst} {k : Nat} (h : (itS s k).2 = 0) : s.2 = 0 := by
  induction k with
  | zero => exact h
  | succ k ih => exact ih (int_ok h)
theorem it_back {k : Nat} : ∀ {s : Rst}, s.In → (itS s k).2 = 0 → s.1 = wideL (itV s k) ++ (itS s k).1 := by
  induction k with
  | zero => intro s _ _; rfl
  | succ k ih =>
    intro s h hs
    rw [itS_succ] at hs
    rw [itS_succ, itV_succ, wideL_cons, List.append_assoc, ← ih (int_in h _ _) hs]
    exact int_back h (it_ok hs)
theorem wid_back {s : Rst} {n : Int} (h : s.In) (hs : (widS s n).2 = 0) (h0 : 0 ≤ n) : s.1 = wideL (widV s n) ++ (widS s n).1 ∧ ((widV s n).length : Int) = n := by
  have he := wid_ok hs
  unfold widS at hs
  rw [if_neg (by simpa using he)] at hs
  by_cases h1 : n < 1
  · have a : widS s n = s := by unfold widS; rw [if_neg (by simpa using he), if_pos h1]
    have b : widV s n = [] := by unfold widV; rw [if_neg (by simpa using he), if_pos h1]
    rw [a, b]
    exact ⟨rfl, by simp; omega⟩
  · rw [if_neg h1] at hs
    by_cases h2 : (s.1.length : Int) < n
    · rw [if_pos h2] at hs; simp at hs
    · rw [if_neg h2] at hs
      have a : widS s n = itS s n.toNat := by unfold widS; rw [if_neg (by simpa using he), if_neg h1, if_neg h2]
      have b : widV s n = itV s n.toNat := by unfold widV; rw [if_neg (by simpa using he), if_neg h1, if_neg h2, if_neg (by simpa using hs)]
      rw [a, b]
      exact ⟨it_back h hs, by rw [itV_len]; omega⟩
end Go.Proofs.Ytgecmooedhnenaa
/- A node with what its kind tells alone: the law. No condition. -/
namespace Go.Proofs.Ytgecmooedhnenaa
open Go.RowKit
set_option linter.unusedSimpArgs false
set_option linter.unusedVariables false
set_option linter.unnecessarySimpa false
theorem nodEq_false {a b : Nod} (h : (a.kd != b.kd || a.na != b.na || a.nb != b.nb || a.nk != b.nk || a.ns != b.ns || a.np != b.np || a.no != b.no) = true) : false = nodEq a b := by
  symm
  rw [Bool.eq_false_iff]
  intro h'
  have h' := (nodEq_iff _ _).1 h'
  subst h'
  simp at h
theorem nodEq_rest {a b : Nod} (h : (a.kd != b.kd || a.na != b.na || a.nb != b.nb || a.nk != b.nk || a.ns != b.ns || a.np != b.np || a.no != b.no) = false) :
    (a.za == b.za && a.zb == b.zb && a.lo == b.lo && a.hi == b.hi && eqNums [(IntKind.i32, a.qm, b.qm), (IntKind.i64, a.qs, b.qs), (IntKind.i8, a.qz, b.qz)] && eqNums [(IntKind.i32, a.rm, b.rm), (IntKind.i64, a.rs, b.rs), (IntKind.i8, a.rz, b.rz)] && decide (a.w = b.w) && decide (a.b = b.b)) = nodEq a b := by
  simp only [Bool.or_eq_false_iff, bne_eq_false_iff_eq] at h
  obtain ⟨⟨⟨⟨⟨⟨h1, h2⟩, h3⟩, h4⟩, h5⟩, h6⟩, h7⟩ := h
  rw [Bool.eq_iff_iff]
  simp only [nodEq, eqNums, h1, h2, h3, h4, h5, h6, h7, Bool.and_eq_true, decide_eq_true_eq, beq_iff_eq, true_and, and_true]
  constructor
  · rintro ⟨⟨⟨⟨⟨⟨⟨q1, q2⟩, q3⟩, q4⟩, q5⟩, q6⟩, q7⟩, q8⟩; exact ⟨⟨⟨⟨q7, q8⟩, q1, q2, q3, q4⟩, q5⟩, q6⟩
  · rintro ⟨⟨⟨⟨q7, q8⟩, q1, q2, q3, q4⟩, q5⟩, q6⟩; exact ⟨⟨⟨⟨⟨⟨⟨q1, q2⟩, q3⟩, q4⟩, q5⟩, q6⟩, q7⟩, q8⟩
theorem refSame_v (a b : Nod) (hw : a.w.length ≤ 100000) (hb : a.b.length ≤ 100000) : VC Try.prog 25 ([nod a, nod b]) (bv (nodEq a b)) := by
  rcases Bool.eq_false_or_eq_true (a.kd != b.kd || a.na != b.na || a.nb != b.nb || a.nk != b.nk || a.ns != b.ns || a.np != b.np || a.no != b.no) with hc0 | hc0
  · have gc0 : (((((¬a.kd = b.kd ∨ ¬a.na = b.na) ∨ ¬a.nb = b.nb) ∨ ¬a.nk = b.nk) ∨ ¬a.ns = b.ns) ∨ ¬a.np = b.np) ∨ ¬a.no = b.no := by first | (simp only [Bool.or_eq_true, Bool.or_eq_false_iff, Bool.and_eq_true, Bool.and_eq_false_iff, Bool.not_eq_true', Bool.not_eq_false', decide_eq_true_eq, decide_eq_false_iff_not, beq_iff_eq, bne_iff_ne, ne_eq, beq_eq_false_iff_ne, bne_eq_false_iff_eq, eqNums, Bool.and_true] at hc0; first | exact hc0 | omega) | simpa using hc0 | (simp at hc0 ⊢; omega) | (apply Classical.byContradiction; intro hn; simp_all [eqNums]; done) | (apply Classical.byContradiction; intro hn; simp [eqNums] at hc0 hn; omega)
    exact (VC.run (fn := Try.f25) (W := [.r [] [], .r [] [.op false, .op false, .op false, .op false, .op false, .sel 1, .op false, .op false, .op false, .op false, .op false, .sel 1, .op false, .op false, .op false, .op false, .op false, .sel 1, .op false, .op false, .op false, .op false, .op false, .sel 1, .op false, .op false, .op false, .op false, .op false, .sel 1, .op false, .op false, .op false, .op false, .op false, .sel 1], .br true, .r [] []]) (r := bv false) Try.func25 (by kernel_rfl) (.c hc0 <| .n)).weak (WeakL.refl _) (Weak.bool (show ((false) : Bool) = (nodEq a b) from (by (exact nodEq_false (by assumption)))))
  · have gc0 : (((((a.kd = b.kd ∧ a.na = b.na) ∧ a.nb = b.nb) ∧ a.nk = b.nk) ∧ a.ns = b.ns) ∧ a.np = b.np) ∧ a.no = b.no := by first | (simp only [Bool.or_eq_true, Bool.or_eq_false_iff, Bool.and_eq_true, Bool.and_eq_false_iff, Bool.not_eq_true', Bool.not_eq_false', decide_eq_true_eq, decide_eq_false_iff_not, beq_iff_eq, bne_iff_ne, ne_eq, beq_eq_false_iff_ne, bne_eq_false_iff_eq, eqNums, Bool.and_true] at hc0; first | exact hc0 | omega) | simpa using hc0 | (simp at hc0 ⊢; omega) | (apply Classical.byContradiction; intro hn; simp_all [eqNums]; done) | (apply Classical.byContradiction; intro hn; simp [eqNums] at hc0 hn; omega)
    have oz3 := @rsame8_v (a.w) (b.w) (by omega)
    have oz4 := @rsame32_v (a.b) (b.b) (by omega)
    exact (VC.run (fn := Try.f25) (W := [.r [] [], .r [] [.op false, .op false, .op false, .op false, .op false, .sel 1, .op false, .op false, .op false, .op false, .op false, .sel 1, .op false, .op false, .op false, .op false, .op false, .sel 1, .op false, .op false, .op false, .op false, .op false, .sel 1, .op false, .op false, .op false, .op false, .op false, .sel 1, .op false, .op false, .op false, .op false, .op false, .sel 1], .br false, .r [] [.op false, .op false, .op false, .op false, .op false, .sel 2, .op false, .op false, .op false, .op false, .op false, .sel 2, .op false, .op false, .op false, .op false, .op false, .sel 2, .op false, .op false, .op false, .op false, .op false, .v (Value.bool (eqNums [(IntKind.i32, a.qm, b.qm), (IntKind.i64, a.qs, b.qs), (IntKind.i8, a.qz, b.qz)])), .sel 2, .op false, .op false, .op false, .op false, .op false, .v (Value.bool (eqNums [(IntKind.i32, a.rm, b.rm), (IntKind.i64, a.rs, b.rs), (IntKind.i8, a.rz, b.rz)])), .sel 2, .op false, .op false, .op false, .op false, .op false, .callr (rO oz3), .sel 2, .op false, .op false, .op false, .op false, .op false, .callr (rO oz4), .sel 2]]) (r := bv (a.za == b.za && a.zb == b.zb && a.lo == b.lo && a.hi == b.hi && eqNums [(IntKind.i32, a.qm, b.qm), (IntKind.i64, a.qs, b.qs), (IntKind.i8, a.qz, b.qz)] && eqNums [(IntKind.i32, a.rm, b.rm), (IntKind.i64, a.rs, b.rs), (IntKind.i8, a.rz, b.rz)] && decide (a.w = b.w) && decide (a.b = b.b))) Try.func25 (by kernel_rfl) (.c hc0 <| .c (show BinTo Try.prog BinOp.eql 45 (Operand.tmp 80) (Operand.tmp 82) (Value.agg #[Value.int IntKind.i32 a.qm, Value.int IntKind.i64 a.qs, Value.int IntKind.i8 a.qz]) (Value.agg #[Value.int IntKind.i32 b.qm, Value.int IntKind.i64 b.qs, Value.int IntKind.i8 b.qz]) (Value.bool (eqNums [(IntKind.i32, a.qm, b.qm), (IntKind.i64, a.qs, b.qs), (IntKind.i8, a.qz, b.qz)])) from ((bin_nums (l := [(IntKind.i32, a.qm, b.qm), (IntKind.i64, a.qs, b.qs), (IntKind.i8, a.qz, b.qz)]) (by kernel_rfl) (by kernel_rfl) (by kernel_rfl) (by kernel_rfl) _ _).1)) <| .c (show BinTo Try.prog BinOp.eql 45 (Operand.tmp 87) (Operand.tmp 89) (Value.agg #[Value.int IntKind.i32 a.rm, Value.int IntKind.i64 a.rs, Value.int IntKind.i8 a.rz]) (Value.agg #[Value.int IntKind.i32 b.rm, Value.int IntKind.i64 b.rs, Value.int IntKind.i8 b.rz]) (Value.bool (eqNums [(IntKind.i32, a.rm, b.rm), (IntKind.i64, a.rs, b.rs), (IntKind.i8, a.rz, b.rz)])) from ((bin_nums (l := [(IntKind.i32, a.rm, b.rm), (IntKind.i64, a.rs, b.rs), (IntKind.i8, a.rz, b.rz)]) (by kernel_rfl) (by kernel_rfl) (by kernel_rfl) (by kernel_rfl) _ _).1)) <| .c oz3 <| .c oz4 <| .n)).weak (WeakL.refl _) (Weak.bool (show ((a.za == b.za && a.zb == b.zb && a.lo == b.lo && a.hi == b.hi && eqNums [(IntKind.i32, a.qm, b.qm), (IntKind.i64, a.qs, b.qs), (IntKind.i8, a.qz, b.qz)] && eqNums [(IntKind.i32, a.rm, b.rm), (IntKind.i64, a.rs, b.rs), (IntKind.i8, a.rz, b.rz)] && decide (a.w = b.w) && decide (a.b = b.b)) : Bool) = (nodEq a b) from (by (exact nodEq_rest (by assumption)))))
def nod0 : Nod := ⟨0, 0, 0, 0, 0, 0, 0, 0, 0, [], [], 0, 0, 0, 0, 0, 0, 0, 0⟩
theorem plain_same {n : Nod} (h0 : 1 ≤ n.kd) (h9 : n.kd ≤ 9) (h : moreE n = false) : nodEq (plainN n) n = true := by
  have h1 := more_iff n h0 h9
  rw [h] at h1
  rw [nodEq_iff]; exact ((nodEq_iff _ _).1 h1).symm
end Go.Proofs.Ytgecmooedhnenaa
