/- Whether blocks may be, by the document: the law. No condition. -/
import Derived.Test.YtdmomnaoegkpiaaVa
namespace Go.Proofs.Ytdmomnaoegkpiaa
open Go.RowKit
set_option linter.unusedSimpArgs false
set_option linter.unusedVariables false
set_option linter.unnecessarySimpa false

theorem exitE_a {x : Blc} {out : Shp} {r : Rng} {cl : Int} {last : Bool} (h : (!x.ex && (last || (decide (((List.map (row1 IntKind.i8) x.w).length : Int) > 0) || decide (((List.map (row1 IntKind.i32) x.b).length : Int) > 0) || x.nd != 0))) = true) : exitE x out r cl last = 11 := by
  simp only [List.length_map, Bool.and_eq_true, Bool.or_eq_true, decide_eq_true_eq, bne_iff_ne, Bool.not_eq_true'] at h
  unfold exitE
  rw [if_pos ⟨h.1, by rcases h.2 with h | h; exact .inl h; right; omega⟩]
theorem exitE_b {x : Blc} {out : Shp} {r : Rng} {cl : Int} {last : Bool} (h : (!x.ex && (last || (decide (((List.map (row1 IntKind.i8) x.w).length : Int) > 0) || decide (((List.map (row1 IntKind.i32) x.b).length : Int) > 0) || x.nd != 0))) = false) (hx : x.ex = false) : exitE x out r cl last = 0 := by
  rw [hx] at h
  simp only [List.length_map, Bool.not_false, Bool.true_and, Bool.or_eq_false_iff, decide_eq_false_iff_not, bne_eq_false_iff_eq] at h
  unfold exitE
  rw [if_neg (by rintro ⟨_, g | g⟩; (rw [h.1] at g; cases g); omega), if_pos hx]
theorem exitE_c {x : Blc} {out : Shp} {r : Rng} {cl : Int} {last : Bool} (hx : x.ex = true) : exitE x out r cl last = if verdE out x.w x.b x.nd cl ≠ 0 then verdE out x.w x.b x.nd cl else headE x.w x.b r.lo r.hi := by
  unfold exitE
  rw [if_neg (by rw [hx]; simp), if_neg (by rw [hx]; simp)]
set_option maxRecDepth 100000 in
set_option maxHeartbeats 2000000 in
theorem rvblock_s (x : Blc) (a : Shp) (cl : Int) (last : Bool) (ok : x.Ok) (oka : a.Ok) (sm : x.Sm) (h : ¬ SOK x.n a) : VC Try.prog 43 ([blc x, shp a, i64 cl, bv last]) (.tup [i64 (validE x a cl last).1, i64 (validE x a cl last).2]) := by
  have q1 := ok.n
  obtain ⟨q2, q3, q4, q5⟩ := id sm
  have q6 := shapesE_n h
  have q7 := @validE_s x a cl last h
  have oz0 := @rshapes_n (x.n) (a) q1 q3 oka (by omega) h
  exact (VC.run (fn := Try.f43) (W := [.r [] [], .r [] [.callr (rO oz0)], .r [] [], .br true, .r [] []]) (r := AV.tup [i64 (shapesE x.n a).fst, i64 (shapesE x.n a).snd]) Try.func43 (by kernel_rfl) (.c oz0 <| .c (show ((shapesE x.n a).snd != 0) = true by (simp; omega)) <| .n)).weak (WeakL.refl _) (Weak.tup (.cons (Weak.int (show (((shapesE x.n a).fst) : Int) = ((validE x a cl last).fst) from (by (rw [q7])))) (.cons (Weak.int (show (((shapesE x.n a).snd) : Int) = ((validE x a cl last).snd) from (by (rw [q7])))) .nil)))

set_option maxRecDepth 100000 in
set_option maxHeartbeats 2000000 in
theorem rvblock_f (x : Blc) (a : Shp) (cl : Int) (last : Bool) (ok : x.Ok) (oka : a.Ok) (sm : x.Sm) (h : SOK x.n a) (g : ¬ FOK x.n fullR) : VC Try.prog 43 ([blc x, shp a, i64 cl, bv last]) (.tup [i64 (validE x a cl last).1, i64 (validE x a cl last).2]) := by
  have q1 := ok.n
  obtain ⟨q2, q3, q4, q5⟩ := id sm
  have q6 := flowE_n g
  have q7 := @validE_f x a cl last h g
  have q8 := fullR_in
  have oz0 := @rshapes_y (x.n) (a) q1 q3 h
  have oz2 := @rflow_n (x.n) (Rng.mk (-128) 127) q1 q3 q8 (by omega) g
  exact (VC.run (fn := Try.f43) (W := [.r [] [], .r [] [.callr (rO oz0)], .r [] [], .br false, .r [] [.callr (rO oz2)], .r [] [], .br true, .r [] []]) (r := AV.tup [i64 (flowE x.n (Rng.mk (-128) 127)).fst, i64 (flowE x.n (Rng.mk (-128) 127)).snd]) Try.func43 (by kernel_rfl) (.c oz0 <| .c (show false = false by with_reducible rfl) <| .c oz2 <| .c (show ((flowE x.n (Rng.mk (-128) 127)).snd != 0) = true by (simp; omega)) <| .n)).weak (WeakL.refl _) (Weak.tup (.cons (Weak.int (show (((flowE x.n (Rng.mk (-128) 127)).fst) : Int) = ((validE x a cl last).fst) from (by (rw [q7])))) (.cons (Weak.int (show (((flowE x.n (Rng.mk (-128) 127)).snd) : Int) = ((validE x a cl last).snd) from (by (rw [q7])))) .nil)))

set_option maxRecDepth 100000 in
set_option maxHeartbeats 2000000 in
theorem rvblock_y (x : Blc) (a : Shp) (cl : Int) (last : Bool) (ok : x.Ok) (oka : a.Ok) (sm : x.Sm) (h : SOK x.n a) (g : FOK x.n fullR) : VC Try.prog 43 ([blc x, shp a, i64 cl, bv last]) (.tup [i64 (validE x a cl last).1, i64 (validE x a cl last).2]) := by
  have q1 := ok.n
  have qw := ok.w
  have qb := ok.b
  obtain ⟨q2, q3, q4, q5⟩ := id sm
  have q7 := @validE_y x a cl last h g
  have q8 := fullR_in
  have l1 := growL_len nextE x.n a x.n.length
  have l2 := growL_len stepR x.n (Rng.mk (-128) 127) x.n.length
  have l3 : (List.map shpC (growL nextE x.n a x.n.length)).length = (growL nextE x.n a x.n.length).length := List.length_map _
  have l4 : (List.map rchC (growL stepR x.n (Rng.mk (-128) 127) x.n.length)).length = (growL stepR x.n (Rng.mk (-128) 127) x.n.length).length := List.length_map _
  have l5 : (List.map nodC x.n).length = x.n.length := List.length_map _
  have i1 : ((↑(List.map shpC (growL nextE x.n a x.n.length)).length : Int) - 1).toNat = x.n.length := by omega
  have i2 : ((↑(List.map rchC (growL stepR x.n (Rng.mk (-128) 127) x.n.length)).length : Int) - 1).toNat = x.n.length := by omega
  have s3 := lastS_ok (l := x.n) oka
  have vq : (growL nextE x.n a x.n.length).getD ((↑(List.map shpC (growL nextE x.n a x.n.length)).length : Int) - 1).toNat default = lastS x.n a := by rw [i1]; rfl
  have vr : (growL stepR x.n (Rng.mk (-128) 127) x.n.length).getD ((↑(List.map rchC (growL stepR x.n (Rng.mk (-128) 127) x.n.length)).length : Int) - 1).toNat default = lastR x.n := by rw [i2]; rfl
  obtain ⟨s4, s5⟩ := lastR_in q1
  have oz0 := @rshapes_y (x.n) (a) q1 q3 h
  have oz1 := (show false = false by with_reducible rfl)
  have oz2 := @rflow_y (x.n) (Rng.mk (-128) 127) q1 q3 q8 g
  rcases Bool.eq_false_or_eq_true (!x.ex && (last || (decide ((↑(List.map (row1 IntKind.i8) x.w).length : Int) > 0) || decide ((↑(List.map (row1 IntKind.i32) x.b).length : Int) > 0) || x.nd != 0))) with hc0 | hc0
  · have gc0 : x.ex = false ∧ (last = true ∨ ((↑(List.map (row1 IntKind.i8) x.w).length : Int) > 0 ∨ (↑(List.map (row1 IntKind.i32) x.b).length : Int) > 0) ∨ ¬x.nd = 0) := by first | (simp only [Bool.or_eq_true, Bool.or_eq_false_iff, Bool.and_eq_true, Bool.and_eq_false_iff, Bool.not_eq_true', Bool.not_eq_false', decide_eq_true_eq, decide_eq_false_iff_not, beq_iff_eq, bne_iff_ne, ne_eq, beq_eq_false_iff_ne, bne_eq_false_iff_eq, eqNums, Bool.and_true] at hc0; first | exact hc0 | omega) | simpa using hc0 | (simp at hc0 ⊢; omega)
    exact (VC.run (fn := Try.f43) (W := [.r [] [], .r [] [.callr (rO oz0)], .r [] [], .br false, .r [] [.callr (rO oz2)], .r [] [], .br false, .r [] [.op false, .op false, .op false, .op false, .op false, .sel 1, .op false, .op false, .op false, .op false, .sel 1], .r [] [.op false, .op false, .op false, .op false, .sel 1, .sel 2], .br true, .r [] []]) (r := AV.tup [i64 (-1), i64 11]) Try.func43 (by kernel_rfl) (.c oz0 <| .c oz1 <| .c oz2 <| .c oz1 <| .c hc0 <| .n)).weak (WeakL.refl _) (Weak.tup (.cons (Weak.int (show ((-1) : Int) = ((validE x a cl last).fst) from (by (rw [q7, exitE_a (by assumption), if_pos (by decide)])))) (.cons (Weak.int (show ((11) : Int) = ((validE x a cl last).snd) from (by (rw [q7, exitE_a (by assumption), if_pos (by decide)])))) .nil)))
  · have gc0 : x.ex = true ∨ last = false ∧ (¬(↑(List.map (row1 IntKind.i8) x.w).length : Int) > 0 ∧ ¬(↑(List.map (row1 IntKind.i32) x.b).length : Int) > 0) ∧ x.nd = 0 := by first | (simp only [Bool.or_eq_true, Bool.or_eq_false_iff, Bool.and_eq_true, Bool.and_eq_false_iff, Bool.not_eq_true', Bool.not_eq_false', decide_eq_true_eq, decide_eq_false_iff_not, beq_iff_eq, bne_iff_ne, ne_eq, beq_eq_false_iff_ne, bne_eq_false_iff_eq, eqNums, Bool.and_true] at hc0; first | exact hc0 | omega) | simpa using hc0 | (simp at hc0 ⊢; omega)
    rcases Bool.eq_false_or_eq_true (x.ex) with hc1 | hc1
    · have gc1 : x.ex = true := by first | exact hc1 | exact of_decide_eq_true hc1 | exact of_decide_eq_false hc1 | simpa [eqNums] using hc1 | (simp [eqNums] at hc1 ⊢; first | done | assumption | omega)
      have oz6 := (IntWalk.i64_in ((↑(List.map shpC (growL nextE x.n a x.n.length)).length : Int) - 1) (by omega))
      have oz7 := (show 0 ≤ (↑(List.map shpC (growL nextE x.n a x.n.length)).length : Int) - 1 by omega)
      have oz8 := (map_at (shpC) (default) (l := growL nextE x.n a x.n.length) (i := ((↑(List.map shpC (growL nextE x.n a x.n.length)).length : Int) - 1).toNat) (by omega))
      have oz9 := @refVcheck_v ((growL nextE x.n a x.n.length).getD ((↑(List.map shpC (growL nextE x.n a x.n.length)).length : Int) - 1).toNat default) (x.w) (x.b) (x.nd) (cl) (by (rw [i1]; exact s3)) q4 q5
      rcases Bool.eq_false_or_eq_true (verdE ((growL nextE x.n a x.n.length).getD ((↑(List.map shpC (growL nextE x.n a x.n.length)).length : Int) - 1).toNat default) x.w x.b x.nd cl != 0) with hc2 | hc2
      · have gc2 : ¬verdE ((growL nextE x.n a x.n.length).getD ((↑(List.map shpC (growL nextE x.n a x.n.length)).length : Int) - 1).toNat default) x.w x.b x.nd cl = 0 := bdt hc2
        exact (VC.run (fn := Try.f43) (W := [.r [] [], .r [] [.callr (rO oz0)], .r [] [], .br false, .r [] [.callr (rO oz2)], .r [] [], .br false, .r [] [.op false, .op false, .op false, .op false, .op false, .sel 1, .op false, .op false, .op false, .op false, .sel 1], .r [] [.op false, .op false, .op false, .op false, .sel 1, .sel 2], .br false, .r [] [], .br true, .r [] [.n (nO oz6), .row (sO oz8), .callr (rO oz9)], .r [] [], .br true, .r [] []]) (r := AV.tup [i64 (-1), i64 (verdE ((growL nextE x.n a x.n.length).getD ((↑(List.map shpC (growL nextE x.n a x.n.length)).length : Int) - 1).toNat default) x.w x.b x.nd cl)]) Try.func43 (by kernel_rfl) (.c oz0 <| .c oz1 <| .c oz2 <| .c oz1 <| .c hc0 <| .c hc1 <| .c oz6 <| .c oz7 <| .c oz8 <| .c oz9 <| .c hc2 <| .n)).to (by (simp only [vq, vr] at *; rw [q7, exitE_c (by assumption)]; simp_all; done))
      · have gc2 : verdE ((growL nextE x.n a x.n.length).getD ((↑(List.map shpC (growL nextE x.n a x.n.length)).length : Int) - 1).toNat default) x.w x.b x.nd cl = 0 := bdf hc2
        have oz11 := (IntWalk.i64_in ((↑(List.map rchC (growL stepR x.n (Rng.mk (-128) 127) x.n.length)).length : Int) - 1) (by omega))
        have oz12 := (show 0 ≤ (↑(List.map rchC (growL stepR x.n (Rng.mk (-128) 127) x.n.length)).length : Int) - 1 by omega)
        have oz13 := (map_at (rchC) (default) (l := growL stepR x.n (Rng.mk (-128) 127) x.n.length) (i := ((↑(List.map rchC (growL stepR x.n (Rng.mk (-128) 127) x.n.length)).length : Int) - 1).toNat) (by omega))
        have oz14 := @refHead_v (x.w) (x.b) (x.nd) (((growL stepR x.n (Rng.mk (-128) 127) x.n.length).getD ((↑(List.map rchC (growL stepR x.n (Rng.mk (-128) 127) x.n.length)).length : Int) - 1).toNat default).lo) (((growL stepR x.n (Rng.mk (-128) 127) x.n.length).getD ((↑(List.map rchC (growL stepR x.n (Rng.mk (-128) 127) x.n.length)).length : Int) - 1).toNat default).hi) qw qb q4 q5 (by (rw [i2]; exact s4)) (by (rw [i2]; exact s5))
        rcases Bool.eq_false_or_eq_true (headE x.w x.b ((growL stepR x.n (Rng.mk (-128) 127) x.n.length).getD ((↑(List.map rchC (growL stepR x.n (Rng.mk (-128) 127) x.n.length)).length : Int) - 1).toNat default).lo ((growL stepR x.n (Rng.mk (-128) 127) x.n.length).getD ((↑(List.map rchC (growL stepR x.n (Rng.mk (-128) 127) x.n.length)).length : Int) - 1).toNat default).hi != 0) with hc3 | hc3
        · have gc3 : ¬headE x.w x.b ((growL stepR x.n (Rng.mk (-128) 127) x.n.length).getD ((↑(List.map rchC (growL stepR x.n (Rng.mk (-128) 127) x.n.length)).length : Int) - 1).toNat default).lo ((growL stepR x.n (Rng.mk (-128) 127) x.n.length).getD ((↑(List.map rchC (growL stepR x.n (Rng.mk (-128) 127) x.n.length)).length : Int) - 1).toNat default).hi = 0 := bdt hc3
          exact (VC.run (fn := Try.f43) (W := [.r [] [], .r [] [.callr (rO oz0)], .r [] [], .br false, .r [] [.callr (rO oz2)], .r [] [], .br false, .r [] [.op false, .op false, .op false, .op false, .op false, .sel 1, .op false, .op false, .op false, .op false, .sel 1], .r [] [.op false, .op false, .op false, .op false, .sel 1, .sel 2], .br false, .r [] [], .br true, .r [] [.n (nO oz6), .row (sO oz8), .callr (rO oz9)], .r [] [], .br false, .r [] [.n (nO oz11), .row (sO oz13), .callr (rO oz14)], .r [] [], .br true, .r [] []]) (r := AV.tup [i64 (-1), i64 (headE x.w x.b ((growL stepR x.n (Rng.mk (-128) 127) x.n.length).getD ((↑(List.map rchC (growL stepR x.n (Rng.mk (-128) 127) x.n.length)).length : Int) - 1).toNat default).lo ((growL stepR x.n (Rng.mk (-128) 127) x.n.length).getD ((↑(List.map rchC (growL stepR x.n (Rng.mk (-128) 127) x.n.length)).length : Int) - 1).toNat default).hi)]) Try.func43 (by kernel_rfl) (.c oz0 <| .c oz1 <| .c oz2 <| .c oz1 <| .c hc0 <| .c hc1 <| .c oz6 <| .c oz7 <| .c oz8 <| .c oz9 <| .c hc2 <| .c oz11 <| .c oz12 <| .c oz13 <| .c oz14 <| .c hc3 <| .n)).to (by (simp only [vq, vr] at *; rw [q7, exitE_c (by assumption)]; simp_all; done))
        · have gc3 : headE x.w x.b ((growL stepR x.n (Rng.mk (-128) 127) x.n.length).getD ((↑(List.map rchC (growL stepR x.n (Rng.mk (-128) 127) x.n.length)).length : Int) - 1).toNat default).lo ((growL stepR x.n (Rng.mk (-128) 127) x.n.length).getD ((↑(List.map rchC (growL stepR x.n (Rng.mk (-128) 127) x.n.length)).length : Int) - 1).toNat default).hi = 0 := bdf hc3
          exact (VC.run (fn := Try.f43) (W := [.r [] [], .r [] [.callr (rO oz0)], .r [] [], .br false, .r [] [.callr (rO oz2)], .r [] [], .br false, .r [] [.op false, .op false, .op false, .op false, .op false, .sel 1, .op false, .op false, .op false, .op false, .sel 1], .r [] [.op false, .op false, .op false, .op false, .sel 1, .sel 2], .br false, .r [] [], .br true, .r [] [.n (nO oz6), .row (sO oz8), .callr (rO oz9)], .r [] [], .br false, .r [] [.n (nO oz11), .row (sO oz13), .callr (rO oz14)], .r [] [], .br false, .r [] []]) (r := AV.tup [i64 (↑(List.map nodC x.n).length : Int), i64 0]) Try.func43 (by kernel_rfl) (.c oz0 <| .c oz1 <| .c oz2 <| .c oz1 <| .c hc0 <| .c hc1 <| .c oz6 <| .c oz7 <| .c oz8 <| .c oz9 <| .c hc2 <| .c oz11 <| .c oz12 <| .c oz13 <| .c oz14 <| .c hc3 <| .n)).to (by (simp only [vq, vr] at *; rw [q7, exitE_c (by assumption)]; simp_all; done))
    · have gc1 : x.ex = false := by first | exact hc1 | exact of_decide_eq_true hc1 | exact of_decide_eq_false hc1 | simpa [eqNums] using hc1 | (simp [eqNums] at hc1 ⊢; first | done | assumption | omega)
      exact (VC.run (fn := Try.f43) (W := [.r [] [], .r [] [.callr (rO oz0)], .r [] [], .br false, .r [] [.callr (rO oz2)], .r [] [], .br false, .r [] [.op false, .op false, .op false, .op false, .op false, .sel 1, .op false, .op false, .op false, .op false, .sel 1], .r [] [.op false, .op false, .op false, .op false, .sel 1, .sel 2], .br false, .r [] [], .br false, .r [] []]) (r := AV.tup [i64 (↑(List.map nodC x.n).length : Int), i64 0]) Try.func43 (by kernel_rfl) (.c oz0 <| .c oz1 <| .c oz2 <| .c oz1 <| .c hc0 <| .c hc1 <| .n)).weak (WeakL.refl _) (Weak.tup (.cons (Weak.int (show (((↑(List.map nodC x.n).length : Int)) : Int) = ((validE x a cl last).fst) from (by (rw [q7, exitE_b (by assumption) (by assumption), if_neg (by simp), List.length_map])))) (.cons (Weak.int (show ((0) : Int) = ((validE x a cl last).snd) from (by (rw [q7, exitE_b (by assumption) (by assumption), if_neg (by simp)])))) .nil)))
theorem vblock_v (x : Blc) (a : Shp) (cl : Int) (last : Bool) (ok : x.Ok) (oka : a.Ok) (sm : x.Sm) : VC Try.prog 42 [blc x, shp a, i64 cl, bv last] (.tup [i64 (validE x a cl last).1, i64 (validE x a cl last).2]) := by
  by_cases h : SOK x.n a
  · by_cases g : FOK x.n fullR
    · exact vblock_y x a cl last ok oka sm h g
    · exact vblock_f x a cl last ok oka sm h g
  · exact vblock_s x a cl last ok oka sm h
theorem rvblock_v (x : Blc) (a : Shp) (cl : Int) (last : Bool) (ok : x.Ok) (oka : a.Ok) (sm : x.Sm) : VC Try.prog 43 [blc x, shp a, i64 cl, bv last] (.tup [i64 (validE x a cl last).1, i64 (validE x a cl last).2]) := by
  by_cases h : SOK x.n a
  · by_cases g : FOK x.n fullR
    · exact rvblock_y x a cl last ok oka sm h g
    · exact rvblock_f x a cl last ok oka sm h g
  · exact rvblock_s x a cl last ok oka sm h
end Go.Proofs.Ytdmomnaoegkpiaa

