/- Whether blocks and bundles may be: two laws. No condition. -/
import Derived.Test.YtdmomnaoegkpiaaVaL
namespace Go.Proofs.Ytdmomnaoegkpiaa
open Go.RowKit
set_option linter.unusedSimpArgs false
set_option linter.unusedVariables false
set_option linter.unnecessarySimpa false

theorem bun0_ok : Bun.Ok ⟨0, 0, 0, 0, []⟩ := by
  constructor <;> first | exact ⟨by decide, by decide⟩ | (intro d hd; cases hd)
theorem bun0_sm : Bun.Sm ⟨0, 0, 0, 0, []⟩ := ⟨by simp, fun d hd => by cases hd⟩
theorem vb0 : VC Try.prog 38 [.agg [i64 0, i64 0, i64 0, i64 0, .sl 1 []]] (flt ⟨5, -1, -1, -1⟩) := VC.to (vbundle_v ⟨0, 0, 0, 0, []⟩ bun0_ok bun0_sm) (by kernel_rfl)
theorem vr0 : VC Try.prog 40 [.agg [i64 0, i64 0, i64 0, i64 0, .sl 1 []]] (bv false) := VC.to (vright_v ⟨0, 0, 0, 0, []⟩ bun0_ok bun0_sm) (by kernel_rfl)
set_option maxRecDepth 100000 in
set_option maxHeartbeats 2000000 in
theorem known33_v   : VC Try.prog 37 ([]) (bv true) := by
  have oz0 := (show WeakL [AV.agg [i64 0, i64 0, i64 0, i64 0, AV.lit (Value.slice none 0 0)]] [AV.agg [i64 0, i64 0, i64 0, i64 0, AV.sl 1 []]] from (.cons (Weak.agg (.cons (.refl _) (.cons (.refl _) (.cons (.refl _) (.cons (.refl _) (.cons (Weak.nil _) .nil)))))) .nil))
  have oz1 := @vb0
  have oz3 := (show true = true by with_reducible rfl)
  have oz6 := @vr0
  exact VC.run (fn := Try.f37) (W := [.r [] [], .r [] [.call (aO oz1) (rO oz1), .v (Value.bool (eqNums [(IntKind.i64, (Flt.mk 5 (-1) (-1) (-1)).w, 5), (IntKind.i64, (Flt.mk 5 (-1) (-1) (-1)).m, -1), (IntKind.i64, (Flt.mk 5 (-1) (-1) (-1)).b, -1), (IntKind.i64, (Flt.mk 5 (-1) (-1) (-1)).n, -1)])), .br true, .br true, .call (aO oz6) (rO oz6), .br true, .br true]]) Try.func37 (by kernel_rfl) (.c oz0 <| .c oz1 <| .c (show BinTo Try.prog BinOp.eql (90 : Nat) (Operand.tmp (2 : Nat)) (Operand.tmp (3 : Nat)) (Value.agg #[Value.int IntKind.i64 (Flt.mk (5 : Int) (-1 : Int) (-1 : Int) (-1 : Int)).w, Value.int IntKind.i64 (Flt.mk (5 : Int) (-1 : Int) (-1 : Int) (-1 : Int)).m, Value.int IntKind.i64 (Flt.mk (5 : Int) (-1 : Int) (-1 : Int) (-1 : Int)).b, Value.int IntKind.i64 (Flt.mk (5 : Int) (-1 : Int) (-1 : Int) (-1 : Int)).n]) (Value.agg #[Value.int IntKind.i64 (5 : Int), Value.int IntKind.i64 (-1 : Int), Value.int IntKind.i64 (-1 : Int), Value.int IntKind.i64 (-1 : Int)]) (Value.bool (eqNums [(IntKind.i64, (Flt.mk (5 : Int) (-1 : Int) (-1 : Int) (-1 : Int)).w, (5 : Int)), (IntKind.i64, (Flt.mk (5 : Int) (-1 : Int) (-1 : Int) (-1 : Int)).m, (-1 : Int)), (IntKind.i64, (Flt.mk (5 : Int) (-1 : Int) (-1 : Int) (-1 : Int)).b, (-1 : Int)), (IntKind.i64, (Flt.mk (5 : Int) (-1 : Int) (-1 : Int) (-1 : Int)).n, (-1 : Int))])) from ((bin_nums (l := [(IntKind.i64, (Flt.mk 5 (-1) (-1) (-1)).w, 5), (IntKind.i64, (Flt.mk 5 (-1) (-1) (-1)).m, -1), (IntKind.i64, (Flt.mk 5 (-1) (-1) (-1)).b, -1), (IntKind.i64, (Flt.mk 5 (-1) (-1) (-1)).n, -1)]) (by kernel_rfl) (by kernel_rfl) (by kernel_rfl) (by kernel_rfl) _ _).1)) <| .c oz3 <| .c oz3 <| .c oz0 <| .c oz6 <| .c oz3 <| .c oz3 <| .n)

set_option maxRecDepth 100000 in
set_option maxHeartbeats 2000000 in
theorem validBlocks_y (x : Blc) (a : Shp) (cl : Int) (last : Bool) (ok : x.Ok) (oka : a.Ok) (few : blcS x = true) : VC Try.prog 9 ([blc x, shp a, i64 cl, bv last]) (bv true) := by
  have sm := Blc.sm few
  have oz0 := @few31_1 (x)
  have oz2 := @vblock_v (x) (a) (cl) (last) ok oka sm
  have oz3 := @rvblock_v (x) (a) (cl) (last) ok oka sm
  have oz4 := (show ((validE x a cl last).fst == (validE x a cl last).fst) = true by (refine decide_eq_true ?_; omega))
  have oz8 := (show ((validE x a cl last).snd == (validE x a cl last).snd) = true by (refine decide_eq_true ?_; omega))
  have oz9 := @known33_v
  exact VC.run (fn := Try.f9) (W := [.r [] [], .r [] [.frz 0, .callr (rO oz0)], .br false, .r [] [.callr (rO oz2)], .r [] [.callr (rO oz3)], .r [] [.br true, .br true, .br true, .br true, .br true, .callr (rO oz9), .br true]]) Try.func9 (by kernel_rfl) (.c oz0 <| .c (show (!blcS x) = false by (rw [few]; rfl)) <| .c oz2 <| .c oz3 <| .c oz4 <| .c oz4 <| .c oz4 <| .c oz4 <| .c oz8 <| .c oz9 <| .c oz8 <| .n)

set_option maxRecDepth 100000 in
set_option maxHeartbeats 2000000 in
theorem validBlocks_x (x : Blc) (a : Shp) (cl : Int) (last : Bool) (few : blcS x = false) : VC Try.prog 9 ([blc x, shp a, i64 cl, bv last]) (bv true) := by
  have oz0 := @few31_1 (x)
  have oz2 := @known33_v
  exact VC.run (fn := Try.f9) (W := [.r [] [], .r [] [.frz 0, .callr (rO oz0)], .br true, .r [] [.callr (rO oz2)]]) Try.func9 (by kernel_rfl) (.c oz0 <| .c (show (!blcS x) = true by (rw [few]; rfl)) <| .c oz2 <| .n)
theorem validBlocks_v (x : Blc) (a : Shp) (cl : Int) (last : Bool) (ok : x.Ok) (oka : a.Ok) : VC Try.prog 9 [blc x, shp a, i64 cl, bv last] (bv true) := by
  cases few : blcS x with
  | false => exact validBlocks_x x a cl last few
  | true => exact validBlocks_y x a cl last ok oka few
set_option maxRecDepth 100000 in
set_option maxHeartbeats 2000000 in
theorem validBundles_y (u : Bun) (ok : u.Ok) (few : bunS u = true) : VC Try.prog 8 ([bun u]) (bv true) := by
  have sm := Bun.sm few
  have oz0 := @few31_v (u)
  have oz2 := @vbundle_v (u) ok sm
  have oz3 := @rvbundle_v (u) ok sm
  have oz4 := (show ((bunE u).w == (bunE u).w) = true by (refine decide_eq_true ?_; omega))
  have oz10 := (show ((bunE u).m == (bunE u).m) = true by (refine decide_eq_true ?_; omega))
  have oz16 := (show ((bunE u).b == (bunE u).b) = true by (refine decide_eq_true ?_; omega))
  have oz22 := (show ((bunE u).n == (bunE u).n) = true by (refine decide_eq_true ?_; omega))
  have oz24 := @vright_v (u) ok sm
  have oz27 := @rvright_v (u) ok sm
  have oz30 := @known33_v
  exact (VC.run (fn := Try.f8) (W := [.r [] [], .r [] [.callr (rO oz0)], .br false, .r [] [.callr (rO oz2), .callr (rO oz3)], .r [] [.br true, .br true, .br true, .br true, .br true, .br true, .br true, .br true, .br true, .br true, .br true, .br true, .br true, .br true, .br true, .br true, .br true, .br true, .br true, .br true, .callr (rO oz24), .br true, .br true, .callr (rO oz27), .br true, .br true, .op false, .callr (rO oz30), .sel 1]]) (r := bv (((bunE u).w == 0) == ((bunE u).w == 0) || false)) Try.func8 (by kernel_rfl) (.c oz0 <| .c (show (!bunS u) = false by (rw [few]; rfl)) <| .c oz2 <| .c oz3 <| .c oz4 <| .c oz4 <| .c oz4 <| .c oz4 <| .c oz4 <| .c oz4 <| .c oz10 <| .c oz10 <| .c oz10 <| .c oz10 <| .c oz10 <| .c oz10 <| .c oz16 <| .c oz16 <| .c oz16 <| .c oz16 <| .c oz16 <| .c oz16 <| .c oz22 <| .c oz22 <| .c oz24 <| .c oz22 <| .c oz22 <| .c oz27 <| .c oz22 <| .c oz22 <| .c oz30 <| .n)).weak (WeakL.refl _) (Weak.bool (show ((((bunE u).w == 0) == ((bunE u).w == 0) || false) : Bool) = (true) from (by (simp; done))))

set_option maxRecDepth 100000 in
set_option maxHeartbeats 2000000 in
theorem validBundles_x (u : Bun) (few : bunS u = false) : VC Try.prog 8 ([bun u]) (bv true) := by
  have oz0 := @few31_v (u)
  have oz2 := @known33_v
  exact VC.run (fn := Try.f8) (W := [.r [] [], .r [] [.callr (rO oz0)], .br true, .r [] [.callr (rO oz2)]]) Try.func8 (by kernel_rfl) (.c oz0 <| .c (show (!bunS u) = true by (rw [few]; rfl)) <| .c oz2 <| .n)
theorem validBundles_v (u : Bun) (ok : u.Ok) : VC Try.prog 8 [bun u] (bv true) := by
  cases few : bunS u with
  | false => exact validBundles_x u few
  | true => exact validBundles_y u ok few
end Go.Proofs.Ytdmomnaoegkpiaa

