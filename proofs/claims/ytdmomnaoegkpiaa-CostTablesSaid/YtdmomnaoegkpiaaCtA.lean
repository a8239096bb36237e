/- What each block of a bundle costs, by the program: a meter that keeps the shape. No condition. -/
import Derived.Test.YtdmomnaoegkpiaaCoM
namespace Go.Proofs.Ytdmomnaoegkpiaa
open Go.RowKit
set_option linter.unusedSimpArgs false
set_option linter.unusedVariables false
set_option linter.unnecessarySimpa false

set_option maxRecDepth 100000 in
set_option maxHeartbeats 2000000 in
theorem meter_v (a : Shp) (cl : Int)  : VM Try.prog 88 ([shp a, i64 cl]) ([]) (.clo 154 [.ptr 950 0 0, .ptr 951 0 0]) ([(950, .var (shpC a)), (951, .var [i64 cl])]) := by
  exact VM.run (fn := Try.f88) (W := [.r [] [], .r [] []]) (G := [.ren 3 951, .ren 2 950, .sort]) Try.func88 (by kernel_rfl) (.n)

set_option maxRecDepth 100000 in
set_option maxHeartbeats 2000000 in
theorem metered_y (x : Blc) (a : Shp) (cl : Int) (ok : x.Ok) (ws : ∀ n ∈ x.n, n.w.length ≤ 100000 ∧ n.b.length ≤ 100000) (h : SOK x.n a) : VM Try.prog 154 ([blc x, .ptr 100000 0 0, .ptr 100001 0 0]) ([(100000, .var (shpC a)), (100001, .var [i64 cl])]) (.tup [i64 (blockC x a cl), i64 0]) ([(100000, .var (shpC (lastS x.n a))), (100001, .var [i64 cl])]) := by
  have oz0 := @cblock_y (x) (a) (cl) ok ws h
  have oz2 := @cout_y (x) (a) ok ws h
  exact VM.run (fn := Try.f154) (W := [.r [] [], .r [] [.callr (rO oz0)], .r [] [], .br false, .r [] [.callr (rO oz2)], .r [] []]) (G := [.drop [3], .sort]) Try.func154 (by kernel_rfl) (.c oz0 <| .c (show false = false by with_reducible rfl) <| .c oz2 <| .n)

set_option maxRecDepth 100000 in
set_option maxHeartbeats 2000000 in
theorem metered_n (x : Blc) (a : Shp) (cl : Int) (ok : x.Ok) (oka : a.Ok) (sm : x.n.length ≤ 12) (ws : ∀ n ∈ x.n, n.w.length ≤ 100000 ∧ n.b.length ≤ 100000) (h : ¬ SOK x.n a) : VM Try.prog 154 ([blc x, .ptr 100000 0 0, .ptr 100001 0 0]) ([(100000, .var (shpC a)), (100001, .var [i64 cl])]) (.tup [i64 0, i64 (shapesE x.n a).2]) ([(100000, .var (shpC a)), (100001, .var [i64 cl])]) := by
  have q6 := shapesE_n h
  have oz0 := @cblock_n (x) (a) (cl) ok oka sm ws h
  exact VM.run (fn := Try.f154) (W := [.r [] [], .r [] [.callr (rO oz0)], .r [] [], .br true, .r [] []]) (G := [.drop [3], .sort]) Try.func154 (by kernel_rfl) (.c oz0 <| .c (show ((shapesE x.n a).snd != 0) = true by (simp; omega)) <| .n)
end Go.Proofs.Ytdmomnaoegkpiaa

