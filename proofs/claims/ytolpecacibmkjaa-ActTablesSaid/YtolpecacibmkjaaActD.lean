/- Tensors that are the same; the law. No condition. -/
import Derived.Test.YtolpecacibmkjaaActC
namespace Go.Proofs.Ytolpecacibmkjaa
open Go.RowKit

noncomputable def sm_S (T : Ten) : VS := headF Try.prog Try.f40 ([ten .i8 T, ten .i8 T]) ([.r [] [], .r [] [PI.v (Value.bool false),
 PI.br true,
 PI.br true,
 PI.br true,
 PI.br true,
 PI.br true,
 PI.br true,
 PI.br true,
 PI.br false], .br false, .r [] []])
noncomputable def smI (T : Ten) (k : Nat) : VS := ((sm_S T).unk (junk (fnC Try.f40 [1, 1, 0, 1, 0, 0]) [5])).turn [(5, i64 k), (4, bv false)] []
set_option maxRecDepth 100000 in
set_option maxHeartbeats 1000000 in
theorem sm_step (T : Ten) (k : Nat) (v : Int) (hl : T.d.length ≤ 1000000) (hk : k < T.d.length) (hv : T.d[k]? = some v) : VT Try.prog (fnC Try.f40 [1, 1, 0, 1, 0, 0]) (smI T k) (.normal) (smI T (k + 1)) := by
  refine VT.run (W := [.r [] [], .br true, .r [] [PI.row [i8 v], PI.row [i8 v]], .br false, .r [] [PI.n ((↑k : Int) + 1)]]) (G := [.any (junk (fnC Try.f40 [1, 1, 0, 1, 0, 0]) [5, 4])])
    (ob := [decide ((↑k : Int) < (↑(List.map (row1 IntKind.i8) T.d).length : Int)) = true,
    0 ≤ (↑k : Int),
    (List.map (row1 IntKind.i8) T.d)[(↑k : Int).toNat]? = some [i8 v],
    0 ≤ (↑k : Int),
    (List.map (row1 IntKind.i8) T.d)[(↑k : Int).toNat]? = some [i8 v],
    (v != v) = false,
    IntKind.i64.wrap ((↑k : Int) + 1) = (↑k : Int) + 1]) (by kernel_rfl) ?_
  refine ⟨?_, ?_, ?_, ?_, ?_, ?_, ?_, trivial⟩
  all_goals (first | with_reducible assumption | (exact row_get hv) | (exact decide_eq_true (by simp; omega)) | (simp; done) | rfl | with_reducible exact WeakL.refl _ | with_reducible exact Weak.refl _ | exact IntWalk.i64_in _ (by omega) | exact IntWalk.i32_in _ (by omega) | exact IntWalk.i8_in _ (by omega) | exact decide_eq_true (by omega) | exact decide_eq_false (by omega) | exact row_get (by assumption) | omega | (simp only [beq_iff_eq, bne_iff_ne, ne_eq, beq_eq_false_iff_ne, bne_eq_false_iff_eq]; omega))

set_option maxRecDepth 100000 in
set_option maxHeartbeats 1000000 in
theorem sm_end (T : Ten) : VT Try.prog (fnC Try.f40 [1, 1, 0, 1, 0, 0]) (smI T T.d.length) (.exit 0) (smI T T.d.length) := by
  refine VT.run (W := [.r [] [], .br false]) (G := [.any [20, 21, 22, 23, 24]])
    (ob := [decide ((↑T.d.length : Int) < (↑(List.map (row1 IntKind.i8) T.d).length : Int)) = false]) (by kernel_rfl) ?_
  refine ⟨?_, trivial⟩
  all_goals (first | with_reducible assumption | (exact decide_eq_false (by simp)) | rfl | with_reducible exact WeakL.refl _ | with_reducible exact Weak.refl _ | exact IntWalk.i64_in _ (by omega) | exact IntWalk.i32_in _ (by omega) | exact IntWalk.i8_in _ (by omega) | exact decide_eq_true (by omega) | exact decide_eq_false (by omega) | exact row_get (by assumption) | omega | (simp only [beq_iff_eq, bne_iff_ne, ne_eq, beq_eq_false_iff_ne, bne_eq_false_iff_eq]; omega))
theorem sm_loop (T : Ten) (hl : T.d.length ≤ 1000000) : VT Try.prog (fnC Try.f40 [1, 1, 0, 1, 0]) (smI T 0) (.exit 0) (smI T T.d.length) :=
  VT.loop (fun k => smI T k) T.d.length (fun k hk => sm_step T k _ hl hk (List.getElem?_eq_getElem hk)) (sm_end T) (by intro h; cases h)
set_option maxRecDepth 100000 in
set_option maxHeartbeats 1000000 in
theorem same_v (T : Ten) (hl : T.d.length ≤ 1000000) : VC Try.prog 40 ([ten .i8 T, ten .i8 T]) (AV.lit (Value.bool true)) := by
  refine VC.run (fn := Try.f40) Try.func40 (W := [.r [] [], .r [] [PI.v (Value.bool false),
 PI.br true,
 PI.br true,
 PI.br true,
 PI.br true,
 PI.br true,
 PI.br true,
 PI.br true,
 PI.br
   false], .br false, .r [] [], .code [GI.any
    (junk (fnC Try.f40 [1, 1, 0, 1, 0, 0]) [5, 4])] (Exit.exit 0) (smI T T.d.length), .r [] []])
    (ob := [BinTo Try.prog BinOp.neq 62 (Operand.tmp 7) (Operand.tmp 9)
  (Value.agg #[Value.int IntKind.i64 T.h, Value.int IntKind.i64 T.x, Value.int IntKind.i64 T.c])
  (Value.agg #[Value.int IntKind.i64 T.h, Value.int IntKind.i64 T.x, Value.int IntKind.i64 T.c]) (Value.bool false),
    false = false,
    false = false,
    false = false,
    false = false,
    false = false,
    false = false,
    false = false,
    false = false,
    ((↑(List.map (row1 IntKind.i8) T.d).length : Int) != (↑(List.map (row1 IntKind.i8) T.d).length : Int)) = false,
    VT Try.prog (fnC Try.f40 [1, 1, 0, 1, 0]) (smI T 0) (Exit.exit 0) (smI T T.d.length)]) (by kernel_rfl) ?_
  refine ⟨?_, ?_, ?_, ?_, ?_, ?_, ?_, ?_, ?_, ?_, ?_, trivial⟩
  all_goals (first | with_reducible assumption | with_reducible exact sm_loop T hl | (exact shape_same _ _ _ _ _) | (simp; done) | rfl | with_reducible exact WeakL.refl _ | with_reducible exact Weak.refl _ | exact IntWalk.i64_in _ (by omega) | exact IntWalk.i32_in _ (by omega) | exact IntWalk.i8_in _ (by omega) | exact decide_eq_true (by omega) | exact decide_eq_false (by omega) | exact row_get (by assumption) | omega | (simp only [beq_iff_eq, bne_iff_ne, ne_eq, beq_eq_false_iff_ne, bne_eq_false_iff_eq]; omega))
abbrev kn21 : Nod := ⟨0, 0, 0, 0, 0, 0, 0, 0, 0, [], [], 1, 0, 0, 0, 0, 0, 0, 127⟩
theorem kn21_ok : kn21.Ok := by
  constructor <;> first | exact ⟨by decide, by decide⟩ | (intro v hv; simp at hv)
theorem kn21_w : Weak (.agg [i64 0, i64 0, i64 0, i64 0, i64 0, i64 0, i64 0, i8 0, i8 0, nilv, nilv, i32 1, i64 0, i8 0, i32 0, i64 0, i8 0, i8 0, i8 127]) (nod kn21) :=
  Weak.agg (.cons (.refl _) (.cons (.refl _) (.cons (.refl _) (.cons (.refl _) (.cons (.refl _) (.cons (.refl _) (.cons (.refl _) (.cons (.refl _) (.cons (.refl _) (.cons (.nil 1) (.cons (.nil 1) (WeakL.refl _))))))))))))
set_option maxRecDepth 100000 in
set_option maxHeartbeats 1000000 in
theorem known21_v  : VC Try.prog 37 ([]) (bv true) := by
  refine VC.run (fn := Try.f37) Try.func37 (W := [.r [] [], .r [] [], .r [] [PI.call [i8 (-5), nod kn21] (i8 (oneN (-5) kn21)),
 PI.br true,
 PI.br true,
 PI.call [i8 5, nod kn21] (i8 (oneN 5 kn21)),
 PI.br true,
 PI.br true]])
    (ob := [WeakL
  [AV.lit (Value.int IntKind.i8 (-5)),
    AV.agg
      [AV.lit (Value.int IntKind.i64 0), AV.lit (Value.int IntKind.i64 0), AV.lit (Value.int IntKind.i64 0),
        AV.lit (Value.int IntKind.i64 0), AV.lit (Value.int IntKind.i64 0), AV.lit (Value.int IntKind.i64 0),
        AV.lit (Value.int IntKind.i64 0), AV.lit (Value.int IntKind.i8 0), AV.lit (Value.int IntKind.i8 0),
        AV.lit (Value.slice none 0 0), AV.lit (Value.slice none 0 0), AV.lit (Value.int IntKind.i32 1),
        AV.lit (Value.int IntKind.i64 0), AV.lit (Value.int IntKind.i8 0), AV.lit (Value.int IntKind.i32 0),
        AV.lit (Value.int IntKind.i64 0), AV.lit (Value.int IntKind.i8 0), AV.lit (Value.int IntKind.i8 0),
        AV.lit (Value.int IntKind.i8 127)]]
  [AV.lit (Value.int IntKind.i8 (-5)),
    AV.agg
      [AV.lit (Value.int IntKind.i64 kn21.kd), AV.lit (Value.int IntKind.i64 kn21.na),
        AV.lit (Value.int IntKind.i64 kn21.nb), AV.lit (Value.int IntKind.i64 kn21.nk),
        AV.lit (Value.int IntKind.i64 kn21.ns), AV.lit (Value.int IntKind.i64 kn21.np),
        AV.lit (Value.int IntKind.i64 kn21.no), AV.lit (Value.int IntKind.i8 kn21.za),
        AV.lit (Value.int IntKind.i8 kn21.zb), AV.sl 1 [], AV.sl 1 [], AV.lit (Value.int IntKind.i32 kn21.qm),
        AV.lit (Value.int IntKind.i64 kn21.qs), AV.lit (Value.int IntKind.i8 kn21.qz),
        AV.lit (Value.int IntKind.i32 kn21.rm), AV.lit (Value.int IntKind.i64 kn21.rs),
        AV.lit (Value.int IntKind.i8 kn21.rz), AV.lit (Value.int IntKind.i8 kn21.lo),
        AV.lit (Value.int IntKind.i8 kn21.hi)]],
    VC Try.prog 43
  [AV.lit (Value.int IntKind.i8 (-5)),
    AV.agg
      [AV.lit (Value.int IntKind.i64 kn21.kd), AV.lit (Value.int IntKind.i64 kn21.na),
        AV.lit (Value.int IntKind.i64 kn21.nb), AV.lit (Value.int IntKind.i64 kn21.nk),
        AV.lit (Value.int IntKind.i64 kn21.ns), AV.lit (Value.int IntKind.i64 kn21.np),
        AV.lit (Value.int IntKind.i64 kn21.no), AV.lit (Value.int IntKind.i8 kn21.za),
        AV.lit (Value.int IntKind.i8 kn21.zb), AV.sl 1 [], AV.sl 1 [], AV.lit (Value.int IntKind.i32 kn21.qm),
        AV.lit (Value.int IntKind.i64 kn21.qs), AV.lit (Value.int IntKind.i8 kn21.qz),
        AV.lit (Value.int IntKind.i32 kn21.rm), AV.lit (Value.int IntKind.i64 kn21.rs),
        AV.lit (Value.int IntKind.i8 kn21.rz), AV.lit (Value.int IntKind.i8 kn21.lo),
        AV.lit (Value.int IntKind.i8 kn21.hi)]]
  (AV.lit (Value.int IntKind.i8 (oneN (-5) kn21))),
    true = true,
    true = true,
    WeakL
  [AV.lit (Value.int IntKind.i8 5),
    AV.agg
      [AV.lit (Value.int IntKind.i64 0), AV.lit (Value.int IntKind.i64 0), AV.lit (Value.int IntKind.i64 0),
        AV.lit (Value.int IntKind.i64 0), AV.lit (Value.int IntKind.i64 0), AV.lit (Value.int IntKind.i64 0),
        AV.lit (Value.int IntKind.i64 0), AV.lit (Value.int IntKind.i8 0), AV.lit (Value.int IntKind.i8 0),
        AV.lit (Value.slice none 0 0), AV.lit (Value.slice none 0 0), AV.lit (Value.int IntKind.i32 1),
        AV.lit (Value.int IntKind.i64 0), AV.lit (Value.int IntKind.i8 0), AV.lit (Value.int IntKind.i32 0),
        AV.lit (Value.int IntKind.i64 0), AV.lit (Value.int IntKind.i8 0), AV.lit (Value.int IntKind.i8 0),
        AV.lit (Value.int IntKind.i8 127)]]
  [AV.lit (Value.int IntKind.i8 5),
    AV.agg
      [AV.lit (Value.int IntKind.i64 kn21.kd), AV.lit (Value.int IntKind.i64 kn21.na),
        AV.lit (Value.int IntKind.i64 kn21.nb), AV.lit (Value.int IntKind.i64 kn21.nk),
        AV.lit (Value.int IntKind.i64 kn21.ns), AV.lit (Value.int IntKind.i64 kn21.np),
        AV.lit (Value.int IntKind.i64 kn21.no), AV.lit (Value.int IntKind.i8 kn21.za),
        AV.lit (Value.int IntKind.i8 kn21.zb), AV.sl 1 [], AV.sl 1 [], AV.lit (Value.int IntKind.i32 kn21.qm),
        AV.lit (Value.int IntKind.i64 kn21.qs), AV.lit (Value.int IntKind.i8 kn21.qz),
        AV.lit (Value.int IntKind.i32 kn21.rm), AV.lit (Value.int IntKind.i64 kn21.rs),
        AV.lit (Value.int IntKind.i8 kn21.rz), AV.lit (Value.int IntKind.i8 kn21.lo),
        AV.lit (Value.int IntKind.i8 kn21.hi)]],
    VC Try.prog 43
  [AV.lit (Value.int IntKind.i8 5),
    AV.agg
      [AV.lit (Value.int IntKind.i64 kn21.kd), AV.lit (Value.int IntKind.i64 kn21.na),
        AV.lit (Value.int IntKind.i64 kn21.nb), AV.lit (Value.int IntKind.i64 kn21.nk),
        AV.lit (Value.int IntKind.i64 kn21.ns), AV.lit (Value.int IntKind.i64 kn21.np),
        AV.lit (Value.int IntKind.i64 kn21.no), AV.lit (Value.int IntKind.i8 kn21.za),
        AV.lit (Value.int IntKind.i8 kn21.zb), AV.sl 1 [], AV.sl 1 [], AV.lit (Value.int IntKind.i32 kn21.qm),
        AV.lit (Value.int IntKind.i64 kn21.qs), AV.lit (Value.int IntKind.i8 kn21.qz),
        AV.lit (Value.int IntKind.i32 kn21.rm), AV.lit (Value.int IntKind.i64 kn21.rs),
        AV.lit (Value.int IntKind.i8 kn21.rz), AV.lit (Value.int IntKind.i8 kn21.lo),
        AV.lit (Value.int IntKind.i8 kn21.hi)]]
  (AV.lit (Value.int IntKind.i8 (oneN 5 kn21))),
    true = true,
    true = true]) (by kernel_rfl) ?_
  refine ⟨?_, ?_, ?_, ?_, ?_, ?_, ?_, ?_, trivial⟩
  all_goals (first | with_reducible assumption | (exact actOne_v _ kn21 kn21_ok ⟨by decide, by decide⟩ ⟨by decide, by decide⟩) | (exact .cons (.refl _) (.cons kn21_w .nil)) | decide | rfl | with_reducible exact WeakL.refl _ | with_reducible exact Weak.refl _ | exact IntWalk.i64_in _ (by omega) | exact IntWalk.i32_in _ (by omega) | exact IntWalk.i8_in _ (by omega) | exact decide_eq_true (by omega) | exact decide_eq_false (by omega) | exact row_get (by assumption) | omega | (simp only [beq_iff_eq, bne_iff_ne, ne_eq, beq_eq_false_iff_ne, bne_eq_false_iff_eq]; omega))
end Go.Proofs.Ytolpecacibmkjaa

