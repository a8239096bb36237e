/- A tensor, each number as another one, by the document; tensors that are the same; the law. No condition. -/
import Derived.Test.YtolpecacibmkjaaActB
namespace Go.Proofs.Ytolpecacibmkjaa
open Go.RowKit

theorem shape_neq (x y : Operand) (a b c a' b' c' : Int) : BinTo Try.prog .neq 62 x y (.agg #[.int .i64 a, .int .i64 b, .int .i64 c]) (.agg #[.int .i64 a', .int .i64 b', .int .i64 c']) (.bool (!((a == a') && ((b == b') && ((c == c') && true))))) :=
  (bin_nums (l := [(.i64, a, a'), (.i64, b, b'), (.i64, c, c')]) (by kernel_rfl) (by kernel_rfl) (by kernel_rfl) (by kernel_rfl) x y).2
theorem shape_same (x y : Operand) (a b c : Int) : BinTo Try.prog .neq 62 x y (.agg #[.int .i64 a, .int .i64 b, .int .i64 c]) (.agg #[.int .i64 a, .int .i64 b, .int .i64 c]) (.bool false) := by
  have := shape_neq x y a b c a b c
  simpa using this

set_option maxRecDepth 100000 in
set_option maxHeartbeats 1000000 in
theorem refOf_n5 (T : Ten) (ok : T.Ok) (n : Nod) (hr : tenRight T = false) : VC Try.prog 46 ([ten .i8 T, nod n]) (AV.tup
  [AV.agg
      [AV.lit (Value.int IntKind.i64 0), AV.lit (Value.int IntKind.i64 0), AV.lit (Value.int IntKind.i64 0),
        AV.lit (Value.slice none 0 0)],
    AV.lit (Value.int IntKind.i64 5)]) := by
  refine VC.run (fn := Try.f46) Try.func46 (W := [.r [] [], .r [] [PI.callr (bv (tenRight T))], .br true, .r [] []])
    (ob := [VC Try.prog 45
  [AV.agg
      [AV.lit (Value.int IntKind.i64 T.h), AV.lit (Value.int IntKind.i64 T.x), AV.lit (Value.int IntKind.i64 T.c),
        AV.sl 1 (List.map (row1 IntKind.i8) T.d)]]
  (AV.lit (Value.bool (tenRight T))),
    (!tenRight T) = true]) (by kernel_rfl) ?_
  refine ⟨?_, ?_, trivial⟩
  all_goals (first | with_reducible assumption | with_reducible exact refTRight_v T ok | (rw [hr]; rfl) | rfl | with_reducible exact WeakL.refl _ | with_reducible exact Weak.refl _ | exact IntWalk.i64_in _ (by omega) | exact IntWalk.i32_in _ (by omega) | exact IntWalk.i8_in _ (by omega) | exact decide_eq_true (by omega) | exact decide_eq_false (by omega) | exact row_get (by assumption) | omega | (simp only [beq_iff_eq, bne_iff_ne, ne_eq, beq_eq_false_iff_ne, bne_eq_false_iff_eq]; omega))

set_option maxRecDepth 100000 in
set_option maxHeartbeats 1000000 in
theorem refOf_n7 (T : Ten) (ok : T.Ok) (n : Nod) (hr : tenRight T = true) (hq : rightQ n.qm n.qs = false) : VC Try.prog 46 ([ten .i8 T, nod n]) (AV.tup
  [AV.agg
      [AV.lit (Value.int IntKind.i64 0), AV.lit (Value.int IntKind.i64 0), AV.lit (Value.int IntKind.i64 0),
        AV.lit (Value.slice none 0 0)],
    AV.lit (Value.int IntKind.i64 7)]) := by
  refine VC.run (fn := Try.f46) Try.func46 (W := [.r [] [], .r [] [PI.callr
   (bv (tenRight T))], .br false, .r [] [PI.callr (bv (rightQ n.qm n.qs))], .br true, .r [] []])
    (ob := [VC Try.prog 45
  [AV.agg
      [AV.lit (Value.int IntKind.i64 T.h), AV.lit (Value.int IntKind.i64 T.x), AV.lit (Value.int IntKind.i64 T.c),
        AV.sl 1 (List.map (row1 IntKind.i8) T.d)]]
  (AV.lit (Value.bool (tenRight T))),
    (!tenRight T) = false,
    VC Try.prog 23
  [AV.agg
      [AV.lit (Value.int IntKind.i32 n.qm), AV.lit (Value.int IntKind.i64 n.qs), AV.lit (Value.int IntKind.i8 n.qz)]]
  (AV.lit (Value.bool (rightQ n.qm n.qs))),
    (!rightQ n.qm n.qs) = true]) (by kernel_rfl) ?_
  refine ⟨?_, ?_, ?_, ?_, trivial⟩
  all_goals (first | with_reducible assumption | with_reducible exact refTRight_v T ok | with_reducible exact refRight_v _ _ _ | (rw [hr]; rfl) | (rw [hq]; rfl) | rfl | with_reducible exact WeakL.refl _ | with_reducible exact Weak.refl _ | exact IntWalk.i64_in _ (by omega) | exact IntWalk.i32_in _ (by omega) | exact IntWalk.i8_in _ (by omega) | exact decide_eq_true (by omega) | exact decide_eq_false (by omega) | exact row_get (by assumption) | omega | (simp only [beq_iff_eq, bne_iff_ne, ne_eq, beq_eq_false_iff_ne, bne_eq_false_iff_eq]; omega))

noncomputable def ro_S (T : Ten) (n : Nod) : VS := headF Try.prog Try.f46 ([ten .i8 T, nod n]) ([.r [] [], .r [] [PI.callr
   (bv (tenRight T))], .br false, .r [] [PI.callr (bv (rightQ n.qm n.qs))], .br false, .r [] [], .r [] []])
noncomputable def roI (T : Ten) (n : Nod) (k : Nat) (r : List (List AV)) : VS := ((ro_S T n).unk (junk (fnC Try.f46 [1, 1, 1, 1, 0, 1, 0, 0]) [7])).turn [(7, i64 k)] [(6, .var [i64 T.h, i64 T.x, i64 T.c, .own 900]), (900, .slc 26 1 r)]
def roR (T : Ten) (n : Nod) (k : Nat) : List (List AV) := ((T.d.map fun v => oneN v n).take k).map (row1 .i8)
theorem roR_len (T : Ten) (n : Nod) (k : Nat) : (roR T n k).length ≤ T.d.length := by simp [roR]; omega
theorem roR_snoc (T : Ten) (n : Nod) (k : Nat) (v : Int) (h : T.d[k]? = some v) : roR T n k ++ [[i8 (oneN v n)]] = roR T n (k + 1) := by
  unfold roR
  rw [rows_snoc, List.take_add_one]
  simp [h]
set_option maxRecDepth 100000 in
set_option maxHeartbeats 1000000 in
theorem ro_step (T : Ten) (n : Nod) (okn : n.Ok) (k : Nat) (v : Int) (hl : T.d.length ≤ 1000000) (hk : k < T.d.length) (hv : T.d[k]? = some v) (h8 : In8 v) (hR : (roR T n k).length ≤ T.d.length) : VT Try.prog (fnC Try.f46 [1, 1, 1, 1, 0, 1, 0, 0]) (roI T n k (roR T n k)) (.normal) (roI T n (k + 1) (roR T n k ++ [[i8 (oneN v n)]])) := by
  refine VT.run (W := [.r [] [], .br true, .r [] [PI.row [i8 v], PI.callr (i8 (oneN v n))], .r [] [PI.n ((↑k : Int) + 1)]]) (G := [.ren 37 900, .drop [36], .any (junk (fnC Try.f46 [1, 1, 1, 1, 0, 1, 0, 0]) [7])])
    (ob := [decide ((↑k : Int) < (↑(List.map (row1 IntKind.i8) T.d).length : Int)) = true,
    0 ≤ (↑k : Int),
    (List.map (row1 IntKind.i8) T.d)[(↑k : Int).toNat]? = some [i8 v],
    VC Try.prog 42
  [AV.lit (Value.int IntKind.i8 v),
    AV.agg
      [AV.lit (Value.int IntKind.i64 n.kd), AV.lit (Value.int IntKind.i64 n.na), AV.lit (Value.int IntKind.i64 n.nb),
        AV.lit (Value.int IntKind.i64 n.nk), AV.lit (Value.int IntKind.i64 n.ns), AV.lit (Value.int IntKind.i64 n.np),
        AV.lit (Value.int IntKind.i64 n.no), AV.lit (Value.int IntKind.i8 n.za), AV.lit (Value.int IntKind.i8 n.zb),
        AV.sl 1 (List.map (row1 IntKind.i8) n.w), AV.sl 1 (List.map (row1 IntKind.i32) n.b),
        AV.lit (Value.int IntKind.i32 n.qm), AV.lit (Value.int IntKind.i64 n.qs), AV.lit (Value.int IntKind.i8 n.qz),
        AV.lit (Value.int IntKind.i32 n.rm), AV.lit (Value.int IntKind.i64 n.rs), AV.lit (Value.int IntKind.i8 n.rz),
        AV.lit (Value.int IntKind.i8 n.lo), AV.lit (Value.int IntKind.i8 n.hi)]]
  (AV.lit (Value.int IntKind.i8 (oneN v n))),
    ((roR T n k).length + [[AV.lit (Value.int IntKind.i8 (oneN v n))]].length) * 1 ≤ 140737488355328,
    (roR T n k).length + [[AV.lit (Value.int IntKind.i8 (oneN v n))]].length ≤ 9223372036854775807,
    IntKind.i64.wrap ((↑k : Int) + 1) = (↑k : Int) + 1]) (by kernel_rfl) ?_
  refine ⟨?_, ?_, ?_, ?_, ?_, ?_, ?_, trivial⟩
  all_goals (first | with_reducible assumption | (exact row_get hv) | (exact decide_eq_true (by simp; omega)) | with_reducible exact refOne_v _ n okn h8 (sub_bd okn h8) | (simp only [List.length_cons, List.length_nil]; omega) | rfl | with_reducible exact WeakL.refl _ | with_reducible exact Weak.refl _ | exact IntWalk.i64_in _ (by omega) | exact IntWalk.i32_in _ (by omega) | exact IntWalk.i8_in _ (by omega) | exact decide_eq_true (by omega) | exact decide_eq_false (by omega) | exact row_get (by assumption) | omega | (simp only [beq_iff_eq, bne_iff_ne, ne_eq, beq_eq_false_iff_ne, bne_eq_false_iff_eq]; omega))

set_option maxRecDepth 100000 in
set_option maxHeartbeats 1000000 in
theorem ro_end (T : Ten) (n : Nod) : VT Try.prog (fnC Try.f46 [1, 1, 1, 1, 0, 1, 0, 0]) (roI T n T.d.length (roR T n T.d.length)) (.exit 0) (roI T n T.d.length (roR T n T.d.length)) := by
  refine VT.run (W := [.r [] [], .br false]) (G := [.any [20, 21, 22, 23, 24]])
    (ob := [decide ((↑T.d.length : Int) < (↑(List.map (row1 IntKind.i8) T.d).length : Int)) = false]) (by kernel_rfl) ?_
  refine ⟨?_, trivial⟩
  all_goals (first | with_reducible assumption | (exact decide_eq_false (by simp)) | rfl | with_reducible exact WeakL.refl _ | with_reducible exact Weak.refl _ | exact IntWalk.i64_in _ (by omega) | exact IntWalk.i32_in _ (by omega) | exact IntWalk.i8_in _ (by omega) | exact decide_eq_true (by omega) | exact decide_eq_false (by omega) | exact row_get (by assumption) | omega | (simp only [beq_iff_eq, bne_iff_ne, ne_eq, beq_eq_false_iff_ne, bne_eq_false_iff_eq]; omega))
theorem ro_loop (T : Ten) (ok : T.Ok) (n : Nod) (okn : n.Ok) (hl : T.d.length ≤ 1000000) : VT Try.prog (fnC Try.f46 [1, 1, 1, 1, 0, 1, 0]) (roI T n 0 []) (.exit 0) (roI T n T.d.length ((T.d.map fun v => oneN v n).map (row1 .i8))) := by
  refine (VT.loop (fun k => roI T n k (roR T n k)) T.d.length (fun k hk => ?_) (ro_end T n) (by intro h; cases h)).cast rfl (by unfold roR; rw [List.take_of_length_le (by simp)])
  have hv := List.getElem?_eq_getElem hk
  exact (ro_step T n okn k _ hl hk hv (ok.d _ (List.getElem_mem hk)) (roR_len T n k)).cast rfl (by rw [roR_snoc T n k _ hv])
set_option maxRecDepth 100000 in
set_option maxHeartbeats 1000000 in
theorem refOf_y (T : Ten) (ok : T.Ok) (n : Nod) (okn : n.Ok) (hl : T.d.length ≤ 1000000) (hr : tenRight T = true) (hq : rightQ n.qm n.qs = true) : VC Try.prog 46 ([ten .i8 T, nod n]) (.tup [ten .i8 ⟨T.h, T.x, T.c, T.d.map fun v => oneN v n⟩, i64 0]) := by
  refine VC.run (fn := Try.f46) Try.func46 (W := [.r [] [], .r [] [PI.callr
   (bv
     (tenRight
       T))], .br false, .r [] [PI.callr
   (bv
     (rightQ n.qm
       n.qs))], .br false, .r [] [], .r [] [], .code [GI.nilc 900 26 1 6 3,
  GI.any
    (junk (fnC Try.f46 [1, 1, 1, 1, 0, 1, 0, 0])
      [7])] (Exit.exit
  0) (roI T n T.d.length (List.map (row1 IntKind.i8) (List.map (fun v => oneN v n) T.d))), .r [] []])
    (ob := [VC Try.prog 45
  [AV.agg
      [AV.lit (Value.int IntKind.i64 T.h), AV.lit (Value.int IntKind.i64 T.x), AV.lit (Value.int IntKind.i64 T.c),
        AV.sl 1 (List.map (row1 IntKind.i8) T.d)]]
  (AV.lit (Value.bool (tenRight T))),
    (!tenRight T) = false,
    VC Try.prog 23
  [AV.agg
      [AV.lit (Value.int IntKind.i32 n.qm), AV.lit (Value.int IntKind.i64 n.qs), AV.lit (Value.int IntKind.i8 n.qz)]]
  (AV.lit (Value.bool (rightQ n.qm n.qs))),
    (!rightQ n.qm n.qs) = false,
    VT Try.prog (fnC Try.f46 [1, 1, 1, 1, 0, 1, 0]) (roI T n 0 []) (Exit.exit 0)
  (roI T n T.d.length (List.map (row1 IntKind.i8) (List.map (fun v => oneN v n) T.d)))]) (by kernel_rfl) ?_
  refine ⟨?_, ?_, ?_, ?_, ?_, trivial⟩
  all_goals (first | with_reducible assumption | with_reducible exact refTRight_v T ok | with_reducible exact refRight_v _ _ _ | with_reducible exact ro_loop T ok n okn hl | (rw [hr]; rfl) | (rw [hq]; rfl) | rfl | with_reducible exact WeakL.refl _ | with_reducible exact Weak.refl _ | exact IntWalk.i64_in _ (by omega) | exact IntWalk.i32_in _ (by omega) | exact IntWalk.i8_in _ (by omega) | exact decide_eq_true (by omega) | exact decide_eq_false (by omega) | exact row_get (by assumption) | omega | (simp only [beq_iff_eq, bne_iff_ne, ne_eq, beq_eq_false_iff_ne, bne_eq_false_iff_eq]; omega))
theorem refOf_v (T : Ten) (ok : T.Ok) (n : Nod) (okn : n.Ok) (hl : T.d.length ≤ 1000000) : VC Try.prog 46 [ten .i8 T, nod n] (.tup [ten .i8 (ofT T n).1, i64 (ofT T n).2]) := by
  unfold ofT
  cases hr : tenRight T with
  | false => exact (refOf_n5 T ok n hr).weak (WeakL.refl _) (tnone_r _ _)
  | true => cases hq : rightQ n.qm n.qs with
    | false => exact (refOf_n7 T ok n hr hq).weak (WeakL.refl _) (tnone_r _ _)
    | true => exact refOf_y T ok n okn hl hr hq
end Go.Proofs.Ytolpecacibmkjaa

