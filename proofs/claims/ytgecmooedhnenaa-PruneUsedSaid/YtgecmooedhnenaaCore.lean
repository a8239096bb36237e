/- Scalar functions in the words of values; tensors and nodes. No condition. -/
import Derived.Test.YtgecmooedhnenaaVB
import Derived.Test.YtgecmooedhnenaaShape
import Derived.Test.YtgecmooedhnenaaFixC
namespace Go.Proofs.Ytgecmooedhnenaa
open Go.RowKit

/-- A tensor's sides and its numbers. -/
structure Ten where
  h : Int
  x : Int
  c : Int
  d : List Int
abbrev In64 (n : Int) : Prop := -9223372036854775808 ≤ n ∧ n ≤ 9223372036854775807
abbrev In32 (n : Int) : Prop := -2147483648 ≤ n ∧ n ≤ 2147483647
abbrev In8 (n : Int) : Prop := -128 ≤ n ∧ n ≤ 127
structure Ten.Ok (T : Ten) : Prop where
  h : In64 T.h
  x : In64 T.x
  c : In64 T.c
  d : ∀ v ∈ T.d, In8 v
abbrev ten (k : IntKind) (T : Ten) : AV := .agg [i64 T.h, i64 T.x, i64 T.c, ints k T.d]
abbrev tnone : AV := .agg [i64 0, i64 0, i64 0, nilv]
def tenRight (T : Ten) : Bool := decide (0 < elems T.h T.x T.c) && decide (elems T.h T.x T.c = (T.d.length : Int))

structure Nod where
  kd : Int
  na : Int
  nb : Int
  nk : Int
  ns : Int
  np : Int
  no : Int
  za : Int
  zb : Int
  w : List Int
  b : List Int
  qm : Int
  qs : Int
  qz : Int
  rm : Int
  rs : Int
  rz : Int
  lo : Int
  hi : Int
abbrev nodC (n : Nod) : List AV := [i64 n.kd, i64 n.na, i64 n.nb, i64 n.nk, i64 n.ns, i64 n.np, i64 n.no, i8 n.za, i8 n.zb, ints .i8 n.w, ints .i32 n.b, i32 n.qm, i64 n.qs, i8 n.qz, i32 n.rm, i64 n.rs, i8 n.rz, i8 n.lo, i8 n.hi]
abbrev nod (n : Nod) : AV := .agg (nodC n)
structure Nod.Ok (n : Nod) : Prop where
  kd : In64 n.kd
  na : In64 n.na
  nb : In64 n.nb
  nk : In64 n.nk
  ns : In64 n.ns
  np : In64 n.np
  no : In64 n.no
  za : In8 n.za
  zb : In8 n.zb
  w : ∀ v ∈ n.w, In8 v
  b : ∀ v ∈ n.b, In32 v
  qm : In32 n.qm
  qs : In64 n.qs
  qz : In8 n.qz
  rm : In32 n.rm
  rs : In64 n.rs
  rz : In8 n.rz
  lo : In8 n.lo
  hi : In8 n.hi

theorem elems_v (h x c : Int) (hh : In64 h) (hx : In64 x) (hc : In64 c) : VC Try.prog 124 [.agg [i64 h, i64 x, i64 c]] (i64 (elems h x c)) :=
  VC.ofCalls (x := .int .i64 (elems h x c)) rfl rfl fun w => elems_any h x c w hh.1 hh.2 hx.1 hx.2 hc.1 hc.2
theorem refElems_v (h x c : Int) (hh : In64 h) (hx : In64 x) (hc : In64 c) : VC Try.prog 61 [.agg [i64 h, i64 x, i64 c]] (i64 (elems h x c)) :=
  VC.ofCalls (x := .int .i64 (elems h x c)) rfl rfl fun w => refElems_any h x c w hh.1 hh.2 hx.1 hx.2 hc.1 hc.2
theorem right_v (m s z : Int) : VC Try.prog 157 [.agg [i32 m, i64 s, i8 z]] (bv (rightQ m s)) :=
  VC.ofCalls (x := .bool (rightQ m s)) rfl rfl fun w => right_any m s z w
theorem refRight_v (m s z : Int) : VC Try.prog 99 [.agg [i32 m, i64 s, i8 z]] (bv (rightQ m s)) :=
  VC.ofCalls (x := .bool (rightQ m s)) rfl rfl fun w => refRight_any m s z w
theorem held_v (a m s z lo hi : Int) (ha : In32 a) (hm : In32 m) (hz : In8 z) (hl : In8 lo) (hh : In8 hi) : VC Try.prog 194 [i32 a, .agg [i32 m, i64 s, i8 z], i8 lo, i8 hi] (i8 (heldQ a m s z lo hi)) :=
  VC.ofCalls (x := .int .i8 (heldQ a m s z lo hi)) rfl rfl fun w => held_any a m s z lo hi w ha.1 ha.2 hm.1 hm.2 hz.1 hz.2 hl.1 hl.2 hh.1 hh.2
theorem refRound_v (v s : Int) (h : In64 v) : VC Try.prog 102 [i64 v, i64 s] (i64 (rnd v s)) :=
  VC.ofCalls (x := .int .i64 (rnd v s)) rfl rfl fun w => (refRound_any v s w h.1 h.2).mono fun _ _ ⟨he, n, hn⟩ => ⟨he, hn ▸ below_drewN (Below.refl _ _) n⟩
theorem refSatHeld_v (v lo hi : Int) : VC Try.prog 103 [i64 v, i64 lo, i64 hi] (i64 (clampI v lo hi)) :=
  VC.ofSame (x := .int .i64 (clampI v lo hi)) rfl rfl fun w => refHeld01_any v lo hi w
theorem clamp_v (v lo hi : Int) (hl : In8 lo) (hh : In8 hi) : VC Try.prog 100 [i64 v, i8 lo, i8 hi] (i8 (clampI v lo hi)) :=
  VC.ofSame (x := .int .i8 (clampI v lo hi)) rfl rfl fun w => clamp_any v lo hi w hl.1 hl.2 hh.1 hh.2
theorem scale_v (a m s : Int) (ha : In32 a) (hm : In32 m) : VC Try.prog 160 [i32 a, i32 m, i64 s] (i64 (rnd (a * m) s)) :=
  VC.ofCalls (x := .int .i64 (rnd (a * m) s)) rfl rfl fun w => (scale_any a m s w ha.1 ha.2 hm.1 hm.2).mono fun _ _ ⟨he, n, hn⟩ => ⟨he, hn ▸ below_drewN (Below.refl _ _) n⟩

set_option maxRecDepth 100000 in
set_option maxHeartbeats 1000000 in
theorem tRight_y (T : Ten) (ok : T.Ok) (h0 : 0 < elems T.h T.x T.c) : VC Try.prog 96 ([ten .i8 T]) (AV.lit (Value.bool (elems T.h T.x T.c == (↑(List.map (row1 IntKind.i8) T.d).length : Int)))) := by
  refine VC.run (fn := Try.f96) Try.func96 (W := [.r [] [], .r [] [PI.callr
   (i64 (elems T.h T.x T.c))], .r [] [PI.br true, PI.br true, PI.br true, PI.br true, PI.br true, PI.br true]])
    (ob := [VC Try.prog 124
  [AV.agg [AV.lit (Value.int IntKind.i64 T.h), AV.lit (Value.int IntKind.i64 T.x), AV.lit (Value.int IntKind.i64 T.c)]]
  (AV.lit (Value.int IntKind.i64 (elems T.h T.x T.c))),
    decide (elems T.h T.x T.c > 0) = true,
    decide (elems T.h T.x T.c > 0) = true,
    decide (elems T.h T.x T.c > 0) = true,
    decide (elems T.h T.x T.c > 0) = true,
    decide (elems T.h T.x T.c > 0) = true,
    decide (elems T.h T.x T.c > 0) = true]) (by kernel_rfl) ?_
  refine ⟨?_, ?_, ?_, ?_, ?_, ?_, ?_, trivial⟩
  all_goals (first | with_reducible assumption | with_reducible exact elems_v _ _ _ ok.h ok.x ok.c | rfl | with_reducible exact WeakL.refl _ | with_reducible exact Weak.refl _ | exact IntWalk.i64_in _ (by omega) | exact IntWalk.i32_in _ (by omega) | exact IntWalk.i8_in _ (by omega) | exact decide_eq_true (by omega) | exact decide_eq_false (by omega) | exact row_get (by assumption) | omega | (simp only [beq_iff_eq, bne_iff_ne, ne_eq, beq_eq_false_iff_ne, bne_eq_false_iff_eq]; omega))

set_option maxRecDepth 100000 in
set_option maxHeartbeats 1000000 in
theorem tRight_n (T : Ten) (ok : T.Ok) (h0 : ¬ 0 < elems T.h T.x T.c) : VC Try.prog 96 ([ten .i8 T]) (AV.lit (Value.bool false)) := by
  refine VC.run (fn := Try.f96) Try.func96 (W := [.r [] [], .r [] [PI.callr
   (i64 (elems T.h T.x T.c))], .r [] [PI.br false, PI.br false, PI.br false, PI.br false, PI.br false, PI.br false]])
    (ob := [VC Try.prog 124
  [AV.agg [AV.lit (Value.int IntKind.i64 T.h), AV.lit (Value.int IntKind.i64 T.x), AV.lit (Value.int IntKind.i64 T.c)]]
  (AV.lit (Value.int IntKind.i64 (elems T.h T.x T.c))),
    decide (elems T.h T.x T.c > 0) = !true,
    decide (elems T.h T.x T.c > 0) = !true,
    decide (elems T.h T.x T.c > 0) = !true,
    decide (elems T.h T.x T.c > 0) = !true,
    decide (elems T.h T.x T.c > 0) = !true,
    decide (elems T.h T.x T.c > 0) = false]) (by kernel_rfl) ?_
  refine ⟨?_, ?_, ?_, ?_, ?_, ?_, ?_, trivial⟩
  all_goals (first | with_reducible assumption | with_reducible exact elems_v _ _ _ ok.h ok.x ok.c | rfl | with_reducible exact WeakL.refl _ | with_reducible exact Weak.refl _ | exact IntWalk.i64_in _ (by omega) | exact IntWalk.i32_in _ (by omega) | exact IntWalk.i8_in _ (by omega) | exact decide_eq_true (by omega) | exact decide_eq_false (by omega) | exact row_get (by assumption) | omega | (simp only [beq_iff_eq, bne_iff_ne, ne_eq, beq_eq_false_iff_ne, bne_eq_false_iff_eq]; omega))

set_option maxRecDepth 100000 in
set_option maxHeartbeats 1000000 in
theorem refTRight_y (T : Ten) (ok : T.Ok) (h0 : 0 < elems T.h T.x T.c) : VC Try.prog 70 ([ten .i8 T]) (AV.lit (Value.bool (elems T.h T.x T.c == (↑(List.map (row1 IntKind.i8) T.d).length : Int)))) := by
  refine VC.run (fn := Try.f70) Try.func70 (W := [.r [] [], .r [] [PI.callr (i64 (elems T.h T.x T.c)),
 PI.br true,
 PI.br true,
 PI.br true,
 PI.callr (i64 (elems T.h T.x T.c)),
 PI.br true,
 PI.br true,
 PI.br true,
 PI.br true,
 PI.br true]])
    (ob := [VC Try.prog 61
  [AV.agg [AV.lit (Value.int IntKind.i64 T.h), AV.lit (Value.int IntKind.i64 T.x), AV.lit (Value.int IntKind.i64 T.c)]]
  (AV.lit (Value.int IntKind.i64 (elems T.h T.x T.c))),
    decide (elems T.h T.x T.c > 0) = true,
    decide (elems T.h T.x T.c > 0) = true,
    decide (elems T.h T.x T.c > 0) = true,
    VC Try.prog 61
  [AV.agg [AV.lit (Value.int IntKind.i64 T.h), AV.lit (Value.int IntKind.i64 T.x), AV.lit (Value.int IntKind.i64 T.c)]]
  (AV.lit (Value.int IntKind.i64 (elems T.h T.x T.c))),
    decide (elems T.h T.x T.c > 0) = true,
    decide (elems T.h T.x T.c > 0) = true,
    decide (elems T.h T.x T.c > 0) = true,
    decide (elems T.h T.x T.c > 0) = true,
    decide (elems T.h T.x T.c > 0) = true]) (by kernel_rfl) ?_
  refine ⟨?_, ?_, ?_, ?_, ?_, ?_, ?_, ?_, ?_, ?_, trivial⟩
  all_goals (first | with_reducible assumption | with_reducible exact refElems_v _ _ _ ok.h ok.x ok.c | rfl | with_reducible exact WeakL.refl _ | with_reducible exact Weak.refl _ | exact IntWalk.i64_in _ (by omega) | exact IntWalk.i32_in _ (by omega) | exact IntWalk.i8_in _ (by omega) | exact decide_eq_true (by omega) | exact decide_eq_false (by omega) | exact row_get (by assumption) | omega | (simp only [beq_iff_eq, bne_iff_ne, ne_eq, beq_eq_false_iff_ne, bne_eq_false_iff_eq]; omega))

set_option maxRecDepth 100000 in
set_option maxHeartbeats 1000000 in
theorem refTRight_n (T : Ten) (ok : T.Ok) (h0 : ¬ 0 < elems T.h T.x T.c) : VC Try.prog 70 ([ten .i8 T]) (AV.lit (Value.bool false)) := by
  refine VC.run (fn := Try.f70) Try.func70 (W := [.r [] [], .r [] [PI.callr (i64 (elems T.h T.x T.c)),
 PI.br false,
 PI.br false,
 PI.br false,
 PI.br false,
 PI.br false,
 PI.br false,
 PI.br false,
 PI.br false]])
    (ob := [VC Try.prog 61
  [AV.agg [AV.lit (Value.int IntKind.i64 T.h), AV.lit (Value.int IntKind.i64 T.x), AV.lit (Value.int IntKind.i64 T.c)]]
  (AV.lit (Value.int IntKind.i64 (elems T.h T.x T.c))),
    decide (elems T.h T.x T.c > 0) = !true,
    decide (elems T.h T.x T.c > 0) = !true,
    decide (elems T.h T.x T.c > 0) = !true,
    decide (elems T.h T.x T.c > 0) = !true,
    decide (elems T.h T.x T.c > 0) = !true,
    decide (elems T.h T.x T.c > 0) = !true,
    decide (elems T.h T.x T.c > 0) = !true,
    decide (elems T.h T.x T.c > 0) = false]) (by kernel_rfl) ?_
  refine ⟨?_, ?_, ?_, ?_, ?_, ?_, ?_, ?_, ?_, trivial⟩
  all_goals (first | with_reducible assumption | with_reducible exact refElems_v _ _ _ ok.h ok.x ok.c | rfl | with_reducible exact WeakL.refl _ | with_reducible exact Weak.refl _ | exact IntWalk.i64_in _ (by omega) | exact IntWalk.i32_in _ (by omega) | exact IntWalk.i8_in _ (by omega) | exact decide_eq_true (by omega) | exact decide_eq_false (by omega) | exact row_get (by assumption) | omega | (simp only [beq_iff_eq, bne_iff_ne, ne_eq, beq_eq_false_iff_ne, bne_eq_false_iff_eq]; omega))
theorem tenRight_y {T : Ten} (h0 : 0 < elems T.h T.x T.c) : (elems T.h T.x T.c == ((T.d.map (row1 .i8)).length : Int)) = tenRight T := by
  unfold tenRight; rw [decide_eq_true h0, List.length_map, Bool.true_and]; rfl
theorem tenRight_n {T : Ten} (h0 : ¬ 0 < elems T.h T.x T.c) : false = tenRight T := by
  unfold tenRight; rw [decide_eq_false h0]; rfl
theorem tRight_v (T : Ten) (ok : T.Ok) : VC Try.prog 96 [ten .i8 T] (bv (tenRight T)) := by
  by_cases h0 : 0 < elems T.h T.x T.c
  · rw [← tenRight_y h0]; exact tRight_y T ok h0
  · rw [← tenRight_n h0]; exact tRight_n T ok h0
theorem refTRight_v (T : Ten) (ok : T.Ok) : VC Try.prog 70 [ten .i8 T] (bv (tenRight T)) := by
  by_cases h0 : 0 < elems T.h T.x T.c
  · rw [← tenRight_y h0]; exact refTRight_y T ok h0
  · rw [← tenRight_n h0]; exact refTRight_n T ok h0
end Go.Proofs.Ytgecmooedhnenaa

