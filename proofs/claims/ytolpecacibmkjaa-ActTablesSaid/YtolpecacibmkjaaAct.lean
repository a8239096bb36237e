/- Numbers as other ones: by the program and by the document. No condition. -/
import Derived.Test.YtolpecacibmkjaaCore
namespace Go.Proofs.Ytolpecacibmkjaa
open Go.RowKit

theorem clampI_bd (v lo hi : Int) (hl : In8 lo) (hh : In8 hi) : -128 ≤ clampI v lo hi ∧ clampI v lo hi ≤ 127 := by
  obtain ⟨a, b⟩ := hl; obtain ⟨c, d⟩ := hh
  unfold clampI; split <;> (try split) <;> omega
theorem mul32 (a m : Int) (ha : In32 a) (hm : In32 m) : -4611686018427387904 ≤ a * m ∧ a * m ≤ 4611686018427387904 := mul_bd32 a m ha.1 ha.2 hm.1 hm.2

set_option maxRecDepth 100000 in
set_option maxHeartbeats 1000000 in
theorem refHeld_y (a m s z lo hi : Int) (ha : In32 a) (hm : In32 m) (hz : In8 z) (hl : In8 lo) (hh : In8 hi) (hq : rightQ m s = true) (hmul : -4611686018427387904 ≤ a * m ∧ a * m ≤ 4611686018427387904) (hr : -4611686018427387904 ≤ rnd (a * m) s ∧ rnd (a * m) s ≤ 4611686018427387904) : VC Try.prog 20 ([i32 a, .agg [i32 m, i64 s, i8 z], i8 lo, i8 hi]) (AV.lit (Value.int IntKind.i8 (clampI (rnd (a * m) s + z) lo hi))) := by
  refine VC.run (fn := Try.f20) Try.func20 (W := [.r [] [], .r [] [PI.callr
   (bv
     (rightQ m
       s))], .br false, .r [] [PI.n a,
 PI.n m,
 PI.n (a * m),
 PI.callr (i64 (rnd (a * m) s)),
 PI.n z,
 PI.n
   (rnd (a * m) s +
     z)], .r [] [PI.n lo,
 PI.n hi,
 PI.callr (i64 (clampI (rnd (a * m) s + z) lo hi)),
 PI.n (clampI (rnd (a * m) s + z) lo hi)]])
    (ob := [VC Try.prog 23
  [AV.agg [AV.lit (Value.int IntKind.i32 m), AV.lit (Value.int IntKind.i64 s), AV.lit (Value.int IntKind.i8 z)]]
  (AV.lit (Value.bool (rightQ m s))),
    (!rightQ m s) = false,
    IntKind.i64.wrap a = a,
    IntKind.i64.wrap m = m,
    IntKind.i64.wrap (a * m) = a * m,
    VC Try.prog 16 [AV.lit (Value.int IntKind.i64 (a * m)), AV.lit (Value.int IntKind.i64 s)]
  (AV.lit (Value.int IntKind.i64 (rnd (a * m) s))),
    IntKind.i64.wrap z = z,
    IntKind.i64.wrap (rnd (a * m) s + z) = rnd (a * m) s + z,
    IntKind.i64.wrap lo = lo,
    IntKind.i64.wrap hi = hi,
    VC Try.prog 50
  [AV.lit (Value.int IntKind.i64 (rnd (a * m) s + z)), AV.lit (Value.int IntKind.i64 lo),
    AV.lit (Value.int IntKind.i64 hi)]
  (AV.lit (Value.int IntKind.i64 (clampI (rnd (a * m) s + z) lo hi))),
    IntKind.i8.wrap (clampI (rnd (a * m) s + z) lo hi) = clampI (rnd (a * m) s + z) lo hi]) (by kernel_rfl) ?_
  refine ⟨?_, ?_, ?_, ?_, ?_, ?_, ?_, ?_, ?_, ?_, ?_, ?_, trivial⟩
  all_goals (first | with_reducible assumption | with_reducible exact refRight_v _ _ _ | (exact refRound_v _ _ ⟨by omega, by omega⟩) | with_reducible exact refSatHeld_v _ _ _ | (rw [hq]; rfl) | (exact IntWalk.i8_in _ (clampI_bd _ _ _ hl hh)) | (exact IntWalk.i64_in _ (by obtain ⟨q1, q2⟩ := ha; obtain ⟨q3, q4⟩ := hm; obtain ⟨q5, q6⟩ := hz; obtain ⟨q7, q8⟩ := hl; obtain ⟨q9, q10⟩ := hh; omega)) | rfl | with_reducible exact WeakL.refl _ | with_reducible exact Weak.refl _ | exact IntWalk.i64_in _ (by omega) | exact IntWalk.i32_in _ (by omega) | exact IntWalk.i8_in _ (by omega) | exact decide_eq_true (by omega) | exact decide_eq_false (by omega) | exact row_get (by assumption) | omega | (simp only [beq_iff_eq, bne_iff_ne, ne_eq, beq_eq_false_iff_ne, bne_eq_false_iff_eq]; omega))

set_option maxRecDepth 100000 in
set_option maxHeartbeats 1000000 in
theorem refHeld_n (a m s z lo hi : Int) (hq : rightQ m s = false) : VC Try.prog 20 ([i32 a, .agg [i32 m, i64 s, i8 z], i8 lo, i8 hi]) (AV.lit (Value.int IntKind.i8 0)) := by
  refine VC.run (fn := Try.f20) Try.func20 (W := [.r [] [], .r [] [PI.callr (bv (rightQ m s))], .br true, .r [] []])
    (ob := [VC Try.prog 23
  [AV.agg [AV.lit (Value.int IntKind.i32 m), AV.lit (Value.int IntKind.i64 s), AV.lit (Value.int IntKind.i8 z)]]
  (AV.lit (Value.bool (rightQ m s))),
    (!rightQ m s) = true]) (by kernel_rfl) ?_
  refine ⟨?_, ?_, trivial⟩
  all_goals (first | with_reducible assumption | with_reducible exact refRight_v _ _ _ | (rw [hq]; rfl) | rfl | with_reducible exact WeakL.refl _ | with_reducible exact Weak.refl _ | exact IntWalk.i64_in _ (by omega) | exact IntWalk.i32_in _ (by omega) | exact IntWalk.i8_in _ (by omega) | exact decide_eq_true (by omega) | exact decide_eq_false (by omega) | exact row_get (by assumption) | omega | (simp only [beq_iff_eq, bne_iff_ne, ne_eq, beq_eq_false_iff_ne, bne_eq_false_iff_eq]; omega))
theorem refHeld_v (a m s z lo hi : Int) (ha : In32 a) (hm : In32 m) (hz : In8 z) (hl : In8 lo) (hh : In8 hi) : VC Try.prog 20 [i32 a, .agg [i32 m, i64 s, i8 z], i8 lo, i8 hi] (i8 (heldQ a m s z lo hi)) := by
  have hmul := mul32 a m ha hm
  have hr := rnd_bd (a * m) s 4611686018427387904 hmul.1 hmul.2
  unfold heldQ
  cases hq : rightQ m s with
  | true => exact refHeld_y a m s z lo hi ha hm hz hl hh hq hmul hr
  | false => exact refHeld_n a m s z lo hi hq

/-- A number as another one. -/
def oneN (v : Int) (n : Nod) : Int := heldQ (v - n.za) n.qm n.qs n.qz n.lo n.hi
theorem oneN_bd (v : Int) (n : Nod) (ok : n.Ok) : -128 ≤ oneN v n ∧ oneN v n ≤ 127 := by
  unfold oneN heldQ; split
  · exact clampI_bd _ _ _ ok.lo ok.hi
  · omega
set_option maxRecDepth 100000 in
set_option maxHeartbeats 1000000 in
theorem actOne_v (v : Int) (n : Nod) (ok : n.Ok) (hv : In8 v) (hd : -255 ≤ v - n.za ∧ v - n.za ≤ 255) : VC Try.prog 43 ([i8 v, nod n]) (AV.lit (Value.int IntKind.i8 (oneN v n))) := by
  refine VC.run (fn := Try.f43) Try.func43 (W := [.r [] [], .r [] [PI.n v, PI.n n.za, PI.n (v - n.za), PI.callr (i8 (oneN v n))]])
    (ob := [IntKind.i32.wrap v = v,
    IntKind.i32.wrap n.za = n.za,
    IntKind.i32.wrap (v - n.za) = v - n.za,
    VC Try.prog 21
  [AV.lit (Value.int IntKind.i32 (v - n.za)),
    AV.agg
      [AV.lit (Value.int IntKind.i32 n.qm), AV.lit (Value.int IntKind.i64 n.qs), AV.lit (Value.int IntKind.i8 n.qz)],
    AV.lit (Value.int IntKind.i8 n.lo), AV.lit (Value.int IntKind.i8 n.hi)]
  (AV.lit (Value.int IntKind.i8 (oneN v n)))]) (by kernel_rfl) ?_
  refine ⟨?_, ?_, ?_, ?_, trivial⟩
  all_goals (first | with_reducible assumption | (exact held_v _ _ _ _ _ _ ⟨by omega, by omega⟩ ok.qm ok.qz ok.lo ok.hi) | (exact IntWalk.i32_in _ (by have h1 := ok.za.1; have h2 := ok.za.2; have h3 := hv.1; have h4 := hv.2; omega)) | rfl | with_reducible exact WeakL.refl _ | with_reducible exact Weak.refl _ | exact IntWalk.i64_in _ (by omega) | exact IntWalk.i32_in _ (by omega) | exact IntWalk.i8_in _ (by omega) | exact decide_eq_true (by omega) | exact decide_eq_false (by omega) | exact row_get (by assumption) | omega | (simp only [beq_iff_eq, bne_iff_ne, ne_eq, beq_eq_false_iff_ne, bne_eq_false_iff_eq]; omega))

set_option maxRecDepth 100000 in
set_option maxHeartbeats 1000000 in
theorem refOne_v (v : Int) (n : Nod) (ok : n.Ok) (hv : In8 v) (hd : -255 ≤ v - n.za ∧ v - n.za ≤ 255) : VC Try.prog 42 ([i8 v, nod n]) (AV.lit (Value.int IntKind.i8 (oneN v n))) := by
  refine VC.run (fn := Try.f42) Try.func42 (W := [.r [] [], .r [] [PI.n v, PI.n n.za, PI.n (v - n.za), PI.callr (i8 (oneN v n))]])
    (ob := [IntKind.i32.wrap v = v,
    IntKind.i32.wrap n.za = n.za,
    IntKind.i32.wrap (v - n.za) = v - n.za,
    VC Try.prog 20
  [AV.lit (Value.int IntKind.i32 (v - n.za)),
    AV.agg
      [AV.lit (Value.int IntKind.i32 n.qm), AV.lit (Value.int IntKind.i64 n.qs), AV.lit (Value.int IntKind.i8 n.qz)],
    AV.lit (Value.int IntKind.i8 n.lo), AV.lit (Value.int IntKind.i8 n.hi)]
  (AV.lit (Value.int IntKind.i8 (oneN v n)))]) (by kernel_rfl) ?_
  refine ⟨?_, ?_, ?_, ?_, trivial⟩
  all_goals (first | with_reducible assumption | (exact refHeld_v _ _ _ _ _ _ ⟨by omega, by omega⟩ ok.qm ok.qz ok.lo ok.hi) | (exact IntWalk.i32_in _ (by have h1 := ok.za.1; have h2 := ok.za.2; have h3 := hv.1; have h4 := hv.2; omega)) | rfl | with_reducible exact WeakL.refl _ | with_reducible exact Weak.refl _ | exact IntWalk.i64_in _ (by omega) | exact IntWalk.i32_in _ (by omega) | exact IntWalk.i8_in _ (by omega) | exact decide_eq_true (by omega) | exact decide_eq_false (by omega) | exact row_get (by assumption) | omega | (simp only [beq_iff_eq, bne_iff_ne, ne_eq, beq_eq_false_iff_ne, bne_eq_false_iff_eq]; omega))
theorem sub_bd {v : Int} {n : Nod} (ok : n.Ok) (hv : In8 v) : -255 ≤ v - n.za ∧ v - n.za ≤ 255 := by
  have h1 := ok.za.1; have h2 := ok.za.2; have h3 := hv.1; have h4 := hv.2; omega
end Go.Proofs.Ytolpecacibmkjaa

