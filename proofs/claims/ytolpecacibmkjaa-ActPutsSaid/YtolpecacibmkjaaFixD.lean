/- The document's Held; fix.Put; what fixed calls make. No condition. -/
import Derived.Test.YtolpecacibmkjaaFixC
import Derived.Test.YtolpecacibmkjaaFresh
namespace Go.Proofs.Ytolpecacibmkjaa
open Go.RowKit

set_option maxHeartbeats 400000 in
set_option maxRecDepth 100000 in
theorem refHeld_any (a m s z lo hi : Int) (w : World) (a0 : -2147483648 ≤ a) (a1 : a ≤ 2147483647) (m0 : -2147483648 ≤ m) (m1 : m ≤ 2147483647) (z0 : -128 ≤ z) (z1 : z ≤ 127) (l0 : -128 ≤ lo) (l1 : lo ≤ 127) (k0 : -128 ≤ hi) (k1 : hi ≤ 127) :
    Calls Try.prog 20 #[.int .i32 a, .agg #[.int .i32 m, .int .i64 s, .int .i8 z], .int .i8 lo, .int .i8 hi] w fun e w' => e = .returned (.int .i8 (heldQ a m s z lo hi)) ∧ Below w.heap.size w w' := by
  have hb := mul_bd32 a m a0 a1 m0 m1
  have hr := rnd_bd (a * m) s 4611686018427387904 hb.1 hb.2
  obtain ⟨r0, r1⟩ := hr
  obtain ⟨b0, b1⟩ := hb
  have hc : -128 ≤ clampI (rnd (a * m) s + z) lo hi ∧ clampI (rnd (a * m) s + z) lo hi ≤ 127 := by unfold clampI; split <;> (try split) <;> omega
  obtain ⟨q0, q1⟩ := hc
  cases hq : rightQ m s with
  | false =>
    have e : heldQ a m s z lo hi = 0 := by unfold heldQ; rw [hq]; simp
    rw [e]; clear e
    have HQ := Lib.hid hq; clear hq
    go_enter Try.func20, Try.ntmps20
    go_wp2_with fail
    refine (refRight_any _ _ _ _).mono ?_
    rintro e w1 ⟨rfl, hb1⟩
    rw [HQ.out]
    go_wp2
    go_ret
    exact ⟨rfl, ((Below.refl _ _).alloc (Nat.le_refl _) _).trans (hb1.mono (by simp))⟩
  | true =>
    have e : heldQ a m s z lo hi = clampI (rnd (a * m) s + z) lo hi := by unfold heldQ; rw [hq]; simp
    rw [e]; clear e
    have HQ := Lib.hid hq; clear hq
    go_enter Try.func20, Try.ntmps20
    go_wp2_with fail
    refine (refRight_any _ _ _ _).mono ?_
    rintro e w1 ⟨rfl, hb1⟩
    rw [HQ.out]
    have c0 := bl_get hb1 (b := w.heap.size) (o := 0) (v := .int .i32 m) (by rw [World.cell?_alloc_at _ _ _ _ rfl]; rfl)
    have c1 := bl_get hb1 (b := w.heap.size) (o := 1) (v := .int .i64 s) (by rw [World.cell?_alloc_at _ _ _ _ rfl]; rfl)
    have c2 := bl_get hb1 (b := w.heap.size) (o := 2) (v := .int .i8 z) (by rw [World.cell?_alloc_at _ _ _ _ rfl]; rfl)
    go_wp2_with fail
    go_quiet ((go_at_call 16; refine Calls.quiet_of (refRound_any _ _ _ (by omega) (by omega))))
    go_wp2_with fail
    refine (refHeld01_any _ _ _ _).mono ?_
    rintro e w2 ⟨rfl, rfl⟩
    go_wp2
    go_ret
    refine ⟨rfl, below_drewN (((Below.refl _ _).alloc (Nat.le_refl _) _).trans (hb1.mono (by simp))) _⟩

set_option maxHeartbeats 400000 in
set_option maxRecDepth 100000 in
theorem put8_any (a m s z : Int) (w : World) (a0 : -2147483648 ≤ a) (a1 : a ≤ 2147483647) (m0 : -2147483648 ≤ m) (m1 : m ≤ 2147483647) (z0 : -128 ≤ z) (z1 : z ≤ 127) :
    Calls Try.prog 19 #[.int .i32 a, .agg #[.int .i32 m, .int .i64 s, .int .i8 z]] w fun e w' => e = .returned (.int .i8 (heldQ a m s z (-128) 127)) ∧ Below w.heap.size w w' := by
  go_enter Try.func19, Try.ntmps19
  go_wp2_with fail
  refine (held_any _ _ _ _ _ _ _ a0 a1 m0 m1 z0 z1 (by omega) (by omega) (by omega) (by omega)).mono ?_
  rintro e w1 ⟨rfl, hb1⟩
  go_wp2
  go_ret
  exact ⟨rfl, ((Below.refl _ _).alloc (Nat.le_refl _) _).trans (hb1.mono (by simp))⟩

theorem k1 : rnd 5 1 = 3 := by decide
theorem k2 : rnd (-5) 1 = -3 := by decide
theorem k3 : rnd 4 3 = 1 := by decide
theorem k4 : heldQ 100 1 1 5 (-128) 127 = 55 := by decide

theorem bl_drewN {w : World} {n : Nat} : Below w.heap.size w (w.drewN n) := below_drewN (Below.refl _ _) n

set_option maxHeartbeats 400000 in
set_option maxRecDepth 100000 in
theorem known02_any (w : World) : Calls Try.prog 18 #[] w fun e w' => e = .returned (.bool true) ∧ Below w.heap.size w w' := by
  go_enter Try.func18, Try.ntmps18
  go_wp2_with fail
  refine (round_any _ _ _ (by omega) (by omega)).mono ?_
  rintro e w1 ⟨rfl, n1, rfl⟩
  rw [k1]
  go_wp2_with fail
  refine (round_any _ _ _ (by omega) (by omega)).mono ?_
  rintro e w2 ⟨rfl, n2, rfl⟩
  rw [k2]
  go_wp2_with fail
  refine (round_any _ _ _ (by omega) (by omega)).mono ?_
  rintro e w3 ⟨rfl, n3, rfl⟩
  rw [k3]
  go_wp2_with fail
  refine (put8_any _ _ _ _ _ (by omega) (by omega) (by omega) (by omega) (by omega) (by omega)).mono ?_
  rintro e w4 ⟨rfl, hb4⟩
  rw [k4]
  go_wp2
  go_ret
  exact ⟨rfl, bl_step bl_drewN hb4⟩

set_option maxHeartbeats 400000 in
set_option maxRecDepth 100000 in
theorem fixRounds_walk (v a m s : Int) (w : World) (h0 : -9223372036854775808 ≤ v) (h1 : v ≤ 9223372036854775807) (a0 : -2147483648 ≤ a) (a1 : a ≤ 2147483647) (m0 : -2147483648 ≤ m) (m1 : m ≤ 2147483647) :
    Calls Try.prog 3 #[.int .i64 v, .int .i32 a, .int .i32 m, .int .i64 s] w fun e w' => e = .returned (.bool true) ∧ Below w.heap.size w w' := by
  obtain ⟨b0, b1⟩ := mul_bd32 a m a0 a1 m0 m1
  go_enter Try.func3, Try.ntmps3
  go_wp2_with fail
  refine (round_any _ _ _ (by omega) (by omega)).mono ?_
  rintro e w1 ⟨rfl, n1, rfl⟩
  go_wp2_with fail
  refine (refRound_any _ _ _ (by omega) (by omega)).mono ?_
  rintro e w1 ⟨rfl, n2, rfl⟩
  go_wp2_with fail
  refine (scale_any _ _ _ _ a0 a1 m0 m1).mono ?_
  rintro e w1 ⟨rfl, n3, rfl⟩
  go_wp2_with fail
  refine (refRound_any _ _ _ (by omega) (by omega)).mono ?_
  rintro e w1 ⟨rfl, n4, rfl⟩
  go_wp2_with fail
  refine (known02_any _).mono ?_
  rintro e w1 ⟨rfl, hb⟩
  go_wp2
  go_ret
  exact ⟨rfl, bl_step bl_drewN hb⟩

theorem heldQ_mono (a b m s z lo hi : Int) (h : a ≤ b) (hl : lo ≤ hi) : heldQ a m s z lo hi ≤ heldQ b m s z lo hi := by
  unfold heldQ
  cases hq : rightQ m s with
  | false => simp
  | true =>
    have := rightQ_true hq
    simp only [if_true]
    refine clampI_mono _ _ _ _ ?_ hl
    have := rnd_mono (a * m) (b * m) s (Int.mul_le_mul_of_nonneg_right h (by omega))
    omega
theorem heldQ_bd (a m s z : Int) : -128 ≤ heldQ a m s z (-128) 127 ∧ heldQ a m s z (-128) 127 ≤ 127 := by
  unfold heldQ clampI; split <;> (try split) <;> (try split) <;> omega

set_option maxHeartbeats 1000000 in
set_option maxRecDepth 100000 in
theorem fixRises_walk (a b m s z : Int) (w : World) (a0 : -2147483648 ≤ a) (a1 : a ≤ 2147483647) (b0 : -2147483648 ≤ b) (b1 : b ≤ 2147483647) (m0 : -2147483648 ≤ m) (m1 : m ≤ 2147483647) (z0 : -128 ≤ z) (z1 : z ≤ 127) :
    Calls Try.prog 4 #[.int .i32 a, .int .i32 b, .agg #[.int .i32 m, .int .i64 s, .int .i8 z]] w fun e w' => e = .returned (.bool true) ∧ Below w.heap.size w w' := by
  have hx : ∀ X Y : Int, X = heldQ a m s z (-128) 127 → Y = heldQ b m s z (-128) 127 → (a ≤ b → X ≤ Y) ∧ (b ≤ a → Y ≤ X) := fun X Y hX hY => ⟨fun h => by rw [hX, hY]; exact heldQ_mono _ _ _ _ _ _ _ h (by omega), fun h => by rw [hX, hY]; exact heldQ_mono _ _ _ _ _ _ _ h (by omega)⟩
  obtain ⟨X, hX⟩ : ∃ X, X = heldQ a m s z (-128) 127 := ⟨_, rfl⟩
  obtain ⟨Y, hY⟩ : ∃ Y, Y = heldQ b m s z (-128) 127 := ⟨_, rfl⟩
  obtain ⟨o1, o2⟩ := hx X Y hX hY
  have HX := Lib.hid hX; have HY := Lib.hid hY; clear hX hY hx
  go_enter Try.func4, Try.ntmps4
  go_wp2_with fail
  have c0 : (w.alloc (.cells #[.int .i32 m, .int .i64 s, .int .i8 z] 28)).cell? ⟨w.heap.size, 0, none⟩ = some (.int .i32 m) := by rw [World.cell?_alloc_at _ _ _ _ rfl]; rfl
  have c1 : (w.alloc (.cells #[.int .i32 m, .int .i64 s, .int .i8 z] 28)).cell? ⟨w.heap.size, 1, none⟩ = some (.int .i64 s) := by rw [World.cell?_alloc_at _ _ _ _ rfl]; rfl
  have c2 : (w.alloc (.cells #[.int .i32 m, .int .i64 s, .int .i8 z] 28)).cell? ⟨w.heap.size, 2, none⟩ = some (.int .i8 z) := by rw [World.cell?_alloc_at _ _ _ _ rfl]; rfl
  refine wp_region_known (fun | 2 => some (.int .i8 X) | 5 => some (.int .i8 Y) | _ => none) (by kernel_rfl) (by kernel_rfl) ?_
  intro vs hvs
  (refine wpF_ex ?_; apply Exists.intro; apply Exists.intro; refine ⟨fun wx hwx K Qp hK => ?_, ?_, rfl, rfl, ?_⟩; (go_wp2_with fail; exact hK); rfl)
  (refine wpF_ex ?_; apply Exists.intro; apply Exists.intro; refine ⟨fun wx hwx K Qp hK => ?_, ?_, rfl, rfl, ?_⟩; (have d0 := bl_get hwx.1 c0; have d1 := bl_get hwx.1 c1; have d2 := bl_get hwx.1 c2; clear hwx; go_wp2_with fail; exact hK); rfl)
  (refine wpF_valx (.int .i8 X) rfl hvs ?_; apply Exists.intro; refine ⟨fun wx hwx K Qp hK => ?_, ?_, rfl, ?_⟩; (clear hwx; go_wp2_with fail; refine ((put8_any _ _ _ _ _ a0 a1 m0 m1 z0 z1).mono (fun e w' h => show e = .returned (.int .i8 X) ∧ _ from ⟨by rw [HX.out]; exact h.1, h.2⟩)).mono ?_; rintro e w' ⟨rfl, hb⟩; exact hK _ hb); rfl)
  (refine wpF_ex ?_; apply Exists.intro; apply Exists.intro; refine ⟨fun wx hwx K Qp hK => ?_, ?_, rfl, rfl, ?_⟩; (go_wp2_with fail; exact hK); rfl)
  (refine wpF_ex ?_; apply Exists.intro; apply Exists.intro; refine ⟨fun wx hwx K Qp hK => ?_, ?_, rfl, rfl, ?_⟩; (have d0 := bl_get hwx.1 c0; have d1 := bl_get hwx.1 c1; have d2 := bl_get hwx.1 c2; clear hwx; go_wp2_with fail; exact hK); rfl)
  (refine wpF_valx (.int .i8 Y) rfl hvs ?_; apply Exists.intro; refine ⟨fun wx hwx K Qp hK => ?_, ?_, rfl, ?_⟩; (clear hwx; go_wp2_with fail; refine ((put8_any _ _ _ _ _ b0 b1 m0 m1 z0 z1).mono (fun e w' h => show e = .returned (.int .i8 Y) ∧ _ from ⟨by rw [HY.out]; exact h.1, h.2⟩)).mono ?_; rintro e w' ⟨rfl, hb⟩; exact hK _ hb); rfl)
  (refine wpF_ex ?_; apply Exists.intro; apply Exists.intro; refine ⟨fun wx hwx K Qp hK => ?_, ?_, rfl, rfl, ?_⟩; (go_wp2_with fail; exact hK); rfl)
  (refine wpF_ex ?_; apply Exists.intro; apply Exists.intro; refine ⟨fun wx hwx K Qp hK => ?_, ?_, rfl, rfl, ?_⟩; (go_wp2_with fail; exact hK); rfl)
  refine wpF_nil ?_
  intro w9 hb9
  have c9 := ((Below.refl w.heap.size w).alloc (Nat.le_refl _) (.cells #[.int .i32 m, .int .i64 s, .int .i8 z] 28)).trans (hb9.mono (by simp))
  clear hvs c0 c1 c2 hb9
  by_cases hab : a ≤ b
  · have o3 := o1 hab
    by_cases hba : b ≤ a
    · have o4 := o2 hba
      clear o1 o2
      go_wp2_with fail
      refine (known02_any _).mono ?_
      rintro e w1 ⟨rfl, hb⟩
      go_wp2
      go_ret
      exact ⟨rfl, bl_step c9 hb⟩
    · clear o1 o2
      go_wp2_with fail
      refine (known02_any _).mono ?_
      rintro e w1 ⟨rfl, hb⟩
      go_wp2
      go_ret
      exact ⟨rfl, bl_step c9 hb⟩
  · have o4 := o2 (by omega)
    clear o1 o2
    go_wp2_with fail
    refine (known02_any _).mono ?_
    rintro e w1 ⟨rfl, hb⟩
    go_wp2
    go_ret
    exact ⟨rfl, bl_step c9 hb⟩
end Go.Proofs.Ytolpecacibmkjaa
