/- Whether a scale may be; a sum as a number between two (fix.Held, fix.Put, the document's Held); known of chapter 2. No condition. -/
import Derived.Test.YtgecmooedhnenaaFixB
namespace Go.Proofs.Ytgecmooedhnenaa
open Go.RowKit

theorem ret_bool' {a b : Bool} (h : b = a) : Ending.returned (.bool a) = .returned (.bool b) := by rw [h]

def quantV (m s z : Int) : Value := .agg #[.int .i32 m, .int .i64 s, .int .i8 z]

theorem rightQ_true {m s : Int} (h : rightQ m s = true) : 0 < m ∧ 0 ≤ s ∧ s ≤ 62 := by unfold rightQ at h; simp at h; omega
theorem rightQ_false {m s : Int} (h : rightQ m s = false) : ¬ (0 < m ∧ 0 ≤ s ∧ s ≤ 62) := by unfold rightQ at h; simp at h; omega

set_option maxHeartbeats 400000 in
set_option maxRecDepth 100000 in
theorem right_any (m s z : Int) (w : World) : Calls Try.prog 157 #[.agg #[.int .i32 m, .int .i64 s, .int .i8 z]] w fun e w' => e = .returned (.bool (rightQ m s)) ∧ Below w.heap.size w w' := by
  by_cases h1 : 0 < m
  · by_cases h2 : 0 ≤ s
    · by_cases h3 : s ≤ 62
      · have e : rightQ m s = true := by unfold rightQ; simp [h1, h2, h3]
        rw [e]; clear e
        go_enter Try.func157, Try.ntmps157
        go_wp2
        go_ret
        exact ⟨rfl, (Below.refl _ _).alloc (Nat.le_refl _) _⟩
      · have e : rightQ m s = false := by unfold rightQ; simp [h3]
        rw [e]; clear e
        go_enter Try.func157, Try.ntmps157
        go_wp2
        go_ret
        exact ⟨rfl, (Below.refl _ _).alloc (Nat.le_refl _) _⟩
    · have e : rightQ m s = false := by unfold rightQ; simp [h2]
      rw [e]; clear e
      go_enter Try.func157, Try.ntmps157
      go_wp2
      go_ret
      exact ⟨rfl, (Below.refl _ _).alloc (Nat.le_refl _) _⟩
  · have e : rightQ m s = false := by unfold rightQ; simp [h1]
    rw [e]; clear e
    go_enter Try.func157, Try.ntmps157
    go_wp2
    go_ret
    exact ⟨rfl, (Below.refl _ _).alloc (Nat.le_refl _) _⟩

set_option maxHeartbeats 400000 in
set_option maxRecDepth 100000 in
theorem refRight_any (m s z : Int) (w : World) : Calls Try.prog 99 #[.agg #[.int .i32 m, .int .i64 s, .int .i8 z]] w fun e w' => e = .returned (.bool (rightQ m s)) ∧ Below w.heap.size w w' := by
  by_cases h1 : 0 < m
  · by_cases h2 : 0 ≤ s
    · by_cases h3 : s ≤ 62
      · have e : rightQ m s = true := by unfold rightQ; simp [h1, h2, h3]
        rw [e]; clear e
        go_enter Try.func99, Try.ntmps99
        go_wp2
        go_ret
        exact ⟨rfl, (Below.refl _ _).alloc (Nat.le_refl _) _⟩
      · have e : rightQ m s = false := by unfold rightQ; simp [h3]
        rw [e]; clear e
        go_enter Try.func99, Try.ntmps99
        go_wp2
        go_ret
        exact ⟨rfl, (Below.refl _ _).alloc (Nat.le_refl _) _⟩
    · have e : rightQ m s = false := by unfold rightQ; simp [h2]
      rw [e]; clear e
      go_enter Try.func99, Try.ntmps99
      go_wp2
      go_ret
      exact ⟨rfl, (Below.refl _ _).alloc (Nat.le_refl _) _⟩
  · have e : rightQ m s = false := by unfold rightQ; simp [h1]
    rw [e]; clear e
    go_enter Try.func99, Try.ntmps99
    go_wp2
    go_ret
    exact ⟨rfl, (Below.refl _ _).alloc (Nat.le_refl _) _⟩

theorem mul_bd32 (a m : Int) (a0 : -2147483648 ≤ a) (a1 : a ≤ 2147483647) (m0 : -2147483648 ≤ m) (m1 : m ≤ 2147483647) : -4611686018427387904 ≤ a * m ∧ a * m ≤ 4611686018427387904 := by
  have h1 : (a.natAbs * m.natAbs : Nat) ≤ 2147483648 * 2147483648 := Nat.mul_le_mul (by omega) (by omega)
  have := Int.natAbs_mul a m
  omega

set_option maxHeartbeats 400000 in
set_option maxRecDepth 100000 in
theorem held_any (a m s z lo hi : Int) (w : World) (a0 : -2147483648 ≤ a) (a1 : a ≤ 2147483647) (m0 : -2147483648 ≤ m) (m1 : m ≤ 2147483647) (z0 : -128 ≤ z) (z1 : z ≤ 127) (l0 : -128 ≤ lo) (l1 : lo ≤ 127) (k0 : -128 ≤ hi) (k1 : hi ≤ 127) :
    Calls Try.prog 194 #[.int .i32 a, .agg #[.int .i32 m, .int .i64 s, .int .i8 z], .int .i8 lo, .int .i8 hi] w fun e w' => e = .returned (.int .i8 (heldQ a m s z lo hi)) ∧ Below w.heap.size w w' := by
  have hb := mul_bd32 a m a0 a1 m0 m1
  have hr := rnd_bd (a * m) s 4611686018427387904 hb.1 hb.2
  obtain ⟨r0, r1⟩ := hr
  cases hq : rightQ m s with
  | false =>
    have e : heldQ a m s z lo hi = 0 := by unfold heldQ; rw [hq]; simp
    rw [e]; clear e
    have HQ := Lib.hid hq; clear hq
    go_enter Try.func194, Try.ntmps194
    go_wp2_with fail
    refine (right_any _ _ _ _).mono ?_
    rintro e w1 ⟨rfl, hb1⟩
    rw [HQ.out]
    go_wp2
    go_ret
    exact ⟨rfl, ((Below.refl _ _).alloc (Nat.le_refl _) _).trans (hb1.mono (by simp))⟩
  | true =>
    have e : heldQ a m s z lo hi = clampI (rnd (a * m) s + z) lo hi := by unfold heldQ; rw [hq]; simp
    rw [e]; clear e
    have HQ := Lib.hid hq; clear hq
    go_enter Try.func194, Try.ntmps194
    go_wp2_with fail
    refine (right_any _ _ _ _).mono ?_
    rintro e w1 ⟨rfl, hb1⟩
    rw [HQ.out]
    have c0 := bl_get hb1 (b := w.heap.size) (o := 0) (v := .int .i32 m) (by rw [World.cell?_alloc_at _ _ _ _ rfl]; rfl)
    have c1 := bl_get hb1 (b := w.heap.size) (o := 1) (v := .int .i64 s) (by rw [World.cell?_alloc_at _ _ _ _ rfl]; rfl)
    have c2 := bl_get hb1 (b := w.heap.size) (o := 2) (v := .int .i8 z) (by rw [World.cell?_alloc_at _ _ _ _ rfl]; rfl)
    go_wp2_with fail
    go_quiet (first | (go_at_call 160; refine Calls.quiet_of (scale_any _ _ _ _ a0 a1 m0 m1)) | (go_at_call 100; refine Calls.quiet_of_same ((clamp_any _ _ _ _ l0 l1 k0 k1).mono fun _ _ h => ⟨h.1, h.2.symm⟩)))
    go_wp2
    go_ret
    refine ⟨rfl, below_drewN (((Below.refl _ _).alloc (Nat.le_refl _) _).trans (hb1.mono (by simp))) _⟩
end Go.Proofs.Ytgecmooedhnenaa
