/- The law FixNear walked. No condition. -/
import Derived.Test.YtolpecacibmkjaaFixD
namespace Go.Proofs.Ytolpecacibmkjaa
open Go.RowKit

theorem rnd_near (p : Int) (k : Nat) (hk : k ≤ 62) : 2 * p ≤ 2 * (rnd p k * 2 ^ k) + 2 ^ k ∧ 2 * (rnd p k * 2 ^ k) ≤ 2 * p + 2 ^ k := by
  have e : ((2 : Int) ^ k) = ((2 ^ k : Nat) : Int) := by simp
  by_cases hp : 0 ≤ p
  · rw [rnd_pos p k hp (by omega) (by omega), Int.toNat_natCast]
    have := rn_near p.toNat k
    rw [e, ← Int.natCast_mul]
    omega
  · rw [rnd_below p k (by omega) (by omega) (by omega), Int.toNat_natCast]
    have := rn_near (-p).toNat k
    rw [e, Int.neg_mul, ← Int.natCast_mul]
    omega

set_option maxHeartbeats 1000000 in
set_option maxRecDepth 100000 in
theorem fixNear_walk (a m sh : Int) (w : World) (a0 : -2147483648 ≤ a) (a1 : a ≤ 2147483647) (m0 : -2147483648 ≤ m) (m1 : m ≤ 2147483647) (s0 : 0 ≤ sh) (s1 : sh ≤ 255) :
    Calls Try.prog 5 #[.int .i32 a, .int .i32 m, .int .u8 sh] w fun e w' => e = .returned (.bool true) ∧ Below w.heap.size w w' := by
  obtain ⟨b0, b1⟩ := mul_bd32 a m a0 a1 m0 m1
  obtain ⟨k, hsk⟩ := Int.eq_ofNat_of_zero_le (Int.emod_nonneg sh (show (63 : Int) ≠ 0 by omega))
  have hk : k ≤ 62 := by have := Int.emod_lt_of_pos sh (show (0 : Int) < 63 by omega); omega
  have hnr := rnd_near (a * m) k hk
  have hneg := rnd_neg (a * m) k
  have hbd := rnd_bd (a * m) k 4611686018427387904 b0 b1
  have hp1 : (1 : Int) ≤ 2 ^ k := Int.add_one_le_iff.2 (Int.pow_pos (by decide))
  have hp2 : (2 : Int) ^ k ≤ 4611686018427387904 := by
    have : 2 ^ k ≤ 2 ^ 62 := Nat.pow_le_pow_right (by decide) (by omega)
    have e : ((2 : Int) ^ k) = ((2 ^ k : Nat) : Int) := by simp
    rw [e]; omega
  obtain ⟨p, hp⟩ : ∃ p, a * m = p := ⟨_, rfl⟩
  obtain ⟨V, hV⟩ : ∃ V, rnd (a * m) k = V := ⟨_, rfl⟩
  rw [hp] at b0 b1 hnr hneg hV hbd
  rw [hV] at hnr hneg hbd
  obtain ⟨P, hP⟩ : ∃ P, (2 : Int) ^ k = P := ⟨_, rfl⟩
  rw [hP] at hnr hp1 hp2
  have hdiv : V * P / P = V := Int.mul_ediv_cancel V (by omega)
  obtain ⟨X, hX⟩ : ∃ X, V * P = X := ⟨_, rfl⟩
  rw [hX] at hnr hdiv
  obtain ⟨n1, n2⟩ := hnr
  obtain ⟨d1, d2⟩ := hbd
  have HV := Lib.hid hV; have HN := Lib.hid hneg; clear hV hneg
  go_enter Try.func5, Try.ntmps5
  go_wp2_with fail
  refine (scale_any _ _ _ _ a0 a1 m0 m1).mono ?_
  rintro e w1 ⟨rfl, n1, rfl⟩
  rw [hp, HV.out]
  go_wp2_with fail
  refine (round_any _ _ _ (by omega) (by omega)).mono ?_
  rintro e w1 ⟨rfl, n1, rfl⟩
  rw [HN.out]
  by_cases hf : p - X < 0
  · go_wp2_with fail
    refine (known02_any _).mono ?_
    rintro e w1 ⟨rfl, hb⟩
    go_wp2
    go_ret
    exact ⟨rfl, bl_step bl_drewN hb⟩
  · go_wp2_with fail
    refine (known02_any _).mono ?_
    rintro e w1 ⟨rfl, hb⟩
    go_wp2
    go_ret
    exact ⟨rfl, bl_step bl_drewN hb⟩
end Go.Proofs.Ytolpecacibmkjaa
