/- The document's Round; fix.Scale; whether a scale may be. No condition. -/
import Derived.Test.YtgecmooedhnenaaFixA
namespace Go.Proofs.Ytgecmooedhnenaa
open Go.RowKit

theorem neg_facts (v P : Int) (hv : v < 0) (hP : 1 ≤ P) : v ≤ v.tdiv P ∧ v.tdiv P ≤ 0 ∧ -P < v.tmod P ∧ v.tmod P ≤ 0 ∧ (1 < P → v ≤ 2 * v.tdiv P) := by
  obtain ⟨u, rfl⟩ : ∃ u, v = -u := ⟨-v, by omega⟩
  have hu : 0 ≤ u := by omega
  rw [Int.neg_tmod, Int.neg_tdiv, Int.tmod_eq_emod_of_nonneg hu, Int.tdiv_eq_ediv_of_nonneg hu]
  have h1 := Int.emod_nonneg u (show P ≠ 0 by omega)
  have h2 := Int.emod_lt_of_pos u (show 0 < P by omega)
  have h3 := Int.ediv_nonneg hu (show 0 ≤ P by omega)
  have h4 := Int.ediv_le_self P hu
  refine ⟨by omega, by omega, by omega, by omega, fun h => ?_⟩
  have h5 := Int.mul_ediv_self_le (x := u) (k := P) (by omega)
  have h6 : 2 * (u / P) ≤ P * (u / P) := Int.mul_le_mul_of_nonneg_right (by omega) h3
  omega
theorem pos_facts (v P : Int) (hv : 0 ≤ v) (hP : 1 ≤ P) : 0 ≤ v / P ∧ v / P ≤ v ∧ 0 ≤ v % P ∧ v % P < P ∧ (1 < P → 2 * (v / P) ≤ v) := by
  have h1 := Int.emod_nonneg v (show P ≠ 0 by omega)
  have h2 := Int.emod_lt_of_pos v (show 0 < P by omega)
  have h3 := Int.ediv_nonneg hv (show 0 ≤ P by omega)
  have h4 := Int.ediv_le_self P hv
  refine ⟨by omega, by omega, by omega, by omega, fun h => ?_⟩
  have h5 := Int.mul_ediv_self_le (x := v) (k := P) (by omega)
  have h6 : 2 * (v / P) ≤ P * (v / P) := Int.mul_le_mul_of_nonneg_right (by omega) h3
  omega

set_option maxHeartbeats 1000000 in
set_option maxRecDepth 100000 in
theorem refRound_any (v s : Int) (w : World) (h0 : -9223372036854775808 ≤ v) (h1 : v ≤ 9223372036854775807) :
    Calls Try.prog 102 #[.int .i64 v, .int .i64 s] w fun e w' => e = .returned (.int .i64 (rnd v s)) ∧ ∃ n, w' = w.drewN n := by
  by_cases hs : s < 0
  · have e : rnd v s = 0 := by unfold rnd; rw [if_pos (.inl hs)]
    rw [e]; clear e
    go_enter Try.func102, Try.ntmps102
    go_wp2
    go_ret
    exact ⟨rfl, 0, rfl⟩
  · by_cases hs2 : 62 < s
    · have e : rnd v s = 0 := by unfold rnd; rw [if_pos (.inr hs2)]
      rw [e]; clear e
      go_enter Try.func102, Try.ntmps102
      go_wp2
      go_ret
      exact ⟨rfl, 0, rfl⟩
    · obtain ⟨t, rfl⟩ := Int.eq_ofNat_of_zero_le (show 0 ≤ s by omega)
      have ht : t ≤ 62 := by omega
      have hr := Lib.hid (ref_round v t)
      have hrd := Lib.hid (show rnd v (t : Int) = if 0 ≤ v then (rn v.toNat t : Int) else -(rn (-v).toNat t : Int) by unfold rnd; rw [if_neg (by omega), Int.toNat_natCast])
      clear hs hs2
      go_enter Try.func102, Try.ntmps102
      go_wp2
      go_loop [5, 6] (fun p i => ∃ k : Nat, i = .int .i64 k ∧ k ≤ t ∧ p = .int .i64 (2 ^ k)) (fun _ i => t - (intOf i).toNat)
      case atStart => exact ⟨0, rfl, by omega, rfl⟩
      case round =>
        obtain ⟨k, rfl, hk, rfl⟩ := hrel
        have hp1 : (1 : Int) ≤ 2 ^ k := Int.add_one_le_iff.2 (Int.pow_pos (by decide))
        have hp2 : (2 : Int) ^ k ≤ 4611686018427387904 := by
          have : 2 ^ k ≤ 2 ^ 62 := Nat.pow_le_pow_right (by decide) (by omega)
          have e : ((2 : Int) ^ k) = ((2 ^ k : Nat) : Int) := by simp
          rw [e]; omega
        by_cases hlt : k < t
        · obtain ⟨P, hP⟩ : ∃ P : Int, P = 2 ^ k := ⟨_, rfl⟩
          have hp3 : (2 : Int) ^ k ≤ 2305843009213693952 := by
            have : 2 ^ k ≤ 2 ^ 61 := Nat.pow_le_pow_right (by decide) (by omega)
            have e : ((2 : Int) ^ k) = ((2 ^ k : Nat) : Int) := by simp
            rw [e]; omega
          rw [← hP] at hp1 hp2 hp3 ⊢
          have HP := Lib.hid hP; clear hP
          go_wp2
          go_round
          case rel => exact ⟨k + 1, by go_num, by omega, by rw [HP.out, Int.pow_succ]⟩
          case measure => simp [intOf]; omega
        · obtain rfl : k = t := by omega
          obtain ⟨P, hP⟩ : ∃ P : Int, P = 2 ^ k := ⟨_, rfl⟩
          have hr' := hr.out
          rw [← hP] at hp1 hp2 hr' ⊢
          have HR : Hid (rnd v (k : Int) = _) := Lib.hid (hrd.out.trans hr'.symm)
          have HP := Lib.hid hP; clear hP hr' hr hrd
          by_cases hv : 0 ≤ v
          · obtain ⟨f1, f2, f3, f4, f5⟩ := pos_facts v P hv hp1
            by_cases hc : P - v % P ≤ v % P
            · have f6 : 1 < P := by omega
              have f7 := f5 f6
              clear f5
              go_wp2
              go_quiet (fail)
              go_wp2
              go_ret
              refine ⟨ret_int ?_, nq, rfl⟩
              rw [HR.out, Int.tmod_eq_emod_of_nonneg hv, Int.tdiv_eq_ediv_of_nonneg hv, if_pos ⟨f3, hc, f6⟩]
            · clear f5
              go_wp2
              go_quiet (fail)
              go_wp2
              go_ret
              refine ⟨ret_int ?_, nq, rfl⟩
              rw [HR.out, Int.tmod_eq_emod_of_nonneg hv, Int.tdiv_eq_ediv_of_nonneg hv, if_neg (by omega), if_neg (by omega)]
          · obtain ⟨f1, f2, f3, f4, f5⟩ := neg_facts v P (by omega) hp1
            have e1 : wrap64 (v.tdiv P) = v.tdiv P := IntWalk.wrap64_in _ ⟨by omega, by omega⟩
            by_cases hc : P + v.tmod P ≤ -v.tmod P
            · have f6 : 1 < P := by omega
              have f7 := f5 f6
              have f8 : v.tmod P < 0 := by omega
              clear f5
              go_wp2
              go_quiet (fail)
              go_wp2
              go_ret
              refine ⟨ret_int ?_, nq, rfl⟩
              rw [HR.out, if_neg (by omega), if_pos ⟨f8, hc⟩]
            · clear f5
              by_cases f8 : v.tmod P < 0
              · go_wp2
                go_quiet (fail)
                go_wp2
                go_ret
                refine ⟨ret_int ?_, nq, rfl⟩
                rw [HR.out, if_neg (by omega), if_neg (by omega)]
              · go_wp2
                go_quiet (fail)
                go_wp2
                go_ret
                refine ⟨ret_int ?_, nq, rfl⟩
                rw [HR.out, if_neg (by omega), if_neg (by omega)]

set_option maxHeartbeats 400000 in
set_option maxRecDepth 100000 in
theorem scale_any (a m s : Int) (w : World) (a0 : -2147483648 ≤ a) (a1 : a ≤ 2147483647) (m0 : -2147483648 ≤ m) (m1 : m ≤ 2147483647) :
    Calls Try.prog 160 #[.int .i32 a, .int .i32 m, .int .i64 s] w fun e w' => e = .returned (.int .i64 (rnd (a * m) s)) ∧ ∃ n, w' = w.drewN n := by
  have hb : -4611686018427387904 ≤ a * m ∧ a * m ≤ 4611686018427387904 := by
    constructor
    · have h1 : (a.natAbs * m.natAbs : Nat) ≤ 2147483648 * 2147483648 := Nat.mul_le_mul (by omega) (by omega)
      have := Int.natAbs_mul a m
      omega
    · have h1 : (a.natAbs * m.natAbs : Nat) ≤ 2147483648 * 2147483648 := Nat.mul_le_mul (by omega) (by omega)
      have := Int.natAbs_mul a m
      omega
  obtain ⟨b0, b1⟩ := hb
  go_enter Try.func160, Try.ntmps160
  go_wp2_with fail
  refine (round_any _ _ _ (by omega) (by omega)).mono ?_
  rintro e w1 ⟨rfl, n, rfl⟩
  go_wp2
  go_ret
  exact ⟨rfl, n, rfl⟩

set_option maxHeartbeats 400000 in
set_option maxRecDepth 100000 in
theorem clamp_any (v lo hi : Int) (w : World) (l0 : -128 ≤ lo) (l1 : lo ≤ 127) (k0 : -128 ≤ hi) (k1 : hi ≤ 127) :
    Calls Try.prog 100 #[.int .i64 v, .int .i8 lo, .int .i8 hi] w fun e w' => e = .returned (.int .i8 (clampI v lo hi)) ∧ w = w' := by
  have hb : -128 ≤ clampI v lo hi ∧ clampI v lo hi ≤ 127 := by unfold clampI; split <;> (try split) <;> omega
  obtain ⟨b0, b1⟩ := hb
  go_enter Try.func100, Try.ntmps100
  go_wp2_with fail
  refine (satHeld_any _ _ _ _).mono ?_
  rintro e w1 ⟨rfl, rfl⟩
  go_wp2
  go_ret
  exact ⟨rfl, rfl⟩
end Go.Proofs.Ytgecmooedhnenaa
