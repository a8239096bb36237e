/- Numbers by powers of two: fix.Round and the document's, fix.Scale, and numbers between two. No condition. -/
import Derived.Test.YtgecmooedhnenaaFixP
import Derived.Handy
import Derived.ScopeJumps
namespace Go.Proofs.Ytgecmooedhnenaa
open Go.RowKit

theorem and_bit (x k : Nat) : (x &&& 2 ^ k) / 2 ^ k = x / 2 ^ k % 2 := by
  rw [Nat.and_div_two_pow, Nat.div_self (Nat.two_pow_pos k), Nat.and_one_is_mod]

set_option maxHeartbeats 400000 in
set_option maxRecDepth 100000 in
theorem satHeld_any (v lo hi : Int) (w : World) : Calls Try.prog 159 #[.int .i64 v, .int .i64 lo, .int .i64 hi] w fun e w' => e = .returned (.int .i64 (clampI v lo hi)) ∧ w = w' := by
  by_cases h1 : v < lo
  · have e : clampI v lo hi = lo := by unfold clampI; rw [if_pos h1]
    rw [e]; clear e
    go_enter Try.func159, Try.ntmps159
    go_wp2
    go_ret
    exact ⟨rfl, rfl⟩
  · by_cases h2 : hi < v
    · have e : clampI v lo hi = hi := by unfold clampI; rw [if_neg h1, if_pos h2]
      rw [e]; clear e
      go_enter Try.func159, Try.ntmps159
      go_wp2
      go_ret
      exact ⟨rfl, rfl⟩
    · have e : clampI v lo hi = v := by unfold clampI; rw [if_neg h1, if_neg h2]
      rw [e]; clear e
      go_enter Try.func159, Try.ntmps159
      go_wp2
      go_ret
      exact ⟨rfl, rfl⟩

set_option maxHeartbeats 400000 in
set_option maxRecDepth 100000 in
theorem refHeld01_any (v lo hi : Int) (w : World) : Calls Try.prog 103 #[.int .i64 v, .int .i64 lo, .int .i64 hi] w fun e w' => e = .returned (.int .i64 (clampI v lo hi)) ∧ w = w' := by
  by_cases h1 : v < lo
  · have e : clampI v lo hi = lo := by unfold clampI; rw [if_pos h1]
    rw [e]; clear e
    go_enter Try.func103, Try.ntmps103
    go_wp2
    go_ret
    exact ⟨rfl, rfl⟩
  · by_cases h2 : hi < v
    · have e : clampI v lo hi = hi := by unfold clampI; rw [if_neg h1, if_pos h2]
      rw [e]; clear e
      go_enter Try.func103, Try.ntmps103
      go_wp2
      go_ret
      exact ⟨rfl, rfl⟩
    · have e : clampI v lo hi = v := by unfold clampI; rw [if_neg h1, if_neg h2]
      rw [e]; clear e
      go_enter Try.func103, Try.ntmps103
      go_wp2
      go_ret
      exact ⟨rfl, rfl⟩

/-- A scope with one label to which the run jumps forward, once. -/
theorem wp_scope_fwd {P : Program} {a : Act} {w : World} {Q : Exit → Act → World → Prop} {c rest : Code} (l : Nat) (hf : findLabel c l = some rest)
    (h : c.wp P (Exit.jump l (fun a w => rest.wp P (Exit.noGoto Q) a w) Q) a w) : (Code.scope c).wp P Q a w :=
  wp_scope_jumps l (fun a w => rest.wp P (Exit.noGoto Q) a w) (fun _ _ => 0) hf h fun a w hJ => wp_mono hJ fun e a w hq => by
    cases e <;> first | exact hq | exact hq.elim
theorem jump_ret {l : Nat} {J : Act → World → Prop} {Q : Exit → Act → World → Prop} : Exit.jump l J Q .ret = Q .ret := rfl

theorem rnd_pos (v s : Int) (hv : 0 ≤ v) (h0 : 0 ≤ s) (h1 : s ≤ 62) : rnd v s = (rn v.toNat s.toNat : Int) := by unfold rnd; rw [if_neg (by omega), if_pos hv]
theorem rnd_below (v s : Int) (hv : v < 0) (h0 : 0 ≤ s) (h1 : s ≤ 62) : rnd v s = -(rn (-v).toNat s.toNat : Int) := by unfold rnd; rw [if_neg (by omega), if_neg (by omega)]

theorem rn_bits (m t : Nat) (hm : m ≤ 9223372036854775808) (h1 : 1 ≤ t) (h2 : t ≤ 62) :
    (m : Int) / 2 ^ t + bits BinOp.and IntKind.u64 (m : Int) (IntKind.u64.wrap (2 ^ (t - 1))) / 2 ^ (t - 1) = (rn m t : Int) := by
  have hp : 2 ^ (t - 1) ≤ 2 ^ 62 := Nat.pow_le_pow_right (by decide) (by omega)
  generalize hH : 2 ^ (t - 1) = H at hp
  have e1 : IntKind.u64.wrap (2 ^ (t - 1)) = ((2 ^ (t - 1) : Nat) : Int) := by
    rw [show ((2 : Int) ^ (t - 1)) = ((2 ^ (t - 1) : Nat) : Int) from by simp, hH]
    exact IntWalk.u64_in _ (by omega)
  rw [e1, hH, u64_and_nat _ _ (by omega) (by omega), ← hH]
  unfold rn
  rw [if_neg (by omega), ← and_bit]
  simp

theorem u64_neg_eq (v : Int) (h0 : -9223372036854775808 ≤ v) (h1 : v < 0) : IntKind.u64.wrap (-IntKind.u64.wrap v) = (((-v).toNat : Nat) : Int) := by
  simp only [IntKind.wrap_u64]; omega
theorem back_neg (r : Nat) (h : r ≤ 9223372036854775808) : wrap64 (IntKind.u64.wrap (-(r : Int))) = -(r : Int) := by
  simp only [IntKind.wrap_u64, wrap64]; omega

set_option maxHeartbeats 400000 in
set_option maxRecDepth 100000 in
theorem round_any (v s : Int) (w : World) (h0 : -9223372036854775808 ≤ v) (h1 : v ≤ 9223372036854775807) :
    Calls Try.prog 206 #[.int .i64 v, .int .i64 s] w fun e w' => e = .returned (.int .i64 (rnd v s)) ∧ ∃ n, w' = w.drewN n := by
  by_cases hs : s < 0
  · have e : rnd v s = 0 := by unfold rnd; rw [if_pos (.inl hs)]
    rw [e]; clear e
    go_enter Try.func206, Try.ntmps206
    go_wp2
    refine wp_scope_fwd 0 rfl ?_
    go_wp2
    (try rw [jump_ret])
    go_ret
    exact ⟨rfl, 0, rfl⟩
  · by_cases hs2 : 62 < s
    · have e : rnd v s = 0 := by unfold rnd; rw [if_pos (.inr hs2)]
      rw [e]; clear e
      go_enter Try.func206, Try.ntmps206
      go_wp2
      refine wp_scope_fwd 0 rfl ?_
      go_wp2
      (try rw [jump_ret])
      go_ret
      exact ⟨rfl, 0, rfl⟩
    · by_cases hv : 0 ≤ v
      · by_cases hs0 : s = 0
        · subst hs0
          go_enter Try.func206, Try.ntmps206
          go_wp2
          refine wp_scope_fwd 0 rfl ?_
          go_wp2
          go_step3
          refine ⟨rfl, ?_⟩
          go_wp2
          (try rw [Exit.noGoto_ret])
          go_ret
          refine ⟨ret_int ?_, 0, rfl⟩
          rw [rnd_pos v 0 hv (by omega) (by omega)]; simp [rn]; omega
        · have hs1 : 1 ≤ s := by omega
          go_enter Try.func206, Try.ntmps206
          go_wp2
          refine wp_scope_fwd 0 rfl ?_
          go_wp2
          go_step3
          refine ⟨rfl, ?_⟩
          go_wp2
          go_quiet (fail)
          go_wp2
          (try rw [Exit.noGoto_ret])
          go_ret
          refine ⟨?_, nq, rfl⟩
          rw [rnd_pos v s hv (by omega) (by omega)]
          obtain ⟨m, rfl⟩ := Int.eq_ofNat_of_zero_le hv
          have e := rn_bits m s.toNat (by omega) (by omega) (by omega)
          have hle := rn_le m s.toNat
          exact ret_int (by rw [e, Int.toNat_natCast, IntWalk.u64_in ((rn m s.toNat : Nat) : Int) ⟨by omega, by omega⟩, IntWalk.wrap64_in _ ⟨by omega, by omega⟩])
      · by_cases hs0 : s = 0
        · subst hs0
          go_enter Try.func206, Try.ntmps206
          go_wp2
          refine wp_scope_fwd 0 rfl ?_
          go_wp2
          go_step3
          go_wp2
          (try rw [jump_ret])
          go_ret
          refine ⟨?_, 0, rfl⟩
          rw [rnd_below v 0 (by omega) (by omega) (by omega)]
          exact ret_int (by rw [u64_neg_eq v h0 (by omega), back_neg _ (by omega)]; simp [rn])
        · have hs1 : 1 ≤ s := by omega
          go_enter Try.func206, Try.ntmps206
          go_wp2
          refine wp_scope_fwd 0 rfl ?_
          go_wp2
          go_step3
          go_wp2
          go_quiet (fail)
          go_wp2
          (try rw [jump_ret])
          go_ret
          refine ⟨?_, nq, rfl⟩
          rw [rnd_below v s (by omega) (by omega) (by omega)]
          have e := rn_bits (-v).toNat s.toNat (by omega) (by omega) (by omega)
          have hle := rn_le (-v).toNat s.toNat
          exact ret_int (by rw [u64_neg_eq v h0 (by omega), e, IntWalk.u64_in ((rn (-v).toNat s.toNat : Nat) : Int) ⟨by omega, by omega⟩, back_neg _ (by omega)])
end Go.Proofs.Ytgecmooedhnenaa
