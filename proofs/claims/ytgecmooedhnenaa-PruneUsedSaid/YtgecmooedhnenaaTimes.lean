/- Products that fit, and how many numbers a shape has. No condition. -/
import Derived.Test.YtgecmooedhnenaaAt
import Derived.Shelf.Bits.Mul64
namespace Go.Proofs.Ytgecmooedhnenaa
open Go.RowKit

set_option maxHeartbeats 1000000 in
theorem mul64_any (x y : Nat) (hx : x < 18446744073709551616) (hy : y < 18446744073709551616) (w : World) :
    Calls Try.prog 231 #[.int .u64 x, .int .u64 y] w fun e w' => e = .returned (.tuple #[.int .u64 ((x * y / 18446744073709551616 : Nat) : Int), .int .u64 ((x * y % 18446744073709551616 : Nat) : Int)]) ∧ w' = w := by
  obtain ⟨bd, bt, bw, hhi⟩ := Lib.mul64_hi x y hx hy
  have ba := Lib.half_mul_le (a := x / 4294967296) (b := y / 4294967296) (by omega) (by omega)
  have bb := Lib.half_mul_le (a := x / 4294967296) (b := y % 4294967296) (by omega) (by omega)
  have bc := Lib.half_mul_le (a := x % 4294967296) (b := y / 4294967296) (by omega) (by omega)
  have ba' : x / 4294967296 * (y / 4294967296) < 18446744073709551616 := by omega
  have bb' : x / 4294967296 * (y % 4294967296) < 18446744073709551616 := by omega
  have bc' : x % 4294967296 * (y / 4294967296) < 18446744073709551616 := by omega
  have bh1 : x / 4294967296 * (y / 4294967296) + (x / 4294967296 * (y % 4294967296) + x % 4294967296 * (y % 4294967296) / 4294967296) / 4294967296 < 18446744073709551616 := by omega
  have bh : x / 4294967296 * (y / 4294967296) + (x / 4294967296 * (y % 4294967296) + x % 4294967296 * (y % 4294967296) / 4294967296) / 4294967296 + ((x / 4294967296 * (y % 4294967296) + x % 4294967296 * (y % 4294967296) / 4294967296) % 4294967296 + x % 4294967296 * (y / 4294967296)) / 4294967296 < 18446744073709551616 := by omega
  go_enter Try.func231, Try.ntmps231
  go_wp2
  simp only [Mul64.maskN x hx, Mul64.maskN y hy, Mul64.divN, Mul64.mulN, Mul64.addN, Mul64.wrapN _ bd, Mul64.wrapN _ bb', Mul64.wrapN _ bt, Mul64.maskN _ bt, Mul64.wrapN _ bc', Mul64.wrapN _ bw, Mul64.wrapN _ ba', Mul64.wrapN _ bh1, Mul64.wrapN _ bh, Mul64.wrapM (x * y)]
  rw [hhi]
  go_ret2
  exact ⟨rfl, rfl⟩

set_option maxHeartbeats 400000 in
theorem satSize_any (a : Int) (w : World) (a0 : -9223372036854775808 ≤ a) (a1 : a ≤ 9223372036854775807) :
    Calls Try.prog 232 #[.int .i64 a] w fun e w' => e = .returned (.int .u64 ((a.natAbs : Nat) : Int)) ∧ w = w' := by
  by_cases h : a < 0
  · go_enter Try.func232, Try.ntmps232
    go_wp2
    go_ret
    refine ⟨ret_int ?_, rfl⟩
    rw [IntKind.wrap_u64, IntKind.wrap_u64]; omega
  · have h' : 0 ≤ a := by omega
    go_enter Try.func232, Try.ntmps232
    go_wp2
    go_ret
    refine ⟨ret_int ?_, rfl⟩
    omega

theorem ret_two {k : IntKind} {a b : Int} {c : Bool} (h : a = b) : Ending.returned (.tuple #[.int k a, .bool c]) = .returned (.tuple #[.int k b, .bool c]) := by rw [h]

theorem abs_mul (a b : Int) : (a * b = ((a.natAbs * b.natAbs : Nat) : Int) ∨ a * b = -((a.natAbs * b.natAbs : Nat) : Int)) := by
  have := Int.natAbs_mul a b
  omega
theorem abs_sign (a b : Int) : (((a < 0) = (b < 0)) → a * b = ((a.natAbs * b.natAbs : Nat) : Int)) ∧ ((¬ (a < 0) = (b < 0)) → a * b = -((a.natAbs * b.natAbs : Nat) : Int)) := by
  rw [Int.natCast_mul]
  rcases Int.lt_or_le a 0 with ha | ha <;> rcases Int.lt_or_le b 0 with hb | hb
  · rw [show ((a.natAbs : Nat) : Int) = -a by omega, show ((b.natAbs : Nat) : Int) = -b by omega, Int.neg_mul_neg]
    exact ⟨fun _ => rfl, fun h => absurd (by simp [ha, hb]) h⟩
  · rw [show ((a.natAbs : Nat) : Int) = -a by omega, show ((b.natAbs : Nat) : Int) = b by omega, Int.neg_mul, Int.neg_neg]
    exact ⟨fun h => by simp [ha] at h; omega, fun _ => rfl⟩
  · rw [show ((a.natAbs : Nat) : Int) = a by omega, show ((b.natAbs : Nat) : Int) = -b by omega, Int.mul_neg, Int.neg_neg]
    exact ⟨fun h => by simp [hb] at h; omega, fun _ => rfl⟩
  · rw [show ((a.natAbs : Nat) : Int) = a by omega, show ((b.natAbs : Nat) : Int) = b by omega]
    exact ⟨fun _ => rfl, fun h => absurd (by simp [show ¬ a < 0 by omega, show ¬ b < 0 by omega]) h⟩

set_option maxHeartbeats 1600000 in
set_option maxRecDepth 100000 in
theorem times_any (a b : Int) (w : World) (a0 : -9223372036854775808 ≤ a) (a1 : a ≤ 9223372036854775807) (b0 : -9223372036854775808 ≤ b) (b1 : b ≤ 9223372036854775807) :
    Calls Try.prog 217 #[.int .i64 a, .int .i64 b] w fun e w' => ∃ q r, e = .returned (.tuple #[.int .i64 q, .bool r]) ∧ ((r = true ∧ q = a * b ∧ -9223372036854775808 ≤ a * b ∧ a * b ≤ 9223372036854775807) ∨ (r = false ∧ (a * b < -9223372036854775808 ∨ 9223372036854775807 < a * b))) ∧ w = w' := by
  obtain ⟨hs1, hs2⟩ := abs_sign a b
  obtain ⟨x, hx⟩ : ∃ x, x = a.natAbs := ⟨_, rfl⟩
  obtain ⟨y, hy⟩ : ∃ y, y = b.natAbs := ⟨_, rfl⟩
  have hxb : x < 18446744073709551616 := by omega
  have hyb : y < 18446744073709551616 := by omega
  rw [← hx, ← hy] at hs1 hs2
  obtain ⟨m, hm⟩ : ∃ m, m = a * b := ⟨_, rfl⟩
  rw [← hm] at hs1 hs2 ⊢
  obtain ⟨H, hH⟩ : ∃ H, H = x * y / 18446744073709551616 := ⟨_, rfl⟩
  obtain ⟨L, hL⟩ : ∃ L, L = x * y % 18446744073709551616 := ⟨_, rfl⟩
  have hp : x * y = 18446744073709551616 * H + L := by rw [hH, hL]; exact (Nat.div_add_mod _ _).symm
  have hLb : L < 18446744073709551616 := by rw [hL]; exact Nat.mod_lt _ (by decide)
  have hM := Lib.hid (mul64_any x y hxb hyb w)
  rw [← hH, ← hL] at hM
  have hS1 := Lib.hid (satSize_any a w a0 a1)
  have hS2 := Lib.hid (satSize_any b w b0 b1)
  rw [← hx] at hS1
  rw [← hy] at hS2
  rw [hp] at hs1 hs2
  have K1 := Lib.hid hs1; have K2 := Lib.hid hs2
  clear hs1 hs2 hp hH hL hm hx hy
  by_cases h1 : H = 0
  · subst h1
    have e1 : (((0 : Nat) : Int) != 0) = false := rfl
    have e1' : (((0 : Nat) : Int) == 0) = true := rfl
    rcases Int.lt_or_le a 0 with ha | ha <;> rcases Int.lt_or_le b 0 with hb | hb
    · skip
      have da : decide (a < 0) = true := by rw [decide_eq_true_eq]; omega
      have db : decide (b < 0) = true := by rw [decide_eq_true_eq]; omega
      have hm := K1.out (by simp only [eq_iff_iff]; omega)
      by_cases hL : L ≤ 9223372036854775807
      · have d1 : decide ((9223372036854775808 : Int) < (L : Int)) = false := by rw [decide_eq_false_iff_not]; omega
        have d2 : ((L : Int) == 9223372036854775808) = false := by rw [beq_eq_false_iff_ne]; omega
        go_enter Try.func217, Try.ntmps217
        go_wp2_with fail
        refine hS1.out.mono ?_
        rintro e w' ⟨rfl, rfl⟩
        go_wp2_with fail
        refine hS2.out.mono ?_
        rintro e w' ⟨rfl, rfl⟩
        go_wp2_with fail
        refine hM.out.mono ?_
        rintro e w' ⟨rfl, rfl⟩
        go_wp2_with fail
        go_ret2
        refine ⟨_, true, rfl, .inl ⟨rfl, ?_, ?_, ?_⟩, rfl⟩ <;> first | omega | (simp [wrap64]; omega)
      · by_cases hL2 : L = 9223372036854775808
        · subst hL2
          have d1 : decide ((9223372036854775808 : Int) < ((9223372036854775808 : Nat) : Int)) = false := by decide
          have d2 : (((9223372036854775808 : Nat) : Int) == 9223372036854775808) = true := by decide
          go_enter Try.func217, Try.ntmps217
          go_wp2_with fail
          refine hS1.out.mono ?_
          rintro e w' ⟨rfl, rfl⟩
          go_wp2_with fail
          refine hS2.out.mono ?_
          rintro e w' ⟨rfl, rfl⟩
          go_wp2_with fail
          refine hM.out.mono ?_
          rintro e w' ⟨rfl, rfl⟩
          go_wp2_with fail
          go_ret2
          exact ⟨_, _, rfl, .inr ⟨rfl, by omega⟩, rfl⟩
        · have d1 : decide ((9223372036854775808 : Int) < (L : Int)) = true := by rw [decide_eq_true_eq]; omega
          go_enter Try.func217, Try.ntmps217
          go_wp2_with fail
          refine hS1.out.mono ?_
          rintro e w' ⟨rfl, rfl⟩
          go_wp2_with fail
          refine hS2.out.mono ?_
          rintro e w' ⟨rfl, rfl⟩
          go_wp2_with fail
          refine hM.out.mono ?_
          rintro e w' ⟨rfl, rfl⟩
          go_wp2_with fail
          go_ret2
          exact ⟨_, _, rfl, .inr ⟨rfl, by omega⟩, rfl⟩
    · skip
      have da : decide (a < 0) = true := by rw [decide_eq_true_eq]; omega
      have db : decide (b < 0) = false := by rw [decide_eq_false_iff_not]; omega
      have hm := K2.out (by simp only [eq_iff_iff]; omega)
      by_cases hL : L ≤ 9223372036854775807
      · have d1 : decide ((9223372036854775808 : Int) < (L : Int)) = false := by rw [decide_eq_false_iff_not]; omega
        have d2 : ((L : Int) == 9223372036854775808) = false := by rw [beq_eq_false_iff_ne]; omega
        go_enter Try.func217, Try.ntmps217
        go_wp2_with fail
        refine hS1.out.mono ?_
        rintro e w' ⟨rfl, rfl⟩
        go_wp2_with fail
        refine hS2.out.mono ?_
        rintro e w' ⟨rfl, rfl⟩
        go_wp2_with fail
        refine hM.out.mono ?_
        rintro e w' ⟨rfl, rfl⟩
        go_wp2_with fail
        go_ret2
        refine ⟨_, true, rfl, .inl ⟨rfl, ?_, ?_, ?_⟩, rfl⟩ <;> first | omega | (simp only [IntKind.wrap_u64]; unfold wrap64; omega)
      · by_cases hL2 : L = 9223372036854775808
        · subst hL2
          have d1 : decide ((9223372036854775808 : Int) < ((9223372036854775808 : Nat) : Int)) = false := by decide
          have d2 : (((9223372036854775808 : Nat) : Int) == 9223372036854775808) = true := by decide
          go_enter Try.func217, Try.ntmps217
          go_wp2_with fail
          refine hS1.out.mono ?_
          rintro e w' ⟨rfl, rfl⟩
          go_wp2_with fail
          refine hS2.out.mono ?_
          rintro e w' ⟨rfl, rfl⟩
          go_wp2_with fail
          refine hM.out.mono ?_
          rintro e w' ⟨rfl, rfl⟩
          go_wp2_with fail
          go_ret2
          refine ⟨_, true, rfl, .inl ⟨rfl, ?_, ?_, ?_⟩, rfl⟩ <;> first | omega | (rw [IntKind.wrap_u64]; unfold wrap64; omega)
        · have d1 : decide ((9223372036854775808 : Int) < (L : Int)) = true := by rw [decide_eq_true_eq]; omega
          go_enter Try.func217, Try.ntmps217
          go_wp2_with fail
          refine hS1.out.mono ?_
          rintro e w' ⟨rfl, rfl⟩
          go_wp2_with fail
          refine hS2.out.mono ?_
          rintro e w' ⟨rfl, rfl⟩
          go_wp2_with fail
          refine hM.out.mono ?_
          rintro e w' ⟨rfl, rfl⟩
          go_wp2_with fail
          go_ret2
          exact ⟨_, _, rfl, .inr ⟨rfl, by omega⟩, rfl⟩
    · skip
      have da : decide (a < 0) = false := by rw [decide_eq_false_iff_not]; omega
      have db : decide (b < 0) = true := by rw [decide_eq_true_eq]; omega
      have hm := K2.out (by simp only [eq_iff_iff]; omega)
      by_cases hL : L ≤ 9223372036854775807
      · have d1 : decide ((9223372036854775808 : Int) < (L : Int)) = false := by rw [decide_eq_false_iff_not]; omega
        have d2 : ((L : Int) == 9223372036854775808) = false := by rw [beq_eq_false_iff_ne]; omega
        go_enter Try.func217, Try.ntmps217
        go_wp2_with fail
        refine hS1.out.mono ?_
        rintro e w' ⟨rfl, rfl⟩
        go_wp2_with fail
        refine hS2.out.mono ?_
        rintro e w' ⟨rfl, rfl⟩
        go_wp2_with fail
        refine hM.out.mono ?_
        rintro e w' ⟨rfl, rfl⟩
        go_wp2_with fail
        go_ret2
        refine ⟨_, true, rfl, .inl ⟨rfl, ?_, ?_, ?_⟩, rfl⟩ <;> first | omega | (simp only [IntKind.wrap_u64]; unfold wrap64; omega)
      · by_cases hL2 : L = 9223372036854775808
        · subst hL2
          have d1 : decide ((9223372036854775808 : Int) < ((9223372036854775808 : Nat) : Int)) = false := by decide
          have d2 : (((9223372036854775808 : Nat) : Int) == 9223372036854775808) = true := by decide
          go_enter Try.func217, Try.ntmps217
          go_wp2_with fail
          refine hS1.out.mono ?_
          rintro e w' ⟨rfl, rfl⟩
          go_wp2_with fail
          refine hS2.out.mono ?_
          rintro e w' ⟨rfl, rfl⟩
          go_wp2_with fail
          refine hM.out.mono ?_
          rintro e w' ⟨rfl, rfl⟩
          go_wp2_with fail
          go_ret2
          refine ⟨_, true, rfl, .inl ⟨rfl, ?_, ?_, ?_⟩, rfl⟩ <;> first | omega | (rw [IntKind.wrap_u64]; unfold wrap64; omega)
        · have d1 : decide ((9223372036854775808 : Int) < (L : Int)) = true := by rw [decide_eq_true_eq]; omega
          go_enter Try.func217, Try.ntmps217
          go_wp2_with fail
          refine hS1.out.mono ?_
          rintro e w' ⟨rfl, rfl⟩
          go_wp2_with fail
          refine hS2.out.mono ?_
          rintro e w' ⟨rfl, rfl⟩
          go_wp2_with fail
          refine hM.out.mono ?_
          rintro e w' ⟨rfl, rfl⟩
          go_wp2_with fail
          go_ret2
          exact ⟨_, _, rfl, .inr ⟨rfl, by omega⟩, rfl⟩
    · skip
      have da : decide (a < 0) = false := by rw [decide_eq_false_iff_not]; omega
      have db : decide (b < 0) = false := by rw [decide_eq_false_iff_not]; omega
      have hm := K1.out (by simp only [eq_iff_iff]; omega)
      by_cases hL : L ≤ 9223372036854775807
      · have d1 : decide ((9223372036854775808 : Int) < (L : Int)) = false := by rw [decide_eq_false_iff_not]; omega
        have d2 : ((L : Int) == 9223372036854775808) = false := by rw [beq_eq_false_iff_ne]; omega
        go_enter Try.func217, Try.ntmps217
        go_wp2_with fail
        refine hS1.out.mono ?_
        rintro e w' ⟨rfl, rfl⟩
        go_wp2_with fail
        refine hS2.out.mono ?_
        rintro e w' ⟨rfl, rfl⟩
        go_wp2_with fail
        refine hM.out.mono ?_
        rintro e w' ⟨rfl, rfl⟩
        go_wp2_with fail
        go_ret2
        refine ⟨_, true, rfl, .inl ⟨rfl, ?_, ?_, ?_⟩, rfl⟩ <;> first | omega | (simp [wrap64]; omega)
      · by_cases hL2 : L = 9223372036854775808
        · subst hL2
          have d1 : decide ((9223372036854775808 : Int) < ((9223372036854775808 : Nat) : Int)) = false := by decide
          have d2 : (((9223372036854775808 : Nat) : Int) == 9223372036854775808) = true := by decide
          go_enter Try.func217, Try.ntmps217
          go_wp2_with fail
          refine hS1.out.mono ?_
          rintro e w' ⟨rfl, rfl⟩
          go_wp2_with fail
          refine hS2.out.mono ?_
          rintro e w' ⟨rfl, rfl⟩
          go_wp2_with fail
          refine hM.out.mono ?_
          rintro e w' ⟨rfl, rfl⟩
          go_wp2_with fail
          go_ret2
          exact ⟨_, _, rfl, .inr ⟨rfl, by omega⟩, rfl⟩
        · have d1 : decide ((9223372036854775808 : Int) < (L : Int)) = true := by rw [decide_eq_true_eq]; omega
          go_enter Try.func217, Try.ntmps217
          go_wp2_with fail
          refine hS1.out.mono ?_
          rintro e w' ⟨rfl, rfl⟩
          go_wp2_with fail
          refine hS2.out.mono ?_
          rintro e w' ⟨rfl, rfl⟩
          go_wp2_with fail
          refine hM.out.mono ?_
          rintro e w' ⟨rfl, rfl⟩
          go_wp2_with fail
          go_ret2
          exact ⟨_, _, rfl, .inr ⟨rfl, by omega⟩, rfl⟩
  · have e1 : ((H : Int) != 0) = true := by rw [bne_iff_ne]; omega
    have e1' : ((H : Int) == 0) = false := by rw [beq_eq_false_iff_ne]; omega
    have hbig : m < -9223372036854775808 ∨ 9223372036854775807 < m := by
      by_cases h : (a < 0) = (b < 0)
      · have := K1.out h; omega
      · have := K2.out h; omega
    clear h1
    go_enter Try.func217, Try.ntmps217
    go_wp2_with fail
    refine hS1.out.mono ?_
    rintro e w' ⟨rfl, rfl⟩
    go_wp2_with fail
    refine hS2.out.mono ?_
    rintro e w' ⟨rfl, rfl⟩
    go_wp2_with fail
    refine hM.out.mono ?_
    rintro e w' ⟨rfl, rfl⟩
    go_wp2_with fail
    go_ret2
    exact ⟨_, _, rfl, .inr ⟨rfl, hbig⟩, rfl⟩
end Go.Proofs.Ytgecmooedhnenaa
