/- Texts of this claim, put together: Base, At, Times, Shape, FixP, FixA, FixB, FixC, Core, Fin, Elems, Open, Rdr, Cv, Cw, KnB, KnC, KnD, GdN, JnO, JnA, JnB, JnC, JnD. No condition. -/
import Derived.OwnWalk
import Derived.Test.YtgimdjfbnbkpgaaProg
import Derived.WalkKit
import Derived.Below
import Derived.LoopTactic
import Derived.RegionTactic
import Derived.ChangeAlike
import Derived.BigRegion
import Derived.Deep.QuietTactic
import Derived.BigQuiet
import Derived.Lib.Hide
import Derived.WalkSpells
import Derived.WalkLawsBesides
import Derived.WalkSmall
import Derived.Laws.BytesString
import Derived.Laws.IdiomStrings
import Derived.Laws.BitsAllLaws
import Derived.Laws.AppendOwnNone
import Derived.PlainAid
import Derived.Laws.Tables
import Derived.Laws.CopyOwn
import Derived.Deep.WholeRow
import Derived.Laws.ResultCell
import Derived.Shelf.Bits.Mul64
import Derived.Handy
import Derived.ScopeJumps
import Derived.Deep.Slices
import Derived.ProofKit
import Derived.OpenShut
import Derived.ShutString
import Derived.ChangeOld
import Derived.Test.YtgimdjfbnbkpgaaJoinTurnedG2
set_option linter.unusedVariables false
set_option linter.unusedSimpArgs false
set_option linter.unnecessarySimpa false
/- Words that all texts of this seat share: a slice that reads as a list of values, and how that reading is kept. No condition. -/
namespace Go.Proofs.Ytgimdjfbnbkpgaa
open Go.RowKit

theorem ret_int {k : IntKind} {a b : Int} (h : a = b) : Ending.returned (.int k a) = .returned (.int k b) := by rw [h]
/-- A goal at which the walk is to stand still: 'go_wp2_with (at_builtin; refine hold ?_)', then 'refine unheld ?_'. -/
def Held (p : Prop) : Prop := p
theorem hold {p : Prop} (h : Held p) : p := h
theorem unheld {p : Prop} (h : p) : Held p := h

theorem add_off (b off j : Nat) : (⟨b, off, none⟩ : Addr).add j = ⟨b, off + j, none⟩ := by unfold Addr.add; split <;> simp_all

theorem wf_i64 {n : Int} (h : (Lit.int .i64 n).wf = true) : -9223372036854775808 ≤ n ∧ n ≤ 9223372036854775807 := by
  simp only [Lit.wf, IntKind.min, IntKind.max, IntKind.signed, IntKind.bits, Bool.and_eq_true, decide_eq_true_eq] at h; simp at h; omega
theorem wf_i32 {n : Int} (h : (Lit.int .i32 n).wf = true) : -2147483648 ≤ n ∧ n ≤ 2147483647 := by
  simp only [Lit.wf, IntKind.min, IntKind.max, IntKind.signed, IntKind.bits, Bool.and_eq_true] at h; simp at h; omega
theorem wf_i8 {n : Int} (h : (Lit.int .i8 n).wf = true) : -128 ≤ n ∧ n ≤ 127 := by
  simp only [Lit.wf, IntKind.min, IntKind.max, IntKind.signed, IntKind.bits, Bool.and_eq_true] at h; simp at h; omega

end Go.Proofs.Ytgimdjfbnbkpgaa

/- A block whose cells are all known. No condition. -/
namespace Go.Proofs.Ytgimdjfbnbkpgaa
open Go.RowKit

/-- Block g holds the cells cs, of type t, none of them frozen. -/
def At (w : World) (g : Nat) (t : TypeId) (cs : Array Value) : Prop := w.heap[g]? = some (.cells cs t (0, 0))

theorem At.cell {w : World} {g : Nat} {t : TypeId} {cs : Array Value} (h : At w g t cs) (i : Nat) : w.cell? ⟨g, i, none⟩ = cs[i]? := by
  unfold At at h; simp [World.cell?, h]
theorem At.new (w : World) (t : TypeId) (cs : Array Value) : At (w.alloc (.cells cs t)) w.heap.size t cs := by
  show (w.heap.push _)[w.heap.size]? = _
  simp
end Go.Proofs.Ytgimdjfbnbkpgaa

/- Products that fit, and how many numbers a shape has. No condition. -/
namespace Go.Proofs.Ytgimdjfbnbkpgaa
open Go.RowKit

set_option maxHeartbeats 1000000 in
theorem mul64_any (x y : Nat) (hx : x < 18446744073709551616) (hy : y < 18446744073709551616) (w : World) :
    Calls Try.prog 77 #[.int .u64 x, .int .u64 y] w fun e w' => e = .returned (.tuple #[.int .u64 ((x * y / 18446744073709551616 : Nat) : Int), .int .u64 ((x * y % 18446744073709551616 : Nat) : Int)]) ∧ w' = w := by
  obtain ⟨bd, bt, bw, hhi⟩ := Lib.mul64_hi x y hx hy
  have ba := Lib.half_mul_le (a := x / 4294967296) (b := y / 4294967296) (by omega) (by omega)
  have bb := Lib.half_mul_le (a := x / 4294967296) (b := y % 4294967296) (by omega) (by omega)
  have bc := Lib.half_mul_le (a := x % 4294967296) (b := y / 4294967296) (by omega) (by omega)
  have ba' : x / 4294967296 * (y / 4294967296) < 18446744073709551616 := by omega
  have bb' : x / 4294967296 * (y % 4294967296) < 18446744073709551616 := by omega
  have bc' : x % 4294967296 * (y / 4294967296) < 18446744073709551616 := by omega
  have bh1 : x / 4294967296 * (y / 4294967296) + (x / 4294967296 * (y % 4294967296) + x % 4294967296 * (y % 4294967296) / 4294967296) / 4294967296 < 18446744073709551616 := by omega
  have bh : x / 4294967296 * (y / 4294967296) + (x / 4294967296 * (y % 4294967296) + x % 4294967296 * (y % 4294967296) / 4294967296) / 4294967296 + ((x / 4294967296 * (y % 4294967296) + x % 4294967296 * (y % 4294967296) / 4294967296) % 4294967296 + x % 4294967296 * (y / 4294967296)) / 4294967296 < 18446744073709551616 := by omega
  go_enter Try.func77, Try.ntmps77
  go_wp2
  simp only [Mul64.maskN x hx, Mul64.maskN y hy, Mul64.divN, Mul64.mulN, Mul64.addN, Mul64.wrapN _ bd, Mul64.wrapN _ bb', Mul64.wrapN _ bt, Mul64.maskN _ bt, Mul64.wrapN _ bc', Mul64.wrapN _ bw, Mul64.wrapN _ ba', Mul64.wrapN _ bh1, Mul64.wrapN _ bh, Mul64.wrapM (x * y)]
  rw [hhi]
  go_ret2
  exact ⟨rfl, rfl⟩

set_option maxHeartbeats 400000 in
theorem satSize_any (a : Int) (w : World) (a0 : -9223372036854775808 ≤ a) (a1 : a ≤ 9223372036854775807) :
    Calls Try.prog 78 #[.int .i64 a] w fun e w' => e = .returned (.int .u64 ((a.natAbs : Nat) : Int)) ∧ w = w' := by
  by_cases h : a < 0
  · go_enter Try.func78, Try.ntmps78
    go_wp2
    go_ret
    refine ⟨ret_int ?_, rfl⟩
    rw [IntKind.wrap_u64, IntKind.wrap_u64]; omega
  · have h' : 0 ≤ a := by omega
    go_enter Try.func78, Try.ntmps78
    go_wp2
    go_ret
    refine ⟨ret_int ?_, rfl⟩
    omega

theorem abs_sign (a b : Int) : (((a < 0) = (b < 0)) → a * b = ((a.natAbs * b.natAbs : Nat) : Int)) ∧ ((¬ (a < 0) = (b < 0)) → a * b = -((a.natAbs * b.natAbs : Nat) : Int)) := by
  rw [Int.natCast_mul]
  rcases Int.lt_or_le a 0 with ha | ha <;> rcases Int.lt_or_le b 0 with hb | hb
  · rw [show ((a.natAbs : Nat) : Int) = -a by omega, show ((b.natAbs : Nat) : Int) = -b by omega, Int.neg_mul_neg]
    exact ⟨fun _ => rfl, fun h => absurd (by simp [ha, hb]) h⟩
  · rw [show ((a.natAbs : Nat) : Int) = -a by omega, show ((b.natAbs : Nat) : Int) = b by omega, Int.neg_mul, Int.neg_neg]
    exact ⟨fun h => by simp [ha] at h; omega, fun _ => rfl⟩
  · rw [show ((a.natAbs : Nat) : Int) = a by omega, show ((b.natAbs : Nat) : Int) = -b by omega, Int.mul_neg, Int.neg_neg]
    exact ⟨fun h => by simp [hb] at h; omega, fun _ => rfl⟩
  · rw [show ((a.natAbs : Nat) : Int) = a by omega, show ((b.natAbs : Nat) : Int) = b by omega]
    exact ⟨fun _ => rfl, fun h => absurd (by simp [show ¬ a < 0 by omega, show ¬ b < 0 by omega]) h⟩

set_option maxHeartbeats 1600000 in
set_option maxRecDepth 100000 in
theorem times_any (a b : Int) (w : World) (a0 : -9223372036854775808 ≤ a) (a1 : a ≤ 9223372036854775807) (b0 : -9223372036854775808 ≤ b) (b1 : b ≤ 9223372036854775807) :
    Calls Try.prog 63 #[.int .i64 a, .int .i64 b] w fun e w' => ∃ q r, e = .returned (.tuple #[.int .i64 q, .bool r]) ∧ ((r = true ∧ q = a * b ∧ -9223372036854775808 ≤ a * b ∧ a * b ≤ 9223372036854775807) ∨ (r = false ∧ (a * b < -9223372036854775808 ∨ 9223372036854775807 < a * b))) ∧ w = w' := by
  obtain ⟨hs1, hs2⟩ := abs_sign a b
  obtain ⟨x, hx⟩ : ∃ x, x = a.natAbs := ⟨_, rfl⟩
  obtain ⟨y, hy⟩ : ∃ y, y = b.natAbs := ⟨_, rfl⟩
  have hxb : x < 18446744073709551616 := by omega
  have hyb : y < 18446744073709551616 := by omega
  rw [← hx, ← hy] at hs1 hs2
  obtain ⟨m, hm⟩ : ∃ m, m = a * b := ⟨_, rfl⟩
  rw [← hm] at hs1 hs2 ⊢
  obtain ⟨H, hH⟩ : ∃ H, H = x * y / 18446744073709551616 := ⟨_, rfl⟩
  obtain ⟨L, hL⟩ : ∃ L, L = x * y % 18446744073709551616 := ⟨_, rfl⟩
  have hp : x * y = 18446744073709551616 * H + L := by rw [hH, hL]; exact (Nat.div_add_mod _ _).symm
  have hLb : L < 18446744073709551616 := by rw [hL]; exact Nat.mod_lt _ (by decide)
  have hM := Lib.hid (mul64_any x y hxb hyb w)
  rw [← hH, ← hL] at hM
  have hS1 := Lib.hid (satSize_any a w a0 a1)
  have hS2 := Lib.hid (satSize_any b w b0 b1)
  rw [← hx] at hS1
  rw [← hy] at hS2
  rw [hp] at hs1 hs2
  have K1 := Lib.hid hs1; have K2 := Lib.hid hs2
  clear hs1 hs2 hp hH hL hm hx hy
  by_cases h1 : H = 0
  · subst h1
    have e1 : (((0 : Nat) : Int) != 0) = false := rfl
    have e1' : (((0 : Nat) : Int) == 0) = true := rfl
    rcases Int.lt_or_le a 0 with ha | ha <;> rcases Int.lt_or_le b 0 with hb | hb
    · skip
      have da : decide (a < 0) = true := by rw [decide_eq_true_eq]; omega
      have db : decide (b < 0) = true := by rw [decide_eq_true_eq]; omega
      have hm := K1.out (by simp only [eq_iff_iff]; omega)
      by_cases hL : L ≤ 9223372036854775807
      · have d1 : decide ((9223372036854775808 : Int) < (L : Int)) = false := by rw [decide_eq_false_iff_not]; omega
        have d2 : ((L : Int) == 9223372036854775808) = false := by rw [beq_eq_false_iff_ne]; omega
        go_enter Try.func63, Try.ntmps63
        go_wp2_with fail
        refine hS1.out.mono ?_
        rintro e w' ⟨rfl, rfl⟩
        go_wp2_with fail
        refine hS2.out.mono ?_
        rintro e w' ⟨rfl, rfl⟩
        go_wp2_with fail
        refine hM.out.mono ?_
        rintro e w' ⟨rfl, rfl⟩
        go_wp2_with fail
        go_ret2
        refine ⟨_, true, rfl, .inl ⟨rfl, ?_, ?_, ?_⟩, rfl⟩ <;> first | omega | (simp [wrap64]; omega)
      · by_cases hL2 : L = 9223372036854775808
        · subst hL2
          have d1 : decide ((9223372036854775808 : Int) < ((9223372036854775808 : Nat) : Int)) = false := by decide
          have d2 : (((9223372036854775808 : Nat) : Int) == 9223372036854775808) = true := by decide
          go_enter Try.func63, Try.ntmps63
          go_wp2_with fail
          refine hS1.out.mono ?_
          rintro e w' ⟨rfl, rfl⟩
          go_wp2_with fail
          refine hS2.out.mono ?_
          rintro e w' ⟨rfl, rfl⟩
          go_wp2_with fail
          refine hM.out.mono ?_
          rintro e w' ⟨rfl, rfl⟩
          go_wp2_with fail
          go_ret2
          exact ⟨_, _, rfl, .inr ⟨rfl, by omega⟩, rfl⟩
        · have d1 : decide ((9223372036854775808 : Int) < (L : Int)) = true := by rw [decide_eq_true_eq]; omega
          go_enter Try.func63, Try.ntmps63
          go_wp2_with fail
          refine hS1.out.mono ?_
          rintro e w' ⟨rfl, rfl⟩
          go_wp2_with fail
          refine hS2.out.mono ?_
          rintro e w' ⟨rfl, rfl⟩
          go_wp2_with fail
          refine hM.out.mono ?_
          rintro e w' ⟨rfl, rfl⟩
          go_wp2_with fail
          go_ret2
          exact ⟨_, _, rfl, .inr ⟨rfl, by omega⟩, rfl⟩
    · skip
      have da : decide (a < 0) = true := by rw [decide_eq_true_eq]; omega
      have db : decide (b < 0) = false := by rw [decide_eq_false_iff_not]; omega
      have hm := K2.out (by simp only [eq_iff_iff]; omega)
      by_cases hL : L ≤ 9223372036854775807
      · have d1 : decide ((9223372036854775808 : Int) < (L : Int)) = false := by rw [decide_eq_false_iff_not]; omega
        have d2 : ((L : Int) == 9223372036854775808) = false := by rw [beq_eq_false_iff_ne]; omega
        go_enter Try.func63, Try.ntmps63
        go_wp2_with fail
        refine hS1.out.mono ?_
        rintro e w' ⟨rfl, rfl⟩
        go_wp2_with fail
        refine hS2.out.mono ?_
        rintro e w' ⟨rfl, rfl⟩
        go_wp2_with fail
        refine hM.out.mono ?_
        rintro e w' ⟨rfl, rfl⟩
        go_wp2_with fail
        go_ret2
        refine ⟨_, true, rfl, .inl ⟨rfl, ?_, ?_, ?_⟩, rfl⟩ <;> first | omega | (simp only [IntKind.wrap_u64]; unfold wrap64; omega)
      · by_cases hL2 : L = 9223372036854775808
        · subst hL2
          have d1 : decide ((9223372036854775808 : Int) < ((9223372036854775808 : Nat) : Int)) = false := by decide
          have d2 : (((9223372036854775808 : Nat) : Int) == 9223372036854775808) = true := by decide
          go_enter Try.func63, Try.ntmps63
          go_wp2_with fail
          refine hS1.out.mono ?_
          rintro e w' ⟨rfl, rfl⟩
          go_wp2_with fail
          refine hS2.out.mono ?_
          rintro e w' ⟨rfl, rfl⟩
          go_wp2_with fail
          refine hM.out.mono ?_
          rintro e w' ⟨rfl, rfl⟩
          go_wp2_with fail
          go_ret2
          refine ⟨_, true, rfl, .inl ⟨rfl, ?_, ?_, ?_⟩, rfl⟩ <;> first | omega | (rw [IntKind.wrap_u64]; unfold wrap64; omega)
        · have d1 : decide ((9223372036854775808 : Int) < (L : Int)) = true := by rw [decide_eq_true_eq]; omega
          go_enter Try.func63, Try.ntmps63
          go_wp2_with fail
          refine hS1.out.mono ?_
          rintro e w' ⟨rfl, rfl⟩
          go_wp2_with fail
          refine hS2.out.mono ?_
          rintro e w' ⟨rfl, rfl⟩
          go_wp2_with fail
          refine hM.out.mono ?_
          rintro e w' ⟨rfl, rfl⟩
          go_wp2_with fail
          go_ret2
          exact ⟨_, _, rfl, .inr ⟨rfl, by omega⟩, rfl⟩
    · skip
      have da : decide (a < 0) = false := by rw [decide_eq_false_iff_not]; omega
      have db : decide (b < 0) = true := by rw [decide_eq_true_eq]; omega
      have hm := K2.out (by simp only [eq_iff_iff]; omega)
      by_cases hL : L ≤ 9223372036854775807
      · have d1 : decide ((9223372036854775808 : Int) < (L : Int)) = false := by rw [decide_eq_false_iff_not]; omega
        have d2 : ((L : Int) == 9223372036854775808) = false := by rw [beq_eq_false_iff_ne]; omega
        go_enter Try.func63, Try.ntmps63
        go_wp2_with fail
        refine hS1.out.mono ?_
        rintro e w' ⟨rfl, rfl⟩
        go_wp2_with fail
        refine hS2.out.mono ?_
        rintro e w' ⟨rfl, rfl⟩
        go_wp2_with fail
        refine hM.out.mono ?_
        rintro e w' ⟨rfl, rfl⟩
        go_wp2_with fail
        go_ret2
        refine ⟨_, true, rfl, .inl ⟨rfl, ?_, ?_, ?_⟩, rfl⟩ <;> first | omega | (simp only [IntKind.wrap_u64]; unfold wrap64; omega)
      · by_cases hL2 : L = 9223372036854775808
        · subst hL2
          have d1 : decide ((9223372036854775808 : Int) < ((9223372036854775808 : Nat) : Int)) = false := by decide
          have d2 : (((9223372036854775808 : Nat) : Int) == 9223372036854775808) = true := by decide
          go_enter Try.func63, Try.ntmps63
          go_wp2_with fail
          refine hS1.out.mono ?_
          rintro e w' ⟨rfl, rfl⟩
          go_wp2_with fail
          refine hS2.out.mono ?_
          rintro e w' ⟨rfl, rfl⟩
          go_wp2_with fail
          refine hM.out.mono ?_
          rintro e w' ⟨rfl, rfl⟩
          go_wp2_with fail
          go_ret2
          refine ⟨_, true, rfl, .inl ⟨rfl, ?_, ?_, ?_⟩, rfl⟩ <;> first | omega | (rw [IntKind.wrap_u64]; unfold wrap64; omega)
        · have d1 : decide ((9223372036854775808 : Int) < (L : Int)) = true := by rw [decide_eq_true_eq]; omega
          go_enter Try.func63, Try.ntmps63
          go_wp2_with fail
          refine hS1.out.mono ?_
          rintro e w' ⟨rfl, rfl⟩
          go_wp2_with fail
          refine hS2.out.mono ?_
          rintro e w' ⟨rfl, rfl⟩
          go_wp2_with fail
          refine hM.out.mono ?_
          rintro e w' ⟨rfl, rfl⟩
          go_wp2_with fail
          go_ret2
          exact ⟨_, _, rfl, .inr ⟨rfl, by omega⟩, rfl⟩
    · skip
      have da : decide (a < 0) = false := by rw [decide_eq_false_iff_not]; omega
      have db : decide (b < 0) = false := by rw [decide_eq_false_iff_not]; omega
      have hm := K1.out (by simp only [eq_iff_iff]; omega)
      by_cases hL : L ≤ 9223372036854775807
      · have d1 : decide ((9223372036854775808 : Int) < (L : Int)) = false := by rw [decide_eq_false_iff_not]; omega
        have d2 : ((L : Int) == 9223372036854775808) = false := by rw [beq_eq_false_iff_ne]; omega
        go_enter Try.func63, Try.ntmps63
        go_wp2_with fail
        refine hS1.out.mono ?_
        rintro e w' ⟨rfl, rfl⟩
        go_wp2_with fail
        refine hS2.out.mono ?_
        rintro e w' ⟨rfl, rfl⟩
        go_wp2_with fail
        refine hM.out.mono ?_
        rintro e w' ⟨rfl, rfl⟩
        go_wp2_with fail
        go_ret2
        refine ⟨_, true, rfl, .inl ⟨rfl, ?_, ?_, ?_⟩, rfl⟩ <;> first | omega | (simp [wrap64]; omega)
      · by_cases hL2 : L = 9223372036854775808
        · subst hL2
          have d1 : decide ((9223372036854775808 : Int) < ((9223372036854775808 : Nat) : Int)) = false := by decide
          have d2 : (((9223372036854775808 : Nat) : Int) == 9223372036854775808) = true := by decide
          go_enter Try.func63, Try.ntmps63
          go_wp2_with fail
          refine hS1.out.mono ?_
          rintro e w' ⟨rfl, rfl⟩
          go_wp2_with fail
          refine hS2.out.mono ?_
          rintro e w' ⟨rfl, rfl⟩
          go_wp2_with fail
          refine hM.out.mono ?_
          rintro e w' ⟨rfl, rfl⟩
          go_wp2_with fail
          go_ret2
          exact ⟨_, _, rfl, .inr ⟨rfl, by omega⟩, rfl⟩
        · have d1 : decide ((9223372036854775808 : Int) < (L : Int)) = true := by rw [decide_eq_true_eq]; omega
          go_enter Try.func63, Try.ntmps63
          go_wp2_with fail
          refine hS1.out.mono ?_
          rintro e w' ⟨rfl, rfl⟩
          go_wp2_with fail
          refine hS2.out.mono ?_
          rintro e w' ⟨rfl, rfl⟩
          go_wp2_with fail
          refine hM.out.mono ?_
          rintro e w' ⟨rfl, rfl⟩
          go_wp2_with fail
          go_ret2
          exact ⟨_, _, rfl, .inr ⟨rfl, by omega⟩, rfl⟩
  · have e1 : ((H : Int) != 0) = true := by rw [bne_iff_ne]; omega
    have e1' : ((H : Int) == 0) = false := by rw [beq_eq_false_iff_ne]; omega
    have hbig : m < -9223372036854775808 ∨ 9223372036854775807 < m := by
      by_cases h : (a < 0) = (b < 0)
      · have := K1.out h; omega
      · have := K2.out h; omega
    clear h1
    go_enter Try.func63, Try.ntmps63
    go_wp2_with fail
    refine hS1.out.mono ?_
    rintro e w' ⟨rfl, rfl⟩
    go_wp2_with fail
    refine hS2.out.mono ?_
    rintro e w' ⟨rfl, rfl⟩
    go_wp2_with fail
    refine hM.out.mono ?_
    rintro e w' ⟨rfl, rfl⟩
    go_wp2_with fail
    go_ret2
    exact ⟨_, _, rfl, .inr ⟨rfl, hbig⟩, rfl⟩
end Go.Proofs.Ytgimdjfbnbkpgaa

/- How many numbers a shape has, by the program and by the document. No condition. -/
namespace Go.Proofs.Ytgimdjfbnbkpgaa
open Go.RowKit

/-- How many numbers a shape has; 0: it may not be. -/
def elems (h w c : Int) : Int := if 1 ≤ h ∧ h ≤ 16 ∧ 1 ≤ w ∧ w ≤ 16 ∧ 1 ≤ c ∧ c ≤ 1024 ∧ h * w * c ≤ 1024 then h * w * c else 0
/-- A product step by step: 1 ≤ side, and never above 1024. -/
def prodTo : List Int → Int → Option Int
  | [], n => some n
  | x :: l, n => if 1 ≤ x ∧ n * x ≤ 1024 then prodTo l (n * x) else none
theorem prodTo_elems (h w c : Int) (h16 : h ≤ 16) (w16 : w ≤ 16) : (prodTo [h, w, c] 1).getD 0 = elems h w c := by
  unfold elems
  simp only [prodTo, Int.one_mul]
  by_cases h1 : 1 ≤ h
  · by_cases w1 : 1 ≤ w
    · by_cases c1 : 1 ≤ c
      · have p1 : 1 ≤ h * w := by have := Int.mul_le_mul h1 w1 (by omega) (by omega); simpa using this
        have p2 : c ≤ h * w * c := by have := Int.mul_le_mul_of_nonneg_right p1 (show 0 ≤ c by omega); simpa using this
        have p3 : h * w ≤ h * w * c := by have := Int.mul_le_mul_of_nonneg_left c1 (show 0 ≤ h * w by omega); simpa using this
        by_cases hp : h * w * c ≤ 1024
        · rw [if_pos ⟨h1, by omega⟩, if_pos ⟨w1, by omega⟩, if_pos ⟨c1, hp⟩, if_pos ⟨h1, h16, w1, w16, c1, by omega, hp⟩]; rfl
        · rw [if_neg (c := 1 ≤ h ∧ h ≤ 16 ∧ _) (fun x => hp x.2.2.2.2.2.2)]
          split
          · split
            · rw [if_neg (fun x => hp x.2)]; rfl
            · rfl
          · rfl
      · rw [if_neg (c := 1 ≤ h ∧ h ≤ 16 ∧ _) (fun x => c1 x.2.2.2.2.1)]
        split
        · split
          · rw [if_neg (fun x => c1 x.1)]; rfl
          · rfl
        · rfl
    · rw [if_neg (c := 1 ≤ h ∧ h ≤ 16 ∧ _) (fun x => w1 x.2.2.1)]
      split
      · rw [if_neg (fun x => w1 x.1)]; rfl
      · rfl
  · rw [if_neg (c := 1 ≤ h ∧ h ≤ 16 ∧ _) (fun x => h1 x.1), if_neg (fun x => h1 x.1)]; rfl

set_option maxHeartbeats 1600000 in
set_option maxRecDepth 100000 in
theorem product_any (x y z : Int) (w : World) (x0 : -9223372036854775808 ≤ x) (x1 : x ≤ 9223372036854775807) (y0 : -9223372036854775808 ≤ y) (y1 : y ≤ 9223372036854775807) (z0 : -9223372036854775808 ≤ z) (z1 : z ≤ 9223372036854775807) :
    Calls Try.prog 52 #[.agg #[.int .i64 x, .int .i64 y, .int .i64 z]] w fun e w' => e = .returned (.int .i64 ((prodTo [x, y, z] 1).getD 0)) ∧ Below w.heap.size w w' := by
  go_enter Try.func52, Try.ntmps52
  go_wp2_with fail
  obtain ⟨w1, hw1⟩ : ∃ w1, w1 = w.alloc (.cells #[.int .i64 x, .int .i64 y, .int .i64 z] 99) := ⟨_, rfl⟩
  have ha := At.new w 99 #[.int .i64 x, .int .i64 y, .int .i64 z]
  have hb1 : Below w.heap.size w w1 := by rw [hw1]; exact (Below.refl _ _).alloc (Nat.le_refl _) _
  rw [← hw1] at ha ⊢
  clear hw1
  go_loop [2, 3, 4, 5, 6, 7] (fun r n _ _ _ i => ∃ (k : Nat) (N : Int), r = .int .i64 0 ∧ i = .int .i64 k ∧ k ≤ 3 ∧ n = .int .i64 N ∧ 1 ≤ N ∧ N ≤ 1024 ∧ prodTo ([x, y, z].drop k) N = prodTo [x, y, z] 1) (fun _ _ _ _ _ i => 3 - (intOf i).toNat)
  case atStart => exact ⟨0, 1, rfl, rfl, by omega, rfl, by omega, by omega, rfl⟩
  case round =>
    obtain ⟨k, N, rfl, rfl, hk, rfl, N0, N1, hp⟩ := hrel
    by_cases hlt : k < 3
    · obtain ⟨v, hv, v0, v1, hd⟩ : ∃ v, w1.cell? ⟨w.heap.size, k, none⟩ = some (.int .i64 v) ∧ -9223372036854775808 ≤ v ∧ v ≤ 9223372036854775807 ∧ [x, y, z].drop k = v :: [x, y, z].drop (k + 1) := by
        match k, hlt with
        | 0, _ => exact ⟨x, ha.cell 0, x0, x1, rfl⟩
        | 1, _ => exact ⟨y, ha.cell 1, y0, y1, rfl⟩
        | 2, _ => exact ⟨z, ha.cell 2, z0, z1, rfl⟩
      rw [hd] at hp
      have HP := Lib.hid hp
      have kk0 : (0 : Int) ≤ (k : Int) := by omega
      have kk1 : (k : Int) < 3 := by omega
      clear hp hd
      go_wp2_with fail
      refine (times_any N v _ (by omega) (by omega) v0 v1).mono ?_
      rintro e w' ⟨q, r, rfl, hqr, rfl⟩
      rcases hqr with ⟨rfl, rfl, q0, q1⟩ | ⟨rfl, hq⟩
      · by_cases hv1 : v < 1
        · have HN : Hid ((prodTo [x, y, z] 1).getD 0 = 0) := by
            refine Lib.hid ?_
            rw [← HP.out]; simp only [prodTo]; rw [if_neg (by omega)]; rfl
          go_wp2_with fail
          go_ret
          exact ⟨by rw [HN.out]; rfl, hb1⟩
        · by_cases hb : 1024 < N * v
          · have HN : Hid ((prodTo [x, y, z] 1).getD 0 = 0) := by
              refine Lib.hid ?_
              rw [← HP.out]; simp only [prodTo]; rw [if_neg (by omega)]; rfl
            go_wp2_with fail
            go_ret
            exact ⟨by rw [HN.out]; rfl, hb1⟩
          · have hpos : 1 ≤ N * v := by have := Int.mul_le_mul N0 (show 1 ≤ v by omega) (by omega) (by omega); simpa using this
            go_wp2_with fail
            go_round
            case rel => exact ⟨k + 1, N * v, rfl, by go_num, by omega, rfl, hpos, by omega, by rw [← HP.out]; simp only [prodTo]; rw [if_pos (by omega)]⟩
            case measure => simp [intOf]; omega
      · have HN : Hid ((prodTo [x, y, z] 1).getD 0 = 0) := by
          refine Lib.hid ?_
          rw [← HP.out]; simp only [prodTo]; rw [if_neg ?_]; rfl
          intro hh
          have : 0 ≤ N * v := Int.mul_nonneg (by omega) (by omega)
          omega
        go_wp2_with fail
        go_ret
        exact ⟨by rw [HN.out]; rfl, hb1⟩
    · obtain rfl : k = 3 := by omega
      have hp' : some N = prodTo [x, y, z] 1 := hp
      have HN : Hid ((prodTo [x, y, z] 1).getD 0 = N) := by refine Lib.hid ?_; rw [← hp']; rfl
      clear hp hp'
      go_wp2_with fail
      go_ret
      exact ⟨by rw [HN.out]; rfl, hb1⟩

set_option maxHeartbeats 800000 in
set_option maxRecDepth 100000 in
theorem elems_any (h x c : Int) (w : World) (h0 : -9223372036854775808 ≤ h) (h1 : h ≤ 9223372036854775807) (x0 : -9223372036854775808 ≤ x) (x1 : x ≤ 9223372036854775807) (c0 : -9223372036854775808 ≤ c) (c1 : c ≤ 9223372036854775807) :
    Calls Try.prog 37 #[.agg #[.int .i64 h, .int .i64 x, .int .i64 c]] w fun e w' => e = .returned (.int .i64 (elems h x c)) ∧ Below w.heap.size w w' := by
  by_cases hh : 16 < h
  · have HE : Hid (elems h x c = 0) := by refine Lib.hid ?_; unfold elems; rw [if_neg (by omega)]
    go_enter Try.func37, Try.ntmps37
    go_wp2
    go_ret
    exact ⟨by rw [HE.out]; rfl, (Below.refl _ _).alloc (Nat.le_refl _) _⟩
  · by_cases hx : 16 < x
    · have HE : Hid (elems h x c = 0) := by refine Lib.hid ?_; unfold elems; rw [if_neg (by omega)]
      go_enter Try.func37, Try.ntmps37
      go_wp2
      go_ret
      exact ⟨by rw [HE.out]; rfl, (Below.refl _ _).alloc (Nat.le_refl _) _⟩
    · have HE := Lib.hid (prodTo_elems h x c (by omega) (by omega))
      go_enter Try.func37, Try.ntmps37
      go_wp2_with fail
      refine (product_any h x c _ h0 h1 x0 x1 c0 c1).mono ?_
      rintro e w' ⟨rfl, hb⟩
      rw [HE.out]
      go_wp2
      go_ret
      exact ⟨rfl, ((Below.refl _ _).alloc (Nat.le_refl _) _).trans (hb.mono (by simp))⟩

end Go.Proofs.Ytgimdjfbnbkpgaa

/- Plain laws of numbers by powers of two, rounded to the nearest, halves away from 0. No program here. No condition. -/
namespace Go.Proofs.Ytgimdjfbnbkpgaa

/-- A number by 2 to the s, to the nearest, halves up. -/
def rn (m s : Nat) : Nat := if s = 0 then m else m / 2 ^ s + m / 2 ^ (s - 1) % 2
def rnd (v s : Int) : Int := if s < 0 ∨ 62 < s then 0 else if 0 ≤ v then (rn v.toNat s.toNat : Int) else -(rn (-v).toNat s.toNat : Int)

theorem rn_succ (m s : Nat) : rn m (s + 1) = (m / 2 ^ s + 1) / 2 := by
  unfold rn
  rw [if_neg (by omega), Nat.add_sub_cancel, Nat.pow_succ, ← Nat.div_div_eq_div_mul]
  omega
theorem rn_le (m s : Nat) : rn m s ≤ m := by
  by_cases hs : s = 0
  · subst hs; simp [rn]
  · obtain ⟨t, rfl⟩ : ∃ t, s = t + 1 := ⟨s - 1, by omega⟩
    rw [rn_succ]
    have := Nat.div_le_self m (2 ^ t)
    omega
theorem rnd_abs (v s : Int) : -(v.natAbs : Int) ≤ rnd v s ∧ rnd v s ≤ v.natAbs := by
  unfold rnd
  split
  · omega
  · split
    · have := rn_le v.toNat s.toNat; omega
    · have := rn_le (-v).toNat s.toNat; omega
theorem rnd_bd (v s : Int) (B : Int) (h1 : -B ≤ v) (h2 : v ≤ B) : -B ≤ rnd v s ∧ rnd v s ≤ B := by
  have := rnd_abs v s; omega

def clampI (v lo hi : Int) : Int := if v < lo then lo else if hi < v then hi else v
def rightQ (mult shift : Int) : Bool := decide (0 < mult) && decide (0 ≤ shift) && decide (shift ≤ 62)
end Go.Proofs.Ytgimdjfbnbkpgaa

/- Numbers by powers of two: fix.Round and the document's, fix.Scale, and numbers between two. No condition. -/
namespace Go.Proofs.Ytgimdjfbnbkpgaa
open Go.RowKit

theorem and_bit (x k : Nat) : (x &&& 2 ^ k) / 2 ^ k = x / 2 ^ k % 2 := by
  rw [Nat.and_div_two_pow, Nat.div_self (Nat.two_pow_pos k), Nat.and_one_is_mod]

set_option maxHeartbeats 400000 in
set_option maxRecDepth 100000 in
theorem satHeld_any (v lo hi : Int) (w : World) : Calls Try.prog 41 #[.int .i64 v, .int .i64 lo, .int .i64 hi] w fun e w' => e = .returned (.int .i64 (clampI v lo hi)) ∧ w = w' := by
  by_cases h1 : v < lo
  · have e : clampI v lo hi = lo := by unfold clampI; rw [if_pos h1]
    rw [e]; clear e
    go_enter Try.func41, Try.ntmps41
    go_wp2
    go_ret
    exact ⟨rfl, rfl⟩
  · by_cases h2 : hi < v
    · have e : clampI v lo hi = hi := by unfold clampI; rw [if_neg h1, if_pos h2]
      rw [e]; clear e
      go_enter Try.func41, Try.ntmps41
      go_wp2
      go_ret
      exact ⟨rfl, rfl⟩
    · have e : clampI v lo hi = v := by unfold clampI; rw [if_neg h1, if_neg h2]
      rw [e]; clear e
      go_enter Try.func41, Try.ntmps41
      go_wp2
      go_ret
      exact ⟨rfl, rfl⟩

/-- A scope with one label to which the run jumps forward, once. -/
theorem wp_scope_fwd {P : Program} {a : Act} {w : World} {Q : Exit → Act → World → Prop} {c rest : Code} (l : Nat) (hf : findLabel c l = some rest)
    (h : c.wp P (Exit.jump l (fun a w => rest.wp P (Exit.noGoto Q) a w) Q) a w) : (Code.scope c).wp P Q a w :=
  wp_scope_jumps l (fun a w => rest.wp P (Exit.noGoto Q) a w) (fun _ _ => 0) hf h fun a w hJ => wp_mono hJ fun e a w hq => by
    cases e <;> first | exact hq | exact hq.elim
theorem jump_ret {l : Nat} {J : Act → World → Prop} {Q : Exit → Act → World → Prop} : Exit.jump l J Q .ret = Q .ret := rfl

theorem rnd_pos (v s : Int) (hv : 0 ≤ v) (h0 : 0 ≤ s) (h1 : s ≤ 62) : rnd v s = (rn v.toNat s.toNat : Int) := by unfold rnd; rw [if_neg (by omega), if_pos hv]
theorem rnd_below (v s : Int) (hv : v < 0) (h0 : 0 ≤ s) (h1 : s ≤ 62) : rnd v s = -(rn (-v).toNat s.toNat : Int) := by unfold rnd; rw [if_neg (by omega), if_neg (by omega)]

theorem rn_bits (m t : Nat) (hm : m ≤ 9223372036854775808) (h1 : 1 ≤ t) (h2 : t ≤ 62) :
    (m : Int) / 2 ^ t + bits BinOp.and IntKind.u64 (m : Int) (IntKind.u64.wrap (2 ^ (t - 1))) / 2 ^ (t - 1) = (rn m t : Int) := by
  have hp : 2 ^ (t - 1) ≤ 2 ^ 62 := Nat.pow_le_pow_right (by decide) (by omega)
  generalize hH : 2 ^ (t - 1) = H at hp
  have e1 : IntKind.u64.wrap (2 ^ (t - 1)) = ((2 ^ (t - 1) : Nat) : Int) := by
    rw [show ((2 : Int) ^ (t - 1)) = ((2 ^ (t - 1) : Nat) : Int) from by simp, hH]
    exact IntWalk.u64_in _ (by omega)
  rw [e1, hH, u64_and_nat _ _ (by omega) (by omega), ← hH]
  unfold rn
  rw [if_neg (by omega), ← and_bit]
  simp

theorem u64_neg_eq (v : Int) (h0 : -9223372036854775808 ≤ v) (h1 : v < 0) : IntKind.u64.wrap (-IntKind.u64.wrap v) = (((-v).toNat : Nat) : Int) := by
  simp only [IntKind.wrap_u64]; omega
theorem back_neg (r : Nat) (h : r ≤ 9223372036854775808) : wrap64 (IntKind.u64.wrap (-(r : Int))) = -(r : Int) := by
  simp only [IntKind.wrap_u64, wrap64]; omega

set_option maxHeartbeats 400000 in
set_option maxRecDepth 100000 in
theorem round_any (v s : Int) (w : World) (h0 : -9223372036854775808 ≤ v) (h1 : v ≤ 9223372036854775807) :
    Calls Try.prog 53 #[.int .i64 v, .int .i64 s] w fun e w' => e = .returned (.int .i64 (rnd v s)) ∧ ∃ n, w' = w.drewN n := by
  by_cases hs : s < 0
  · have e : rnd v s = 0 := by unfold rnd; rw [if_pos (.inl hs)]
    rw [e]; clear e
    go_enter Try.func53, Try.ntmps53
    go_wp2
    refine wp_scope_fwd 0 rfl ?_
    go_wp2
    (try rw [jump_ret])
    go_ret
    exact ⟨rfl, 0, rfl⟩
  · by_cases hs2 : 62 < s
    · have e : rnd v s = 0 := by unfold rnd; rw [if_pos (.inr hs2)]
      rw [e]; clear e
      go_enter Try.func53, Try.ntmps53
      go_wp2
      refine wp_scope_fwd 0 rfl ?_
      go_wp2
      (try rw [jump_ret])
      go_ret
      exact ⟨rfl, 0, rfl⟩
    · by_cases hv : 0 ≤ v
      · by_cases hs0 : s = 0
        · subst hs0
          go_enter Try.func53, Try.ntmps53
          go_wp2
          refine wp_scope_fwd 0 rfl ?_
          go_wp2
          go_step3
          refine ⟨rfl, ?_⟩
          go_wp2
          (try rw [Exit.noGoto_ret])
          go_ret
          refine ⟨ret_int ?_, 0, rfl⟩
          rw [rnd_pos v 0 hv (by omega) (by omega)]; simp [rn]; omega
        · have hs1 : 1 ≤ s := by omega
          go_enter Try.func53, Try.ntmps53
          go_wp2
          refine wp_scope_fwd 0 rfl ?_
          go_wp2
          go_step3
          refine ⟨rfl, ?_⟩
          go_wp2
          go_quiet (fail)
          go_wp2
          (try rw [Exit.noGoto_ret])
          go_ret
          refine ⟨?_, nq, rfl⟩
          rw [rnd_pos v s hv (by omega) (by omega)]
          obtain ⟨m, rfl⟩ := Int.eq_ofNat_of_zero_le hv
          have e := rn_bits m s.toNat (by omega) (by omega) (by omega)
          have hle := rn_le m s.toNat
          exact ret_int (by rw [e, Int.toNat_natCast, IntWalk.u64_in ((rn m s.toNat : Nat) : Int) ⟨by omega, by omega⟩, IntWalk.wrap64_in _ ⟨by omega, by omega⟩])
      · by_cases hs0 : s = 0
        · subst hs0
          go_enter Try.func53, Try.ntmps53
          go_wp2
          refine wp_scope_fwd 0 rfl ?_
          go_wp2
          go_step3
          go_wp2
          (try rw [jump_ret])
          go_ret
          refine ⟨?_, 0, rfl⟩
          rw [rnd_below v 0 (by omega) (by omega) (by omega)]
          exact ret_int (by rw [u64_neg_eq v h0 (by omega), back_neg _ (by omega)]; simp [rn])
        · have hs1 : 1 ≤ s := by omega
          go_enter Try.func53, Try.ntmps53
          go_wp2
          refine wp_scope_fwd 0 rfl ?_
          go_wp2
          go_step3
          go_wp2
          go_quiet (fail)
          go_wp2
          (try rw [jump_ret])
          go_ret
          refine ⟨?_, nq, rfl⟩
          rw [rnd_below v s (by omega) (by omega) (by omega)]
          have e := rn_bits (-v).toNat s.toNat (by omega) (by omega) (by omega)
          have hle := rn_le (-v).toNat s.toNat
          exact ret_int (by rw [u64_neg_eq v h0 (by omega), e, IntWalk.u64_in ((rn (-v).toNat s.toNat : Nat) : Int) ⟨by omega, by omega⟩, back_neg _ (by omega)])
end Go.Proofs.Ytgimdjfbnbkpgaa

/- The document's Round; fix.Scale; whether a scale may be. No condition. -/
namespace Go.Proofs.Ytgimdjfbnbkpgaa
open Go.RowKit

set_option maxHeartbeats 400000 in
set_option maxRecDepth 100000 in
theorem scale_any (a m s : Int) (w : World) (a0 : -2147483648 ≤ a) (a1 : a ≤ 2147483647) (m0 : -2147483648 ≤ m) (m1 : m ≤ 2147483647) :
    Calls Try.prog 42 #[.int .i32 a, .int .i32 m, .int .i64 s] w fun e w' => e = .returned (.int .i64 (rnd (a * m) s)) ∧ ∃ n, w' = w.drewN n := by
  have hb : -4611686018427387904 ≤ a * m ∧ a * m ≤ 4611686018427387904 := by
    constructor
    · have h1 : (a.natAbs * m.natAbs : Nat) ≤ 2147483648 * 2147483648 := Nat.mul_le_mul (by omega) (by omega)
      have := Int.natAbs_mul a m
      omega
    · have h1 : (a.natAbs * m.natAbs : Nat) ≤ 2147483648 * 2147483648 := Nat.mul_le_mul (by omega) (by omega)
      have := Int.natAbs_mul a m
      omega
  obtain ⟨b0, b1⟩ := hb
  go_enter Try.func42, Try.ntmps42
  go_wp2_with fail
  refine (round_any _ _ _ (by omega) (by omega)).mono ?_
  rintro e w1 ⟨rfl, n, rfl⟩
  go_wp2
  go_ret
  exact ⟨rfl, n, rfl⟩

set_option maxHeartbeats 400000 in
set_option maxRecDepth 100000 in
theorem clamp_any (v lo hi : Int) (w : World) (l0 : -128 ≤ lo) (l1 : lo ≤ 127) (k0 : -128 ≤ hi) (k1 : hi ≤ 127) :
    Calls Try.prog 29 #[.int .i64 v, .int .i8 lo, .int .i8 hi] w fun e w' => e = .returned (.int .i8 (clampI v lo hi)) ∧ w = w' := by
  have hb : -128 ≤ clampI v lo hi ∧ clampI v lo hi ≤ 127 := by unfold clampI; split <;> (try split) <;> omega
  obtain ⟨b0, b1⟩ := hb
  go_enter Try.func29, Try.ntmps29
  go_wp2_with fail
  refine (satHeld_any _ _ _ _).mono ?_
  rintro e w1 ⟨rfl, rfl⟩
  go_wp2
  go_ret
  exact ⟨rfl, rfl⟩
end Go.Proofs.Ytgimdjfbnbkpgaa

/- Whether a scale may be; a sum as a number between two (fix.Held, fix.Put, the document's Held); known of chapter 2. No condition. -/
namespace Go.Proofs.Ytgimdjfbnbkpgaa
open Go.RowKit

set_option maxHeartbeats 400000 in
set_option maxRecDepth 100000 in
theorem right_any (m s z : Int) (w : World) : Calls Try.prog 39 #[.agg #[.int .i32 m, .int .i64 s, .int .i8 z]] w fun e w' => e = .returned (.bool (rightQ m s)) ∧ Below w.heap.size w w' := by
  by_cases h1 : 0 < m
  · by_cases h2 : 0 ≤ s
    · by_cases h3 : s ≤ 62
      · have e : rightQ m s = true := by unfold rightQ; simp [h1, h2, h3]
        rw [e]; clear e
        go_enter Try.func39, Try.ntmps39
        go_wp2
        go_ret
        exact ⟨rfl, (Below.refl _ _).alloc (Nat.le_refl _) _⟩
      · have e : rightQ m s = false := by unfold rightQ; simp [h3]
        rw [e]; clear e
        go_enter Try.func39, Try.ntmps39
        go_wp2
        go_ret
        exact ⟨rfl, (Below.refl _ _).alloc (Nat.le_refl _) _⟩
    · have e : rightQ m s = false := by unfold rightQ; simp [h2]
      rw [e]; clear e
      go_enter Try.func39, Try.ntmps39
      go_wp2
      go_ret
      exact ⟨rfl, (Below.refl _ _).alloc (Nat.le_refl _) _⟩
  · have e : rightQ m s = false := by unfold rightQ; simp [h1]
    rw [e]; clear e
    go_enter Try.func39, Try.ntmps39
    go_wp2
    go_ret
    exact ⟨rfl, (Below.refl _ _).alloc (Nat.le_refl _) _⟩

end Go.Proofs.Ytgimdjfbnbkpgaa

/- Scalar functions in the words of values; tensors and nodes. No condition. -/
namespace Go.Proofs.Ytgimdjfbnbkpgaa
open Go.RowKit

/-- A tensor's sides and its numbers. -/
structure Ten where
  h : Int
  x : Int
  c : Int
  d : List Int
abbrev In64 (n : Int) : Prop := -9223372036854775808 ≤ n ∧ n ≤ 9223372036854775807
abbrev In32 (n : Int) : Prop := -2147483648 ≤ n ∧ n ≤ 2147483647
abbrev In8 (n : Int) : Prop := -128 ≤ n ∧ n ≤ 127
structure Ten.Ok (T : Ten) : Prop where
  h : In64 T.h
  x : In64 T.x
  c : In64 T.c
  d : ∀ v ∈ T.d, In8 v
abbrev ten (k : IntKind) (T : Ten) : AV := .agg [i64 T.h, i64 T.x, i64 T.c, ints k T.d]
def tenRight (T : Ten) : Bool := decide (0 < elems T.h T.x T.c) && decide (elems T.h T.x T.c = (T.d.length : Int))

structure Nod where
  kd : Int
  na : Int
  nb : Int
  nk : Int
  ns : Int
  np : Int
  no : Int
  za : Int
  zb : Int
  w : List Int
  b : List Int
  qm : Int
  qs : Int
  qz : Int
  rm : Int
  rs : Int
  rz : Int
  lo : Int
  hi : Int
abbrev nodC (n : Nod) : List AV := [i64 n.kd, i64 n.na, i64 n.nb, i64 n.nk, i64 n.ns, i64 n.np, i64 n.no, i8 n.za, i8 n.zb, ints .i8 n.w, ints .i32 n.b, i32 n.qm, i64 n.qs, i8 n.qz, i32 n.rm, i64 n.rs, i8 n.rz, i8 n.lo, i8 n.hi]
abbrev nod (n : Nod) : AV := .agg (nodC n)
structure Nod.Ok (n : Nod) : Prop where
  kd : In64 n.kd
  na : In64 n.na
  nb : In64 n.nb
  nk : In64 n.nk
  ns : In64 n.ns
  np : In64 n.np
  no : In64 n.no
  za : In8 n.za
  zb : In8 n.zb
  w : ∀ v ∈ n.w, In8 v
  b : ∀ v ∈ n.b, In32 v
  qm : In32 n.qm
  qs : In64 n.qs
  qz : In8 n.qz
  rm : In32 n.rm
  rs : In64 n.rs
  rz : In8 n.rz
  lo : In8 n.lo
  hi : In8 n.hi

theorem elems_v (h x c : Int) (hh : In64 h) (hx : In64 x) (hc : In64 c) : VC Try.prog 37 [.agg [i64 h, i64 x, i64 c]] (i64 (elems h x c)) :=
  VC.ofCalls (x := .int .i64 (elems h x c)) rfl rfl fun w => elems_any h x c w hh.1 hh.2 hx.1 hx.2 hc.1 hc.2
theorem right_v (m s z : Int) : VC Try.prog 39 [.agg [i32 m, i64 s, i8 z]] (bv (rightQ m s)) :=
  VC.ofCalls (x := .bool (rightQ m s)) rfl rfl fun w => right_any m s z w
theorem clamp_v (v lo hi : Int) (hl : In8 lo) (hh : In8 hi) : VC Try.prog 29 [i64 v, i8 lo, i8 hi] (i8 (clampI v lo hi)) :=
  VC.ofSame (x := .int .i8 (clampI v lo hi)) rfl rfl fun w => clamp_any v lo hi w hl.1 hl.2 hh.1 hh.2
theorem scale_v (a m s : Int) (ha : In32 a) (hm : In32 m) : VC Try.prog 42 [i32 a, i32 m, i64 s] (i64 (rnd (a * m) s)) :=
  VC.ofCalls (x := .int .i64 (rnd (a * m) s)) rfl rfl fun w => (scale_any a m s w ha.1 ha.2 hm.1 hm.2).mono fun _ _ ⟨he, n, hn⟩ => ⟨he, hn ▸ below_drewN (Below.refl _ _) n⟩

set_option maxRecDepth 100000 in
set_option maxHeartbeats 1000000 in
theorem tRight_y (T : Ten) (ok : T.Ok) (h0 : 0 < elems T.h T.x T.c) : VC Try.prog 24 ([ten .i8 T]) (AV.lit (Value.bool (elems T.h T.x T.c == (↑(List.map (row1 IntKind.i8) T.d).length : Int)))) := by
  refine VC.run (fn := Try.f24) Try.func24 (W := [.r [] [], .r [] [PI.callr
   (i64 (elems T.h T.x T.c))], .r [] [PI.br true, PI.br true, PI.br true, PI.br true, PI.br true, PI.br true]])
    (ob := [VC Try.prog 37
  [AV.agg [AV.lit (Value.int IntKind.i64 T.h), AV.lit (Value.int IntKind.i64 T.x), AV.lit (Value.int IntKind.i64 T.c)]]
  (AV.lit (Value.int IntKind.i64 (elems T.h T.x T.c))),
    decide (elems T.h T.x T.c > 0) = true,
    decide (elems T.h T.x T.c > 0) = true,
    decide (elems T.h T.x T.c > 0) = true,
    decide (elems T.h T.x T.c > 0) = true,
    decide (elems T.h T.x T.c > 0) = true,
    decide (elems T.h T.x T.c > 0) = true]) (by kernel_rfl) ?_
  refine ⟨?_, ?_, ?_, ?_, ?_, ?_, ?_, trivial⟩
  all_goals (first | with_reducible assumption | with_reducible exact elems_v _ _ _ ok.h ok.x ok.c | rfl | with_reducible exact WeakL.refl _ | with_reducible exact Weak.refl _ | exact IntWalk.i64_in _ (by omega) | exact IntWalk.i32_in _ (by omega) | exact IntWalk.i8_in _ (by omega) | exact decide_eq_true (by omega) | exact decide_eq_false (by omega) | exact row_get (by assumption) | omega | (simp only [beq_iff_eq, bne_iff_ne, ne_eq, beq_eq_false_iff_ne, bne_eq_false_iff_eq]; omega))

set_option maxRecDepth 100000 in
set_option maxHeartbeats 1000000 in
theorem tRight_n (T : Ten) (ok : T.Ok) (h0 : ¬ 0 < elems T.h T.x T.c) : VC Try.prog 24 ([ten .i8 T]) (AV.lit (Value.bool false)) := by
  refine VC.run (fn := Try.f24) Try.func24 (W := [.r [] [], .r [] [PI.callr
   (i64 (elems T.h T.x T.c))], .r [] [PI.br false, PI.br false, PI.br false, PI.br false, PI.br false, PI.br false]])
    (ob := [VC Try.prog 37
  [AV.agg [AV.lit (Value.int IntKind.i64 T.h), AV.lit (Value.int IntKind.i64 T.x), AV.lit (Value.int IntKind.i64 T.c)]]
  (AV.lit (Value.int IntKind.i64 (elems T.h T.x T.c))),
    decide (elems T.h T.x T.c > 0) = !true,
    decide (elems T.h T.x T.c > 0) = !true,
    decide (elems T.h T.x T.c > 0) = !true,
    decide (elems T.h T.x T.c > 0) = !true,
    decide (elems T.h T.x T.c > 0) = !true,
    decide (elems T.h T.x T.c > 0) = false]) (by kernel_rfl) ?_
  refine ⟨?_, ?_, ?_, ?_, ?_, ?_, ?_, trivial⟩
  all_goals (first | with_reducible assumption | with_reducible exact elems_v _ _ _ ok.h ok.x ok.c | rfl | with_reducible exact WeakL.refl _ | with_reducible exact Weak.refl _ | exact IntWalk.i64_in _ (by omega) | exact IntWalk.i32_in _ (by omega) | exact IntWalk.i8_in _ (by omega) | exact decide_eq_true (by omega) | exact decide_eq_false (by omega) | exact row_get (by assumption) | omega | (simp only [beq_iff_eq, bne_iff_ne, ne_eq, beq_eq_false_iff_ne, bne_eq_false_iff_eq]; omega))

theorem tenRight_y {T : Ten} (h0 : 0 < elems T.h T.x T.c) : (elems T.h T.x T.c == ((T.d.map (row1 .i8)).length : Int)) = tenRight T := by
  unfold tenRight; rw [decide_eq_true h0, List.length_map, Bool.true_and]; rfl
theorem tenRight_n {T : Ten} (h0 : ¬ 0 < elems T.h T.x T.c) : false = tenRight T := by
  unfold tenRight; rw [decide_eq_false h0]; rfl
theorem tRight_v (T : Ten) (ok : T.Ok) : VC Try.prog 24 [ten .i8 T] (bv (tenRight T)) := by
  by_cases h0 : 0 < elems T.h T.x T.c
  · rw [← tenRight_y h0]; exact tRight_y T ok h0
  · rw [← tenRight_n h0]; exact tRight_n T ok h0
end Go.Proofs.Ytgimdjfbnbkpgaa

/- From the world's words into those of values: what a law's arguments are. No condition. -/
namespace Go.Proofs.Ytgimdjfbnbkpgaa
open Go.RowKit
set_option linter.unusedSimpArgs false
set_option linter.unusedVariables false
set_option linter.unnecessarySimpa false

def RelL (w : World) (l : List AV) (vs : List Value) : Prop := vs.length = l.length ∧ ∀ (i : Nat) (c : AV) (v : Value), l[i]? = some c → vs[i]? = some v → Rel (fun _ => none) (fun _ => False) w c v
theorem RelL.nil (w : World) : RelL w [] [] := ⟨rfl, fun i c v h => by simp at h⟩
theorem RelL.cons {w : World} {c : AV} {v : Value} {l : List AV} {vs : List Value} (h : Rel (fun _ => none) (fun _ => False) w c v) (hl : RelL w l vs) : RelL w (c :: l) (v :: vs) := ⟨by simp [hl.1], fun i a b ha hb => by
  cases i with
  | zero => simp at ha hb; subst ha hb; exact h
  | succ i => exact hl.2 i a b (by simpa using ha) (by simpa using hb)⟩
theorem RelL.agg {w : World} {l : List AV} {vs : List Value} (h : RelL w l vs) : Rel (fun _ => none) (fun _ => False) w (.agg l) (.agg vs.toArray) := .agg h.1 h.2
/-- A law that holds, in the world's words. -/
theorem law_of {P : Program} {f : Nat} {args : List AV} {xs : List Value} {w : World} (h : VC P f args (bv true)) (hr : RelL w args xs) : Calls P f xs.toArray w fun e w' => e = .returned (.bool true) ∧ Below w.heap.size w w' :=
  (h (fun _ => False) w xs (fun _ h => h.elim) hr.1 hr.2).mono fun e w' ⟨x, he, hx, hb⟩ => ⟨by rw [he, rel_lit hx], hb⟩
end Go.Proofs.Ytgimdjfbnbkpgaa

/- Slices whose elements have more than one cell: how they read, and the call's own ones. No condition. -/
namespace Go.Proofs.Ytgimdjfbnbkpgaa
open Go.RowKit
set_option linter.unusedVariables false
set_option linter.unusedSimpArgs false

/-- The slice value v reads as the rows rs, each of c cells. -/
def RdN (c : Nat) (w : World) (v : Value) (rs : List (List Value)) : Prop :=
  (∀ r ∈ rs, r.length = c) ∧ ∃ ao cap, v = .slice ao rs.length cap ∧ (rs.length ≤ cap ∧ cap ≤ maxLen ∧ (ao = none → cap = 0)) ∧
    (rs ≠ [] → ∃ b off, ao = some ⟨b, off, none⟩ ∧ ∀ j r i u, rs[j]? = some r → r[i]? = some u → w.cell? ⟨b, off + j * c + i, none⟩ = some u)

theorem RdN.nil (c : Nat) (w : World) : RdN c w (.slice none 0 0) [] := ⟨by simp, none, 0, rfl, ⟨Nat.le_refl _, Nat.zero_le _, fun _ => rfl⟩, fun h => absurd rfl h⟩
end Go.Proofs.Ytgimdjfbnbkpgaa

/- What an argument's reading tells of its cells: numbers, slices of numbers, fields of structs, elements of arrays. No condition. -/
namespace Go.Proofs.Ytgimdjfbnbkpgaa
open Go.RowKit Go.ChangeShapes Go.WideShapes

section
variable {H : Type} {enc : TypeId × Value → H} {P : Program} {w : World} {sp : Nat → Bool} {held : Bool}

/-- Cells that can be read as of a type. -/
def Can {H : Type} (enc : TypeId × Value → H) (P : Program) (w : World) (sp : Nat → Bool) (held : Bool) (t : TypeId) (cs : List Value) : Prop := ∃ m x, DataW.trod enc P w 0 sp held m t cs = some x

theorem Can.of {t : TypeId} {v : Value} {d : DataW H} {p : List MemPlace} (h : DataW.Trod enc P w 0 sp held t v d p) : Can enc P w sp held t v.cells.toList := by
  obtain ⟨m, h⟩ := h; exact ⟨m, _, h⟩

theorem Can.int {t : TypeId} {k : IntKind} {c : Value} (ht : P.underlying t = some (.int k)) (h : Can enc P w sp held t [c]) : ∃ n, c = .int k n ∧ (Lit.int k n).wf = true := by
  obtain ⟨m, x, h⟩ := h
  obtain ⟨n, hc, _, hw⟩ := DataW.trod_int ht h
  exact ⟨n, by simpa using hc, hw⟩

theorem Can.fields {t : TypeId} {fs : Array Field} {cs : List Value} (ht : P.underlying t = some (.struct fs)) (h : Can enc P w sp held t cs) :
    ∀ (i : Nat) (f : Field), fs[i]? = some f → Can enc P w sp held f.type ((cs.drop f.offset).take (P.cellsOf f.type)) := by
  obtain ⟨m, x, h⟩ := h
  obtain ⟨xs, n, _, _, _, hl, hf⟩ := DataW.trod_struct ht h
  intro i f hi
  have hlt : i < xs.length := by rw [hl]; exact (Array.getElem?_eq_some_iff.1 hi).1
  exact ⟨n, xs[i], by rw [hf i f hi, List.getElem?_eq_getElem hlt]⟩

/-- A slice whose elements have c cells each. -/
theorem Can.slice {t e : TypeId} {v : Value} {c : Nat} (ht : P.underlying t = some (.slice e)) (hc : P.cellsOf e = c) (hc0 : 0 < c) (h : Can enc P w sp held t [v]) :
    ∃ rs : List (List Value), RdN c w v rs ∧ ∀ r ∈ rs, Can enc P w sp held e r := by
  obtain ⟨m0, x, h⟩ := h
  rcases Go.Deep.open_slice ht h with ⟨hcs, _⟩ | ⟨a, len, cap, m, n, D, Pl, hcs, _, hl, hm, hmm, _, hel⟩
  · simp only [List.cons.injEq, and_true] at hcs
    rw [hcs]; exact ⟨[], RdN.nil _ _, by simp⟩
  · simp only [List.cons.injEq, and_true] at hcs
    subst hcs
    have hlm : len ≤ m := by rw [hmm]; split <;> omega
    have hel' : ∀ i : Nat, ∃ r : List Value, i < len → w.cells? 0 (a.add (i * c)) c = some r ∧ Can enc P w sp held e r := by
      intro i
      by_cases hi : i < len
      · obtain ⟨cs', h1, h2⟩ := hel i (by omega)
        rw [hc] at h1
        exact ⟨cs', fun _ => ⟨h1, n, _, h2⟩⟩
      · exact ⟨[], fun h => absurd h hi⟩
    obtain ⟨R, hR⟩ : ∃ R : Nat → List Value, ∀ i, i < len → w.cells? 0 (a.add (i * c)) c = some (R i) ∧ Can enc P w sp held e (R i) := ⟨fun i => Classical.choose (hel' i), fun i => Classical.choose_spec (hel' i)⟩
    have key : ∀ i, i < len → (R i).length = c ∧ ∀ k, k < c → w.cell? ((a.add (i * c)).add k) = (R i)[k]? := by
      intro i hi
      have := World.cells?_some (hR i hi).1
      exact ⟨this.2.1, this.2.2⟩
    refine ⟨(List.range len).map R, ⟨?_, some a, cap, by simp, ⟨by simpa using hl, hm, by simp⟩, fun hne => ?_⟩, ?_⟩
    · intro r hr
      obtain ⟨i, hi, rfl⟩ := List.mem_map.1 hr
      exact (key i (List.mem_range.1 hi)).1
    · have h0 : 0 < len := by
        rcases Nat.eq_zero_or_pos len with h0 | h0
        · subst h0; simp at hne
        · exact h0
      obtain ⟨b, off, spot⟩ := a
      have g0 := (key 0 h0).2 0 hc0
      have hlt : 0 < (R 0).length := by rw [(key 0 h0).1]; exact hc0
      rw [List.getElem?_eq_getElem hlt] at g0
      have hs : spot = none := by simpa [Addr.add] using World.cell?_spot g0
      subst hs
      refine ⟨b, off, rfl, fun j r i u hj hi => ?_⟩
      rw [List.getElem?_map] at hj
      obtain ⟨j', hj', rfl⟩ := Option.map_eq_some_iff.1 hj
      obtain ⟨hjl, rfl⟩ : j < len ∧ j' = j := by
        have := List.getElem?_eq_some_iff.1 hj'
        obtain ⟨h1, h2⟩ := this
        simp at h1 h2; exact ⟨h1, h2.symm⟩
      have hic : i < c := by have := (List.getElem?_eq_some_iff.1 hi).1; rw [(key j' hjl).1] at this; exact this
      have := (key j' hjl).2 i hic
      rw [hi, add_off, add_off] at this
      rw [← this]
    · intro r hr
      obtain ⟨i, hi, rfl⟩ := List.mem_map.1 hr
      exact (hR i (List.mem_range.1 hi)).2

end
end Go.Proofs.Ytgimdjfbnbkpgaa

/- What an argument of any type reads as: numbers, truth values, slices, structs, one in the other. No condition. -/
namespace Go.Proofs.Ytgimdjfbnbkpgaa
open Go.RowKit Go.ChangeShapes Go.WideShapes

/-- Cells that are as told. -/
def CellsAre (w : World) (l : List AV) (cs : List Value) : Prop := cs.length = l.length ∧ ∀ (i : Nat) (a : AV) (v : Value), l[i]? = some a → cs[i]? = some v → PRel (fun _ => False) w a v ∧ v.oneCell' = true
theorem CellsAre.one {w : World} {a : AV} {v : Value} (h : PRel (fun _ => False) w a v) (h1 : v.oneCell' = true) : CellsAre w [a] [v] := ⟨rfl, fun i x y hx hy => by
  cases i with
  | zero => simp at hx hy; subst hx hy; exact ⟨h, h1⟩
  | succ i => simp at hx⟩
theorem CellsAre.app {w : World} {l m : List AV} {cs ds : List Value} (h : CellsAre w l cs) (g : CellsAre w m ds) : CellsAre w (l ++ m) (cs ++ ds) := ⟨by simp [h.1, g.1], fun i a v ha hv => by
  rw [List.getElem?_append] at ha hv
  rw [h.1] at hv
  split at ha
  · rw [if_pos ‹_›] at hv; exact h.2 i a v ha hv
  · rw [if_neg ‹_›] at hv; exact g.2 _ a v ha hv⟩
theorem CellsAre.rel {w : World} {l : List AV} {cs : List Value} (h : CellsAre w l cs) : RelL w l cs := ⟨h.1, fun i a v ha hv => .pure (h.2 i a v ha hv).1⟩
theorem CellsAre.agg {w : World} {l : List AV} {cs : List Value} (h : CellsAre w l cs) : Rel (fun _ => none) (fun _ => False) w (.agg l) (.agg cs.toArray) := RelL.agg h.rel
section
variable {H : Type} (enc : TypeId × Value → H) (P : Program) (w : World)
/-- Values of the type t read as D. -/
def Rdr (t : TypeId) (D : Type) (av : D → List AV) (ok : D → Prop) : Prop := ∀ cs, Can enc P w (fun _ => true) true t cs → cs.length = P.cellsOf t → ∃ d, ok d ∧ CellsAre w (av d) cs
variable {enc P w}
theorem Rdr.map {t : TypeId} {D E : Type} {av : D → List AV} {ok : D → Prop} {av' : E → List AV} {ok' : E → Prop} (h : Rdr enc P w t D av ok) (g : D → E) (ha : ∀ d, av' (g d) = av d) (hk : ∀ d, ok d → ok' (g d)) : Rdr enc P w t E av' ok' := fun cs hc hl => by
  obtain ⟨d, h1, h2⟩ := h cs hc hl
  exact ⟨g d, hk d h1, by rw [ha]; exact h2⟩
theorem one_of_len {cs : List Value} (h : cs.length = 1) : ∃ c, cs = [c] := by
  match cs, h with
  | [c], _ => exact ⟨c, rfl⟩
theorem Rdr.int {t : TypeId} {k : IntKind} {ok : Int → Prop} (ht : P.underlying t = some (.int k)) (hc : P.cellsOf t = 1) (hk : ∀ n, (Lit.int k n).wf = true → ok n) : Rdr enc P w t Int (fun n => [.lit (.int k n)]) ok := fun cs h hl => by
  obtain ⟨c, rfl⟩ := one_of_len (hl.trans hc)
  obtain ⟨n, rfl, hw⟩ := Can.int ht h
  exact ⟨n, hk n hw, .one (.lit _) rfl⟩
theorem Rdr.slice {t e : TypeId} {c : Nat} {D : Type} {av : D → List AV} {ok : D → Prop} (ht : P.underlying t = some (.slice e)) (hct : P.cellsOf t = 1) (hc : P.cellsOf e = c) (hc0 : 0 < c) (h : Rdr enc P w e D av ok) :
    Rdr enc P w t (List D) (fun l => [.sl c (l.map av)]) (fun l => ∀ d ∈ l, ok d) := fun cs hcan hl => by
  obtain ⟨v, rfl⟩ := one_of_len (hl.trans hct)
  obtain ⟨rs, ⟨hlen, ao, cap, rfl, ⟨h1, h2, h3⟩, hcell⟩, hr⟩ := Can.slice ht hc hc0 hcan
  have hds : ∀ (rs : List (List Value)), (∀ r ∈ rs, r.length = c) → (∀ r ∈ rs, Can enc P w (fun _ => true) true e r) → ∃ l : List D, l.length = rs.length ∧ (∀ d ∈ l, ok d) ∧ ∀ (i : Nat) (d : D) (r : List Value), l[i]? = some d → rs[i]? = some r → CellsAre w (av d) r := by
    intro rs
    induction rs with
    | nil => intro _ _; exact ⟨[], rfl, by simp, by simp⟩
    | cons r rs ih =>
      intro hl hr
      obtain ⟨d, g1, g2⟩ := h r (hr r (by simp)) ((hl r (by simp)).trans hc.symm)
      obtain ⟨l, g3, g4, g5⟩ := ih (fun q hq => hl q (by simp [hq])) (fun q hq => hr q (by simp [hq]))
      refine ⟨d :: l, by simp [g3], fun x hx => ?_, fun i x q hx hq => ?_⟩
      · rcases List.mem_cons.1 hx with rfl | hx
        · exact g1
        · exact g4 x hx
      · cases i with
        | zero => simp at hx hq; subst hx hq; exact g2
        | succ i => exact g5 i x q (by simpa using hx) (by simpa using hq)
  obtain ⟨l, g1, g2, g3⟩ := hds rs hlen hr
  refine ⟨l, g2, .one ?_ rfl⟩
  by_cases hne : rs = []
  · subst hne
    have : l = [] := List.eq_nil_of_length_eq_zero g1
    subst this
    exact .nil c h2 h3
  · obtain ⟨b, off, rfl, hcv⟩ := hcell hne
    have hlm : rs.length = (l.map av).length := by rw [List.length_map, g1]
    rw [hlm]
    have get : ∀ (i : Nat) (q : List AV), (l.map av)[i]? = some q → ∃ (r : List Value), rs[i]? = some r ∧ CellsAre w q r ∧ r.length = c := by
      intro i q hq
      rw [List.getElem?_map, Option.map_eq_some_iff] at hq
      obtain ⟨d, hd, rfl⟩ := hq
      have hi : i < rs.length := by rw [← g1]; exact (List.getElem?_eq_some_iff.1 hd).1
      exact ⟨rs[i], List.getElem?_eq_getElem hi, g3 i d _ hd (List.getElem?_eq_getElem hi), hlen _ (List.getElem_mem hi)⟩
    have cell : ∀ (i : Nat) (q : List AV) (j : Nat) (a : AV), (l.map av)[i]? = some q → q[j]? = some a → w.cell? ⟨b, off + i * c + j, none⟩ = some (((rs[i]?).getD [])[j]?.getD undef) ∧ PRel (fun _ => False) w a (((rs[i]?).getD [])[j]?.getD undef) ∧ (((rs[i]?).getD [])[j]?.getD undef).oneCell' = true := by
      intro i q j a hq ha
      obtain ⟨r, hr, hca, _⟩ := get i q hq
      have hj : j < r.length := by rw [hca.1]; exact (List.getElem?_eq_some_iff.1 ha).1
      rw [hr, Option.getD_some, List.getElem?_eq_getElem hj, Option.getD_some]
      have := hca.2 j a _ ha (List.getElem?_eq_getElem hj)
      exact ⟨hcv i r j _ hr (List.getElem?_eq_getElem hj), this.1, this.2⟩
    refine .sl (fun i j => ((rs[i]?).getD [])[j]?.getD undef) (fun _ h => h) (fun hn => ?_) (by rw [← hlm]; exact h1) h2 (fun i q hq => ?_) (fun i q j a hq ha => (cell i q j a hq ha).1) (fun i q j a hq ha => (cell i q j a hq ha).2.1) (fun i q j a hq ha => (cell i q j a hq ha).2.2)
    · have h0 : 0 < rs.length := List.length_pos_iff.2 hne
      have hl0 : 0 < (rs[0]).length := by rw [hlen _ (List.getElem_mem h0)]; exact hc0
      exact World.block_lt_of_cell? w _ (hcv 0 rs[0] 0 _ (List.getElem?_eq_getElem h0) (List.getElem?_eq_getElem hl0))
    · obtain ⟨r, _, hca, hrl⟩ := get i q hq
      rw [← hca.1, hrl]
/-- A struct's fields from an offset on. -/
def RdrF (enc : TypeId × Value → H) (P : Program) (w : World) (fs : List Field) (off n : Nat) (D : Type) (av : D → List AV) (ok : D → Prop) : Prop :=
  ∀ cs : List Value, cs.length = n → (∀ f ∈ fs, Can enc P w (fun _ => true) true f.type ((cs.drop f.offset).take (P.cellsOf f.type))) → ∃ d, ok d ∧ CellsAre w (av d) (cs.drop off)
theorem RdrF.nil {n off : Nat} (h : n ≤ off) : RdrF enc P w [] off n Unit (fun _ => []) (fun _ => True) := fun cs hl _ => ⟨(), trivial, by
  rw [List.drop_eq_nil_of_le (by omega)]; exact ⟨rfl, by simp⟩⟩
theorem RdrF.cons {f : Field} {fs : List Field} {off n c : Nat} {D E : Type} {av : D → List AV} {ok : D → Prop} {av' : E → List AV} {ok' : E → Prop} (ho : f.offset = off) (hc : P.cellsOf f.type = c) (hn : off + c ≤ n) (h : Rdr enc P w f.type D av ok) (g : RdrF enc P w fs (off + c) n E av' ok') :
    RdrF enc P w (f :: fs) off n (D × E) (fun d => av d.1 ++ av' d.2) (fun d => ok d.1 ∧ ok' d.2) := fun cs hl hf => by
  obtain ⟨d, h1, h2⟩ := h _ (hf f (by simp)) (by simp; omega)
  obtain ⟨e, h3, h4⟩ := g cs hl (fun x hx => hf x (by simp [hx]))
  refine ⟨(d, e), ⟨h1, h3⟩, ?_⟩
  have : cs.drop off = (cs.drop f.offset).take (P.cellsOf f.type) ++ cs.drop (off + c) := by
    rw [ho, hc, ← List.drop_drop, List.take_append_drop]
  rw [this]; exact h2.app h4
theorem Rdr.struct {t : TypeId} {fs : List Field} {n : Nat} {D : Type} {av : D → List AV} {ok : D → Prop} (ht : P.underlying t = some (.struct fs.toArray)) (hn : P.cellsOf t = n) (h : RdrF enc P w fs 0 n D av ok) : Rdr enc P w t D av ok := fun cs hc hl => by
  obtain ⟨d, h1, h2⟩ := h cs (hl.trans hn) (fun f hf => by
    obtain ⟨i, hi⟩ := List.mem_iff_getElem?.1 hf
    exact Can.fields ht hc i f (by simpa using hi))
  exact ⟨d, h1, by simpa using h2⟩
/-- A struct as an argument. -/
theorem Rdr.aggV {t : TypeId} {fs : Array Field} {D : Type} {av : D → List AV} {ok : D → Prop} {v : Value} {d : DataW H} {p : List MemPlace} {r : Reach} {base : Nat} (h : Rdr enc P w t D av ok) (ht : P.underlying t = some (.struct fs)) (hv : Value.okWide P w r base t v) (hd : DataW.Trod enc P w 0 (fun _ => true) true t v d p) :
    ∃ x, ok x ∧ Rel (fun _ => none) (fun _ => False) w (.agg (av x)) v := by
  obtain ⟨cs, rfl, hs⟩ := okWide_struct ht hv
  obtain ⟨x, h1, h2⟩ := h _ (Can.of hd) (by simpa [Value.cells] using hs)
  refine ⟨x, h1, ?_⟩
  have := h2.agg
  simpa [Value.cells] using this
end
end Go.Proofs.Ytgimdjfbnbkpgaa

/- Windows over a tensor: shapes and sums, by the program and by the document. No condition. -/
namespace Go.Proofs.Ytgimdjfbnbkpgaa
open Go.RowKit
set_option linter.unusedSimpArgs false
set_option linter.unusedVariables false
set_option linter.unnecessarySimpa false

theorem elems_ok {h x c : Int} (q : 0 < elems h x c) : 1 ≤ h ∧ h ≤ 16 ∧ 1 ≤ x ∧ x ≤ 16 ∧ 1 ≤ c ∧ c ≤ 1024 ∧ h * x * c ≤ 1024 ∧ elems h x c = h * x * c := by
  unfold elems at q ⊢
  split at q
  · rename_i g; rw [if_pos g]; obtain ⟨g1, g2, g3, g4, g5, g6, g7⟩ := g; exact ⟨g1, g2, g3, g4, g5, g6, g7, rfl⟩
  · omega
end Go.Proofs.Ytgimdjfbnbkpgaa

/- What a window makes, by the program. No condition. -/
namespace Go.Proofs.Ytgimdjfbnbkpgaa
open Go.RowKit
set_option linter.unusedSimpArgs false
set_option linter.unusedVariables false
set_option linter.unnecessarySimpa false

theorem gt_of {P : Int → Prop} {l : List Int} (h : ∀ v ∈ l, P v) (h0 : P 0) (i : Nat) : P (l.getD i 0) := by
  rw [List.getD_eq_getElem?_getD]
  by_cases hi : i < l.length
  · rw [List.getElem?_eq_getElem hi]; exact h _ (List.getElem_mem hi)
  · rw [List.getElem?_eq_none (by omega)]; exact h0
theorem gt8 {l : List Int} (h : ∀ v ∈ l, In8 v) (i : Nat) : -128 ≤ l.getD i 0 ∧ l.getD i 0 ≤ 127 := gt_of h ⟨by decide, by decide⟩ i
end Go.Proofs.Ytgimdjfbnbkpgaa

/- A node with what its kind tells alone. No condition. -/
namespace Go.Proofs.Ytgimdjfbnbkpgaa
open Go.RowKit
set_option linter.unusedSimpArgs false
set_option linter.unusedVariables false
set_option linter.unnecessarySimpa false

/-- What a kind tells. -/
def plainN (n : Nod) : Nod := if n.kd = 1 then ⟨n.kd, n.na, 0, n.nk, n.ns, n.np, n.no, n.za, 0, n.w, n.b, n.qm, n.qs, n.qz, 0, 0, 0, n.lo, n.hi⟩ else if n.kd = 2 then ⟨n.kd, n.na, 0, n.nk, n.ns, n.np, 0, n.za, 0, n.w, n.b, n.qm, n.qs, n.qz, 0, 0, 0, n.lo, n.hi⟩ else if n.kd = 3 then ⟨n.kd, n.na, 0, 0, 0, 0, n.no, n.za, 0, n.w, n.b, n.qm, n.qs, n.qz, 0, 0, 0, n.lo, n.hi⟩ else if n.kd = 4 then ⟨n.kd, n.na, 0, n.nk, n.ns, n.np, 0, 0, 0, [], [], 0, 0, 0, 0, 0, 0, 0, 0⟩ else if n.kd = 5 then ⟨n.kd, n.na, 0, n.nk, n.ns, n.np, 0, 0, 0, [], [], 0, 0, 0, 0, 0, 0, 0, 0⟩ else if n.kd = 6 then ⟨n.kd, n.na, n.nb, 0, 0, 0, 0, n.za, n.zb, [], [], n.qm, n.qs, n.qz, n.rm, n.rs, 0, n.lo, n.hi⟩ else if n.kd = 7 then ⟨n.kd, n.na, 0, 0, 0, 0, 0, n.za, 0, [], [], n.qm, n.qs, n.qz, 0, 0, 0, n.lo, n.hi⟩ else if n.kd = 8 then ⟨n.kd, n.na, 0, 0, 0, n.np, 0, n.za, 0, [], [], 0, 0, 0, 0, 0, 0, 0, 0⟩ else ⟨n.kd, n.na, 0, 0, 0, 0, 0, 0, 0, [], [], 0, 0, 0, 0, 0, 0, 0, 0⟩
end Go.Proofs.Ytgimdjfbnbkpgaa

/- Whether nodes are alike; what is wrong with a node. No condition. -/
namespace Go.Proofs.Ytgimdjfbnbkpgaa
open Go.RowKit
set_option linter.unusedSimpArgs false
set_option linter.unusedVariables false
set_option linter.unnecessarySimpa false

def nodEq (a b : Nod) : Bool := decide (a.w = b.w) && decide (a.b = b.b) && eqNums [(IntKind.i64, a.kd, b.kd), (IntKind.i64, a.na, b.na), (IntKind.i64, a.nb, b.nb), (IntKind.i64, a.nk, b.nk), (IntKind.i64, a.ns, b.ns), (IntKind.i64, a.np, b.np), (IntKind.i64, a.no, b.no), (IntKind.i64, 0, 0)] &&
  eqNums [(IntKind.i8, a.za, b.za), (IntKind.i8, a.zb, b.zb), (IntKind.i8, a.lo, b.lo), (IntKind.i8, a.hi, b.hi)] && eqNums [(IntKind.i32, a.qm, b.qm), (IntKind.i64, a.qs, b.qs), (IntKind.i8, a.qz, b.qz)] && eqNums [(IntKind.i32, a.rm, b.rm), (IntKind.i64, a.rs, b.rs), (IntKind.i8, a.rz, b.rz)]
def scaledB (k : Int) : Bool := ((k == 1 || k == 2) || k == 3) || k == 6 || k == 7
/-- Something is told that the kind does not tell. -/
def moreE (n : Nod) : Bool :=
  (!(n.kd == 1 || n.kd == 2 || n.kd == 3) && (decide ((n.w.length : Int) > 0) || decide ((n.b.length : Int) > 0)) || n.kd != 1 && n.kd != 3 && n.no != 0) ||
  (!(n.kd == 1 || n.kd == 2 || n.kd == 4 || n.kd == 5) && (n.nk != 0 || n.ns != 0) || !(n.kd == 1 || n.kd == 2 || n.kd == 4 || n.kd == 5) && n.kd != 8 && n.np != 0) ||
  (n.kd != 6 && (n.nb != 0 || n.zb != 0 || n.rm != 0 || n.rs != 0) || n.rz != 0) ||
  (!scaledB n.kd && (n.qm != 0 || n.qs != 0 || n.qz != 0 || n.lo != 0 || n.hi != 0)) || (!scaledB n.kd && n.kd != 8 && n.za != 0)
end Go.Proofs.Ytgimdjfbnbkpgaa

/- What is wrong with a node. No condition. -/
namespace Go.Proofs.Ytgimdjfbnbkpgaa
open Go.RowKit
set_option linter.unusedSimpArgs false
set_option linter.unusedVariables false
set_option linter.unnecessarySimpa false

theorem nq {n : Nod} {b : Bool} (h2 : nodEq n (plainN n) = !moreE n) (h : (!nodEq n (plainN n)) = b) : moreE n = b := by rw [← h, h2, Bool.not_not]
end Go.Proofs.Ytgimdjfbnbkpgaa

/- Between which numbers what a node makes lies, by the program and by the document. No condition. -/
namespace Go.Proofs.Ytgimdjfbnbkpgaa
open Go.RowKit
set_option linter.unusedSimpArgs false
set_option linter.unusedVariables false
set_option linter.unnecessarySimpa false

/-- Two numbers as one. -/
def joinE (x y : Int) (n : Nod) : Int := if (rightQ n.qm n.qs && rightQ n.rm n.rs) = true then clampI (rnd ((x - n.za) * n.qm) n.qs + rnd ((y - n.zb) * n.rm) n.rs + n.qz) n.lo n.hi else 0
theorem mul_bd9 (a m : Int) (a0 : -255 ≤ a) (a1 : a ≤ 255) (hm : In32 m) : -547608330240 ≤ a * m ∧ a * m ≤ 547608330240 := by
  obtain ⟨m0, m1⟩ := hm
  have h1 : (a.natAbs * m.natAbs : Nat) ≤ 255 * 2147483648 := Nat.mul_le_mul (by omega) (by omega)
  have := Int.natAbs_mul a m
  omega
theorem joinP (v z m s : Int) (h1 : In8 v) (h2 : In8 z) (h3 : In32 m) : (-547608330240 ≤ (v - z) * m ∧ (v - z) * m ≤ 547608330240) ∧ -547608330240 ≤ rnd ((v - z) * m) s ∧ rnd ((v - z) * m) s ≤ 547608330240 := by
  have q := mul_bd9 (v - z) m (by omega) (by omega) h3
  exact ⟨q, rnd_bd _ s _ q.1 q.2⟩
set_option maxRecDepth 100000 in
set_option maxHeartbeats 2000000 in
theorem joinMay_v (n : Nod)  : VC Try.prog 25 ([nod n]) (bv (rightQ n.qm n.qs && rightQ n.rm n.rs)) := by
  have oz0 := @right_v (n.qm) (n.qs) (n.qz)
  have oz1 := @right_v (n.rm) (n.rs) (n.rz)
  exact VC.run (fn := Try.f25) (W := [.r [] [], .r [] [.callr (rO oz0), .op false, .op false, .op false, .callr (rO oz1), .sel 2]]) Try.func25 (by kernel_rfl) (.c oz0 <| .c oz1 <| .n)

set_option maxRecDepth 100000 in
set_option maxHeartbeats 2000000 in
theorem joinScaled_v (v z m s z2 : Int) (h1 : In8 v) (h2 : In8 z) (h3 : In32 m) : VC Try.prog 30 ([i8 v, i8 z, .agg [i32 m, i64 s, i8 z2]]) (i64 (rnd ((v - z) * m) s)) := by
  have oz3 := @scale_v (v - z) (m) (s) (by omega) h3
  exact VC.run (fn := Try.f30) (W := [.r [] [], .r [] [.n v, .n z, .n (v - z), .callr (rO oz3)]]) Try.func30 (by kernel_rfl) (.c (IntWalk.i32_in v (by omega)) <| .c (IntWalk.i32_in z (by omega)) <| .c (IntWalk.i32_in (v - z) (by omega)) <| .c oz3 <| .n)

set_option maxRecDepth 100000 in
set_option maxHeartbeats 2000000 in
theorem joinOne_v (x y : Int) (n : Nod) (ok : n.Ok) (hx : In8 x) (hy : In8 y) : VC Try.prog 10 ([i8 x, i8 y, nod n]) (i8 (joinE x y n)) := by
  have ok_za := ok.za
  have ok_zb := ok.zb
  have ok_qm := ok.qm
  have ok_rm := ok.rm
  have ok_lo := ok.lo
  have ok_hi := ok.hi
  have ok_qz := ok.qz
  have q1 := joinP x n.za n.qm n.qs hx ok.za ok.qm
  have q2 := joinP y n.zb n.rm n.rs hy ok.zb ok.rm
  have oz0 := @joinMay_v (n)
  rcases Bool.eq_false_or_eq_true (!(rightQ n.qm n.qs && rightQ n.rm n.rs)) with hc0 | hc0
  · have gc0 : rightQ n.qm n.qs = false ∨ rightQ n.rm n.rs = false := by first | (simp only [Bool.or_eq_true, Bool.or_eq_false_iff, Bool.and_eq_true, Bool.and_eq_false_iff, Bool.not_eq_true', Bool.not_eq_false', decide_eq_true_eq, decide_eq_false_iff_not, beq_iff_eq, bne_iff_ne, ne_eq, beq_eq_false_iff_ne, bne_eq_false_iff_eq, eqNums, Bool.and_true] at hc0; first | exact hc0 | omega) | simpa using hc0 | (simp at hc0 ⊢; omega) | (apply Classical.byContradiction; intro hn; simp_all [eqNums]; done) | (apply Classical.byContradiction; intro hn; simp [eqNums] at hc0 hn; omega)
    exact (VC.run (fn := Try.f10) (W := [.r [] [], .r [] [.callr (rO oz0)], .br true, .r [] []]) (r := i8 0) Try.func10 (by kernel_rfl) (.c oz0 <| .c hc0 <| .n)).weak (WeakL.refl _) (Weak.int (show ((0) : Int) = (joinE x y n) from (by (unfold joinE; rw [if_neg (by intro hh; simp only [Bool.and_eq_true] at hh; simp_all)]))))
  · have gc0 : rightQ n.qm n.qs = true ∧ rightQ n.rm n.rs = true := by first | (simp only [Bool.or_eq_true, Bool.or_eq_false_iff, Bool.and_eq_true, Bool.and_eq_false_iff, Bool.not_eq_true', Bool.not_eq_false', decide_eq_true_eq, decide_eq_false_iff_not, beq_iff_eq, bne_iff_ne, ne_eq, beq_eq_false_iff_ne, bne_eq_false_iff_eq, eqNums, Bool.and_true] at hc0; first | exact hc0 | omega) | simpa using hc0 | (simp at hc0 ⊢; omega) | (apply Classical.byContradiction; intro hn; simp_all [eqNums]; done) | (apply Classical.byContradiction; intro hn; simp [eqNums] at hc0 hn; omega)
    have oz2 := @joinScaled_v (x) (n.za) (n.qm) (n.qs) (n.qz) hx ok_za ok_qm
    have oz3 := @joinScaled_v (y) (n.zb) (n.rm) (n.rs) (n.rz) hy ok_zb ok_rm
    have oz4 := (IntWalk.i64_in (rnd ((x - n.za) * n.qm) n.qs + rnd ((y - n.zb) * n.rm) n.rs) (by omega))
    have oz6 := (IntWalk.i64_in (rnd ((x - n.za) * n.qm) n.qs + rnd ((y - n.zb) * n.rm) n.rs + n.qz) (by omega))
    have oz7 := @clamp_v (rnd ((x - n.za) * n.qm) n.qs + rnd ((y - n.zb) * n.rm) n.rs + n.qz) (n.lo) (n.hi) ok_lo ok_hi
    exact (VC.run (fn := Try.f10) (W := [.r [] [], .r [] [.callr (rO oz0)], .br false, .r [] [.callr (rO oz2), .callr (rO oz3), .n (nO oz4), .n n.qz, .n (nO oz6), .callr (rO oz7)]]) (r := i8 (clampI (rnd ((x - n.za) * n.qm) n.qs + rnd ((y - n.zb) * n.rm) n.rs + n.qz) n.lo n.hi)) Try.func10 (by kernel_rfl) (.c oz0 <| .c hc0 <| .c oz2 <| .c oz3 <| .c oz4 <| .c (IntWalk.i64_in n.qz (by omega)) <| .c oz6 <| .c oz7 <| .n)).weak (WeakL.refl _) (Weak.int (show ((clampI (rnd ((x - n.za) * n.qm) n.qs + rnd ((y - n.zb) * n.rm) n.rs + n.qz) n.lo n.hi) : Int) = (joinE x y n) from (by (unfold joinE; rw [if_pos (by simp_all)]))))

end Go.Proofs.Ytgimdjfbnbkpgaa

/- Two tensors as one, by the document; tensors alike. No condition. -/
namespace Go.Proofs.Ytgimdjfbnbkpgaa
open Go.RowKit
set_option linter.unusedSimpArgs false
set_option linter.unusedVariables false
set_option linter.unnecessarySimpa false

abbrev ten0 : Ten := ⟨0, 0, 0, []⟩
structure TRt (T : Ten) : Prop where
  h1 : 1 ≤ T.h
  h16 : T.h ≤ 16
  x1 : 1 ≤ T.x
  x16 : T.x ≤ 16
  c1 : 1 ≤ T.c
  c2 : T.c ≤ 1024
  el : T.h * T.x * T.c ≤ 1024
  dl : (T.d.length : Int) = T.h * T.x * T.c
  en : elems T.h T.x T.c = T.h * T.x * T.c
theorem tenRight.rt {T : Ten} (h : tenRight T = true) : TRt T := by
  unfold tenRight at h
  simp only [Bool.and_eq_true, decide_eq_true_eq] at h
  have c := elems_ok h.1
  have e : elems T.h T.x T.c = T.h * T.x * T.c := by
    have h1 := h.1
    unfold elems at h1 ⊢
    split
    · rfl
    · rename_i hn; rw [if_neg hn] at h1; omega
  exact ⟨by omega, by omega, by omega, by omega, by omega, by omega, by omega, by omega, e⟩
abbrev tnC (T : Ten) : List AV := [i64 T.h, i64 T.x, i64 T.c, ints .i8 T.d]
/-- Two tensors as one. -/
def joinOf (T U : Ten) (n : Nod) : Ten × Int := if (tenRight T && tenRight U && decide (T.h = U.h ∧ T.x = U.x ∧ T.c = U.c)) = false then (ten0, 5) else if (rightQ n.qm n.qs && rightQ n.rm n.rs) = false then (ten0, 7) else (⟨T.h, T.x, T.c, (List.range T.d.length).map fun i => joinE (T.d.getD i 0) (U.d.getD i 0) n⟩, 0)
noncomputable def rtsame_l_I (T : Ten) (k : Nat) : VS := stt 38 [(2, .ptr 2 0 0), (3, .ptr 3 0 0), (5, i64 k)] [(2, .var (tnC T)), (3, .var (tnC T))]
noncomputable def rtsame_l_Z (T : Ten) : VS := rtsame_l_I T (T.d.length)
set_option maxRecDepth 100000 in
set_option maxHeartbeats 2000000 in
theorem rtsame_l_s (T : Ten) (hl : T.d.length ≤ 1000000) (k : Nat) (hk : k < T.d.length) : VT Try.prog (fnC Try.f9 [1, 1, 0, 1, 0, 0]) (rtsame_l_I T k) .normal (rtsame_l_I T (k + 1)) := by
  have oz1 := (show 0 ≤ (↑k : Int) by omega)
  have oz2 := (map_at (row1 IntKind.i8) (0) (l := T.d) (i := k) hk)
  exact VT.run (W := [.r [] [], .br true, .r [] [.row (sO oz2), .row (sO oz2)], .br false, .r [] [.n ((↑k : Int) + 1)]]) (G := [.any (rg [(20, 18)]), .weak 5 (i64 (↑(k + 1) : Int)), .sort]) (by kernel_rfl) (.c (show decide ((↑k : Int) < (↑(List.map (row1 IntKind.i8) T.d).length : Int)) = true by (simp; omega)) <| .c oz1 <| .c oz2 <| .c oz1 <| .c oz2 <| .c (show (T.d.getD k 0 != T.d.getD k 0) = false by (simp; done)) <| .c (IntWalk.i64_in ((↑k : Int) + 1) (by omega)) <| .c (Weak.int (k := .i64) (show (((↑k : Int) + 1) : Int) = ((↑(k + 1) : Int)) from (by omega))) <| .n)
set_option maxRecDepth 100000 in
set_option maxHeartbeats 2000000 in
theorem rtsame_l_e (T : Ten) (hl : T.d.length ≤ 1000000) : VT Try.prog (fnC Try.f9 [1, 1, 0, 1, 0, 0]) (rtsame_l_I T (T.d.length)) (.exit 0) (rtsame_l_Z T) := by
  exact VT.run (W := [.r [] [], .br false]) (G := [.any (rg [(20, 5)]), .sort]) (by kernel_rfl) (.c (show decide ((↑T.d.length : Int) < (↑(List.map (row1 IntKind.i8) T.d).length : Int)) = false by (simp; done)) <| .n)
theorem rtsame_l (T : Ten) (hl : T.d.length ≤ 1000000) : VT Try.prog (fnC Try.f9 [1, 1, 0, 1, 0]) (rtsame_l_I T 0) (.exit 0) (rtsame_l_Z T) :=
  VT.loop (fun k => rtsame_l_I T k) (T.d.length) (fun k hk => rtsame_l_s T hl k hk) (rtsame_l_e T hl) (by intro h; cases h)

set_option maxRecDepth 100000 in
set_option maxHeartbeats 2000000 in
theorem rtsame_v (T : Ten) (hl : T.d.length ≤ 1000000) : VC Try.prog 9 ([ten .i8 T, ten .i8 T]) (bv true) := by
  have oz3 := @rtsame_l (T) hl
  exact VC.run (fn := Try.f9) (W := [.r [] [], .r [] [.v (Value.bool !eqNums [(IntKind.i64, T.h, T.h), (IntKind.i64, T.x, T.x), (IntKind.i64, T.c, T.c)]), .op false, .op false, .op false, .op false, .op false, .op false, .op false, .sel 1], .br false, .r [] [], .code [.any [0, 1, 4, 6, 7, 8, 9, 10, 11, 19], .weak 5 (i64 (↑0 : Int)), .sort] (Exit.exit 0) (zO oz3), .r [] []]) Try.func9 (by kernel_rfl) (.c (show BinTo Try.prog BinOp.neq 23 (Operand.tmp 7) (Operand.tmp 9) (Value.agg #[Value.int IntKind.i64 T.h, Value.int IntKind.i64 T.x, Value.int IntKind.i64 T.c]) (Value.agg #[Value.int IntKind.i64 T.h, Value.int IntKind.i64 T.x, Value.int IntKind.i64 T.c]) (Value.bool !eqNums [(IntKind.i64, T.h, T.h), (IntKind.i64, T.x, T.x), (IntKind.i64, T.c, T.c)]) from ((bin_nums (l := [(IntKind.i64, T.h, T.h), (IntKind.i64, T.x, T.x), (IntKind.i64, T.c, T.c)]) (by kernel_rfl) (by kernel_rfl) (by kernel_rfl) (by kernel_rfl) _ _).2)) <| .c (show (!eqNums [(IntKind.i64, T.h, T.h), (IntKind.i64, T.x, T.x), (IntKind.i64, T.c, T.c)] || (↑(List.map (row1 IntKind.i8) T.d).length : Int) != (↑(List.map (row1 IntKind.i8) T.d).length : Int)) = false by (simp [eqNums])) <| .c (Weak.int (k := .i64) (show ((0) : Int) = ((↑0 : Int)) from (by omega))) <| .c oz3 <| .n)
end Go.Proofs.Ytgimdjfbnbkpgaa

/- Two tensors as one: the range over both lists. No condition. -/
namespace Go.Proofs.Ytgimdjfbnbkpgaa
open Go.RowKit
set_option linter.unusedSimpArgs false
set_option linter.unusedVariables false
set_option linter.unnecessarySimpa false

/-- What stands in the result when k pairs are gone through. -/
def jnK (a b : List Int) (n : Nod) (k : Nat) : List Int := (List.range k).map fun i => joinE (a.getD i 0) (b.getD i 0) n
theorem jnK_len (a b : List Int) (n : Nod) (k : Nat) : (jnK a b n k).length = k := by rw [jnK, List.length_map, List.length_range]
theorem jnK_succ (a b : List Int) (n : Nod) (k : Nat) : jnK a b n (k + 1) = jnK a b n k ++ [joinE (a.getD k 0) (b.getD k 0) n] := by
  unfold jnK; rw [List.range_succ, List.map_append]; rfl
def jt : List AV := (stt 53 [(5, .ptr 100002 0 0), (8, .ptr 100001 0 0)] []).t
set_option maxRecDepth 100000 in
set_option maxHeartbeats 2000000 in
theorem jpairs_v (a b : List Int)  : VM Try.prog 26 ([ints .i8 a, ints .i8 b]) ([]) (.clo 40 [.ptr 951 0 0, .ptr 952 0 0]) ([(951, .var [ints .i8 a]), (952, .var [ints .i8 b])]) := by
  exact VM.run (fn := Try.f26) (W := [.r [] [], .r [] []]) (G := [.ren 3 952, .ren 2 951, .sort]) Try.func26 (by kernel_rfl) (.n)

noncomputable def jseq_l_I (a b : List Int) (n : Nod) (h x c : Int) (R : LoopR) (k : Nat) : VS := stt 22 [(0, .yl 100000), (1, .ptr 100003 0 0), (2, .ptr 100004 0 0), (6, ints .i8 a), (7, i64 a.length), (8, i64 k)] [(900, .slc 27 1 ((jnK a b n k).map (row1 .i8))), (100000, .lp false R jt), (100001, .var [i64 h, i64 x, i64 c, .own 900]), (100002, .var (nodC n)), (100003, .var [ints .i8 a]), (100004, .var [ints .i8 b])]
noncomputable def jseq_l_Z (a b : List Int) (n : Nod) (h x c : Int) (R : LoopR) : VS := jseq_l_I a b n h x c R (a.length)
set_option maxRecDepth 100000 in
set_option maxHeartbeats 2000000 in
theorem jseq_l_s (a b : List Int) (n : Nod) (h x c : Int) (R : LoopR) (hl : a.length = b.length) (h1 : a.length ≤ 1024) (hy : ∀ k, k < a.length → VY Try.prog 100000 [i8 (a.getD k 0), i8 (b.getD k 0)] [(950, .slc 27 1 ((jnK a b n k).map (row1 .i8))), (100000, .lp false R jt), (100001, .var [i64 h, i64 x, i64 c, .own 950]), (100002, .var (nodC n))] (bv true) [(951, .slc 27 1 ((jnK a b n (k + 1)).map (row1 .i8))), (100000, .lp false R jt), (100001, .var [i64 h, i64 x, i64 c, .own 951]), (100002, .var (nodC n))]) (k : Nat) (hk : k < a.length) : VT Try.prog (fnC Try.f40 [1, 0, 0]) (jseq_l_I a b n h x c R k) .normal (jseq_l_I a b n h x c R (k + 1)) := by
  have oz1 := (show 0 ≤ (↑k : Int) by omega)
  exact VT.run (W := [.r [] [], .br true, .r [] [.row [i8 (a.getD k 0)]], .r [] [.row [i8 (b.getD k 0)], .cally [(900, 950), (100000, 100000), (100001, 100001), (100002, 100002)] [(951, 20000)] (bv true) [(951, Blk.slc 27 1 (List.map (row1 IntKind.i8) (jnK a b n (k + 1)))), (100000, Blk.lp false R [AV.any, AV.any, AV.any, AV.any, AV.any, AV.ptr 100002 0 0, AV.any, AV.any, AV.ptr 100001 0 0, AV.any, AV.any, AV.any, AV.any, AV.any, AV.any, AV.any, AV.any, AV.any, AV.any, AV.any, AV.any, AV.any, AV.any, AV.any, AV.any, AV.any, AV.any, AV.any, AV.any, AV.any, AV.any, AV.any, AV.any, AV.any, AV.any, AV.any, AV.any, AV.any, AV.any, AV.any, AV.any, AV.any, AV.any, AV.any, AV.any, AV.any, AV.any, AV.any, AV.any, AV.any, AV.any, AV.any, AV.any]), (100001, Blk.var [i64 h, i64 x, i64 c, AV.own 951]), (100002, Blk.var [i64 n.kd, i64 n.na, i64 n.nb, i64 n.nk, i64 n.ns, i64 n.np, i64 n.no, i8 n.za, i8 n.zb, AV.sl 1 (List.map (row1 IntKind.i8) n.w), AV.sl 1 (List.map (row1 IntKind.i32) n.b), i32 n.qm, i64 n.qs, i8 n.qz, i32 n.rm, i64 n.rs, i8 n.rz, i8 n.lo, i8 n.hi])]], .br false, .r [] [.n ((↑k : Int) + 1)]]) (G := [.any (rg [(4, 2), (9, 13)]), .ren 20000 900, .weak 8 (i64 (↑(k + 1) : Int)), .sort]) (by kernel_rfl) (.c (decide_eq_true (p := ((↑k : Int) < (↑a.length : Int))) (by omega)) <| .c oz1 <| .c (map_at (row1 IntKind.i8) (0) (l := a) (i := k) hk) <| .c oz1 <| .c (map_at (row1 IntKind.i8) (0) (l := b) (i := k) (by omega)) <| .c (@hy (k) hk) <| .c (show false = false by with_reducible rfl) <| .c (IntWalk.i64_in ((↑k : Int) + 1) (by omega)) <| .c (Weak.int (k := .i64) (show (((↑k : Int) + 1) : Int) = ((↑(k + 1) : Int)) from (by omega))) <| .n)
set_option maxRecDepth 100000 in
set_option maxHeartbeats 2000000 in
theorem jseq_l_e (a b : List Int) (n : Nod) (h x c : Int) (R : LoopR) (hl : a.length = b.length) (h1 : a.length ≤ 1024) (hy : ∀ k, k < a.length → VY Try.prog 100000 [i8 (a.getD k 0), i8 (b.getD k 0)] [(950, .slc 27 1 ((jnK a b n k).map (row1 .i8))), (100000, .lp false R jt), (100001, .var [i64 h, i64 x, i64 c, .own 950]), (100002, .var (nodC n))] (bv true) [(951, .slc 27 1 ((jnK a b n (k + 1)).map (row1 .i8))), (100000, .lp false R jt), (100001, .var [i64 h, i64 x, i64 c, .own 951]), (100002, .var (nodC n))]) : VT Try.prog (fnC Try.f40 [1, 0, 0]) (jseq_l_I a b n h x c R (a.length)) (.exit 0) (jseq_l_Z a b n h x c R) := by
  exact VT.run (W := [.r [] [], .br false]) (G := [.any [9], .sort]) (by kernel_rfl) (.c (decide_eq_false (p := ((↑a.length : Int) < (↑a.length : Int))) (by omega)) <| .n)
theorem jseq_l (a b : List Int) (n : Nod) (h x c : Int) (R : LoopR) (hl : a.length = b.length) (h1 : a.length ≤ 1024) (hy : ∀ k, k < a.length → VY Try.prog 100000 [i8 (a.getD k 0), i8 (b.getD k 0)] [(950, .slc 27 1 ((jnK a b n k).map (row1 .i8))), (100000, .lp false R jt), (100001, .var [i64 h, i64 x, i64 c, .own 950]), (100002, .var (nodC n))] (bv true) [(951, .slc 27 1 ((jnK a b n (k + 1)).map (row1 .i8))), (100000, .lp false R jt), (100001, .var [i64 h, i64 x, i64 c, .own 951]), (100002, .var (nodC n))]) : VT Try.prog (fnC Try.f40 [1, 0]) (jseq_l_I a b n h x c R 0) (.exit 0) (jseq_l_Z a b n h x c R) :=
  VT.loop (fun k => jseq_l_I a b n h x c R k) (a.length) (fun k hk => jseq_l_s a b n h x c R hl h1 hy k hk) (jseq_l_e a b n h x c R hl h1 hy) (by intro h; cases h)

set_option maxRecDepth 100000 in
set_option maxHeartbeats 2000000 in
theorem jseq_v (a b : List Int) (n : Nod) (h x c : Int) (R : LoopR) (hl : a.length = b.length) (h1 : a.length ≤ 1024) (hy : ∀ k, k < a.length → VY Try.prog 100000 [i8 (a.getD k 0), i8 (b.getD k 0)] [(950, .slc 27 1 ((jnK a b n k).map (row1 .i8))), (100000, .lp false R jt), (100001, .var [i64 h, i64 x, i64 c, .own 950]), (100002, .var (nodC n))] (bv true) [(951, .slc 27 1 ((jnK a b n (k + 1)).map (row1 .i8))), (100000, .lp false R jt), (100001, .var [i64 h, i64 x, i64 c, .own 951]), (100002, .var (nodC n))]) : VM Try.prog 40 ([.yl 100000, .ptr 100003 0 0, .ptr 100004 0 0]) ([(950, .slc 27 1 ((jnK a b n 0).map (row1 .i8))), (100000, .lp false R jt), (100001, .var [i64 h, i64 x, i64 c, .own 950]), (100002, .var (nodC n)), (100003, .var [ints .i8 a]), (100004, .var [ints .i8 b])]) (.tup []) ([(951, .slc 27 1 ((jnK a b n a.length).map (row1 .i8))), (100000, .lp false R jt), (100001, .var [i64 h, i64 x, i64 c, .own 951]), (100002, .var (nodC n)), (100003, .var [ints .i8 a]), (100004, .var [ints .i8 b])]) := by
  have oz0 := (Weak.int (k := .i64) (show (((↑(List.map (row1 IntKind.i8) a).length : Int)) : Int) = ((↑a.length : Int)) from (by (simp; done))))
  have oz2 := @jseq_l (a) (b) (n) (h) (x) (c) (R) hl h1 hy
  exact VM.run (fn := Try.f40) (W := [.r [] [], .code [.ren 950 900, .weak 7 (wO oz0), .weak 8 (i64 (↑0 : Int)), .sort] (Exit.exit 0) (zO oz2)]) (G := [.ren 900 951, .sort]) Try.func40 (by kernel_rfl) (.c oz0 <| .c (Weak.int (k := .i64) (show ((0) : Int) = ((↑0 : Int)) from (by omega))) <| .c oz2 <| .n)

noncomputable def jasg_r_A (x y : Int) (n : Nod) (h u c : Int) (R : LoopR) (l : List Int) : VS := stt 53 [(5, .ptr 100002 0 0), (8, .ptr 100001 0 0), (41, i8 x), (42, i8 y)] [(950, .slc 27 1 (l.map (row1 .i8))), (100000, .lp false R jt), (100001, .var [i64 h, i64 u, i64 c, .own 950]), (100002, .var (nodC n))]
noncomputable def jasg_r_Z (x y : Int) (n : Nod) (h u c : Int) (R : LoopR) (l : List Int) : VS := stt 53 [(5, .ptr 100002 0 0), (8, .ptr 100001 0 0), (9, i8 x), (10, i8 y)] [(950, .slc 27 1 (l.map (row1 .i8))), (100000, .lp false R jt), (100001, .var [i64 h, i64 u, i64 c, .own 950]), (100002, .var (nodC n))]
set_option maxRecDepth 100000 in
set_option maxHeartbeats 2000000 in
theorem jasg_r (x y : Int) (n : Nod) (h u c : Int) (R : LoopR) (l : List Int)  (rd : Nat) : VTo (some rd) Try.prog (fnC Try.f7 [1, 1, 1, 0, 1, 0, 0]) (jasg_r_A x y n h u c R l) .normal (jasg_r_Z x y n h u c R l) := by
  exact VTo.run (W := [.r [] [], .r [] []]) (G := [.any [41, 42], .sort]) (by kernel_rfl) (by kernel_rfl) (.n)

noncomputable def jbody_r_A (x y : Int) (n : Nod) (h u c : Int) (R : LoopR) (l : List Int) : VS := stt 53 [(5, .ptr 100002 0 0), (8, .ptr 100001 0 0), (9, i8 x), (10, i8 y)] [(950, .slc 27 1 (l.map (row1 .i8))), (100000, .lp true R jt), (100001, .var [i64 h, i64 u, i64 c, .own 950]), (100002, .var (nodC n))]
noncomputable def jbody_r_Z (x y : Int) (n : Nod) (h u c : Int) (R : LoopR) (l : List Int) : VS := stt 53 [] [(951, .slc 27 1 ((l ++ [joinE x y n]).map (row1 .i8))), (100000, .lp true R jt), (100001, .var [i64 h, i64 u, i64 c, .own 951]), (100002, .var (nodC n))]
set_option maxRecDepth 100000 in
set_option maxHeartbeats 2000000 in
theorem jbody_r (x y : Int) (n : Nod) (h u c : Int) (R : LoopR) (l : List Int) (ok : n.Ok) (hx : In8 x) (hy : In8 y) (hl : l.length ≤ 1024) (rd : Nat) : VTo (some rd) Try.prog (fnC Try.f7 [1, 1, 1, 0, 1, 0, 1]) (jbody_r_A x y n h u c R l) .normal (jbody_r_Z x y n h u c R l) := by
  have oz0 := @joinOne_v (x) (y) (n) ok hx hy
  exact VTo.run (W := [.r [] [.callr (rO oz0)]]) (G := [.any (rg [(5, 1), (8, 3), (43, 9)]), .drop [49], .ren 50 951, .blk 951 (Blk.slc 27 1 (List.map (row1 IntKind.i8) (l ++ [joinE x y n]))), .sort]) (by kernel_rfl) (by kernel_rfl) (.c oz0 <| .c (show ((List.map (row1 IntKind.i8) l).length + 1) * 1 ≤ 140737488355328 by (simp only [List.length_map]; omega)) <| .c (show (List.map (row1 IntKind.i8) l).length + 1 ≤ 9223372036854775807 by (simp only [List.length_map]; omega)) <| .c (show BlkW (Blk.slc 27 1 (List.map (row1 IntKind.i8) l ++ [[i8 (joinE x y n)]])) (Blk.slc 27 1 (List.map (row1 IntKind.i8) (l ++ [joinE x y n]))) from (BlkW.rows (e := 27) (z := 1) (rows_to (row1 IntKind.i8) (r := List.map (row1 IntKind.i8) l ++ [[i8 (joinE x y n)]]) (l := l ++ [joinE x y n]) (m := l ++ [joinE x y n]) (by first | (simp only [List.map_append, List.map_cons, List.map_nil, List.map_set, List.map_replicate, List.map_take, List.map_drop]; done) | rfl | (simp only [List.map_append, List.map_cons, List.map_nil, List.map_set, List.map_replicate, List.map_take, List.map_drop]; rfl)) rfl))) <| .n)
end Go.Proofs.Ytgimdjfbnbkpgaa

/- Two tensors as one: the range, as one. No condition. -/
namespace Go.Proofs.Ytgimdjfbnbkpgaa
open Go.RowKit
set_option linter.unusedSimpArgs false
set_option linter.unusedVariables false
set_option linter.unnecessarySimpa false

noncomputable def jR : LoopR := ⟨#[41, 42], fnC Try.f7 [1, 1, 1, 0, 1, 0, 0], fnC Try.f7 [1, 1, 1, 0, 1, 0, 1]⟩
set_option maxRecDepth 100000 in
theorem jround_v (x y : Int) (n : Nod) (h u c : Int) (l : List Int) (ok : n.Ok) (hx : In8 x) (hy : In8 y) (hl : l.length ≤ 1024) : VY Try.prog 100000 [i8 x, i8 y] [(950, .slc 27 1 (l.map (row1 .i8))), (100000, .lp false jR jt), (100001, .var [i64 h, i64 u, i64 c, .own 950]), (100002, .var (nodC n))] (bv true) [(951, .slc 27 1 ((l ++ [joinE x y n]).map (row1 .i8))), (100000, .lp false jR jt), (100001, .var [i64 h, i64 u, i64 c, .own 951]), (100002, .var (nodC n))] := by
  have e1 : (⟨putPs jt jR.ps.toList [i8 x, i8 y], [(950, .slc 27 1 (l.map (row1 .i8))), (100000, .lp false jR jt), (100001, .var [i64 h, i64 u, i64 c, .own 950]), (100002, .var (nodC n))]⟩ : VS) = jasg_r_A x y n h u c jR l := by kernel_rfl
  have e2 : (⟨(jasg_r_Z x y n h u c jR l).t, put1 100000 (.lp true jR jt) (jasg_r_Z x y n h u c jR l).o⟩ : VS) = jbody_r_A x y n h u c jR l := by kernel_rfl
  have e3 : put1 100000 (.lp false jR jt) (jbody_r_Z x y n h u c jR l).o = [(951, .slc 27 1 ((l ++ [joinE x y n]).map (row1 .i8))), (100000, .lp false jR jt), (100001, .var [i64 h, i64 u, i64 c, .own 951]), (100002, .var (nodC n))] := by kernel_rfl
  have l1 : look (jasg_r_Z x y n h u c jR l).o 100000 = some (.lp false jR jt) := by kernel_rfl
  have l2 : look (jbody_r_Z x y n h u c jR l).o 100000 = some (.lp true jR jt) := by kernel_rfl
  have l0 : look [(950, Blk.slc 27 1 (l.map (row1 .i8))), (100000, .lp false jR jt), (100001, .var [i64 h, i64 u, i64 c, .own 950]), (100002, .var (nodC n))] 100000 = some (.lp false jR jt) := by kernel_rfl
  rw [← e3]
  refine VY.of (R := jR) (t := jt) (t' := jt) (t'' := jt) (t1 := (jasg_r_Z x y n h u c jR l).t) (o1 := (jasg_r_Z x y n h u c jR l).o) (t2 := (jbody_r_Z x y n h u c jR l).t) (o2 := (jbody_r_Z x y n h u c jR l).o) rfl l0 (fun q => ?_) l1 (fun q => ?_) l2
  · rw [e1]; exact jasg_r x y n h u c jR l q
  · rw [e2]; exact jbody_r x y n h u c jR l ok hx hy hl q
/-- The state ahead of the range, and behind it. -/
noncomputable def jI (T U : Ten) (n : Nod) : VS := stt 53 [(5, .ptr 5 0 0), (6, .ptr 6 0 0), (8, .ptr 8 0 0), (40, .clo 40 [.ptr 960 0 0, .ptr 961 0 0])] [(5, .var (nodC n)), (6, .var [i64 0, i64 0, i64 0, nilv]), (8, .var [i64 T.h, i64 T.x, i64 T.c, .own 900]), (900, .slc 27 1 ((jnK T.d U.d n 0).map (row1 .i8))), (960, .var [ints .i8 T.d]), (961, .var [ints .i8 U.d])]
noncomputable def jZ (T U : Ten) (n : Nod) : VS := stt 53 [(5, .ptr 5 0 0), (6, .ptr 6 0 0), (8, .ptr 8 0 0), (40, .clo 40 [.ptr 960 0 0, .ptr 961 0 0])] [(5, .var (nodC n)), (6, .var [i64 0, i64 0, i64 0, nilv]), (8, .var [i64 T.h, i64 T.x, i64 T.c, .own 980]), (960, .var [ints .i8 T.d]), (961, .var [ints .i8 U.d]), (980, .slc 27 1 ((jnK T.d U.d n T.d.length).map (row1 .i8)))]
def vrangeG (P : Program) (gv : Operand) (ps : Array Tmp) (asg body : Code) (σ : VS) (dr : List Nat) (kl kp : Nat) (ren out : List (Nat × Nat)) (r : AV) (o' : List (Nat × Blk)) (G : List GI) : Option (List Prop × VS) := match vrange P gv ps asg body σ dr kl kp ren out r o' with
  | some (ob, σ1) => match ghosts G σ1 with
    | some (ob2, σ2) => some (ob ++ ob2, σ2)
    | none => none
  | none => none
theorem VT.rangeG {P : Program} {gv : Operand} {ps : Array Tmp} {asg body : Code} {σ σ' : VS} {dr : List Nat} {kl kp : Nat} {ren out : List (Nat × Nat)} {r : AV} {o' : List (Nat × Blk)} {G : List GI} {ob : List Prop} (h : vrangeG P gv ps asg body σ dr kl kp ren out r o' G = some (ob, σ')) (hob : All ob) : VT P (.rangeFunc gv ps asg body) σ .normal σ' := by
  unfold vrangeG at h
  split at h
  · rename_i ob1 σ1 h1
    split at h
    · rename_i ob2 σ2 h2
      injection h with h; injection h with a1 a2; subst a1 a2
      exact (VT.range h1 (All.app hob).1).post h2 (All.app hob).2
    · cases h
  · cases h
theorem jcode : fnC Try.f7 [1, 1, 1, 0, 1, 0] = .rangeFunc (.tmp 40) #[41, 42] (fnC Try.f7 [1, 1, 1, 0, 1, 0, 0]) (fnC Try.f7 [1, 1, 1, 0, 1, 0, 1]) := by kernel_rfl
set_option maxRecDepth 100000 in
theorem jrange_v (T U : Ten) (n : Nod) (ok : T.Ok) (oku : U.Ok) (okn : n.Ok) (hl : T.d.length = U.d.length) (h1 : T.d.length ≤ 1024) : VT Try.prog (fnC Try.f7 [1, 1, 1, 0, 1, 0]) (jI T U n) .normal (jZ T U n) := by
  rw [jcode]
  have hv := jseq_v T.d U.d n T.h T.x T.c jR hl h1 fun k hk => by
    have q1 := gt8 ok.d k
    have q2 := gt8 oku.d k
    have q := jround_v (T.d.getD k 0) (U.d.getD k 0) n T.h T.x T.c (jnK T.d U.d n k) okn q1 q2 (by rw [jnK_len]; omega)
    rw [← jnK_succ] at q; exact q
  have key : vrangeG Try.prog (.tmp 40) #[41, 42] (fnC Try.f7 [1, 1, 1, 0, 1, 0, 0]) (fnC Try.f7 [1, 1, 1, 0, 1, 0, 1]) (jI T U n) [6, 40] 970 100000 [(900, 950), (970, 100000), (8, 100001), (5, 100002), (960, 100003), (961, 100004)] [(951, 980)] (.tup []) [(951, .slc 27 1 ((jnK T.d U.d n T.d.length).map (row1 .i8))), (100000, .lp false jR jt), (100001, .var [i64 T.h, i64 T.x, i64 T.c, .own 951]), (100002, .var (nodC n)), (100003, .var [ints .i8 T.d]), (100004, .var [ints .i8 U.d])] [.sort] = some ([VM Try.prog 40 [.yl 100000, .ptr 100003 0 0, .ptr 100004 0 0] [(950, .slc 27 1 ((jnK T.d U.d n 0).map (row1 .i8))), (100000, .lp false jR jt), (100001, .var [i64 T.h, i64 T.x, i64 T.c, .own 950]), (100002, .var (nodC n)), (100003, .var [ints .i8 T.d]), (100004, .var [ints .i8 U.d])] (.tup []) [(951, .slc 27 1 ((jnK T.d U.d n T.d.length).map (row1 .i8))), (100000, .lp false jR jt), (100001, .var [i64 T.h, i64 T.x, i64 T.c, .own 951]), (100002, .var (nodC n)), (100003, .var [ints .i8 T.d]), (100004, .var [ints .i8 U.d])]], jZ T U n) := by
    kernel_rfl
  exact VT.rangeG key ⟨hv, trivial⟩
set_option maxRecDepth 100000 in
set_option maxHeartbeats 2000000 in
theorem jof_v (T U : Ten) (n : Nod) (ok : T.Ok) (oku : U.Ok) (okn : n.Ok) : VC Try.prog 7 ([ten .i8 T, ten .i8 U, nod n]) (.tup [ten .i8 (joinOf T U n).1, i64 (joinOf T U n).2]) := by
  have g1 := @tenRight.rt T
  have g2 := fun h => (g1 h).dl
  have g3 := fun h => (g1 h).el
  have k1 := @tenRight.rt U
  have k2 := fun h => (k1 h).dl
  have gq : (!rightQ n.qm n.qs || !rightQ n.rm n.rs) = true → (rightQ n.qm n.qs && rightQ n.rm n.rs) = false := by cases rightQ n.qm n.qs <;> cases rightQ n.rm n.rs <;> simp
  have gq2 : (!(rightQ n.qm n.qs && rightQ n.rm n.rs)) = true → (rightQ n.qm n.qs && rightQ n.rm n.rs) = false := fun h => by rwa [Bool.not_eq_true'] at h
  have gk : (!tenRight T || !tenRight U || !eqNums [(IntKind.i64, T.h, U.h), (IntKind.i64, T.x, U.x), (IntKind.i64, T.c, U.c)]) = false → T.d.length ≤ 1024 ∧ U.d.length = T.d.length := fun h => by
    simp only [Bool.or_eq_false_iff, Bool.not_eq_false', eqNums, Bool.and_eq_true, beq_iff_eq] at h
    obtain ⟨⟨h1, h2⟩, h3, h4, h5, _⟩ := h
    have a1 := g2 h1; have a2 := g3 h1; have a3 := k2 h2
    rw [← h3, ← h4, ← h5] at a3
    exact ⟨by omega, by omega⟩
  have gj : (!tenRight T || !tenRight U || !eqNums [(IntKind.i64, T.h, U.h), (IntKind.i64, T.x, U.x), (IntKind.i64, T.c, U.c)]) = !(tenRight T && tenRight U && decide (T.h = U.h ∧ T.x = U.x ∧ T.c = U.c)) := by
    have e : eqNums [(IntKind.i64, T.h, U.h), (IntKind.i64, T.x, U.x), (IntKind.i64, T.c, U.c)] = decide (T.h = U.h ∧ T.x = U.x ∧ T.c = U.c) := by
      rw [Bool.eq_iff_iff]; simp [eqNums]
    rw [e]; cases tenRight T <;> cases tenRight U <;> simp
  have gz : (!tenRight T || !tenRight U || !eqNums [(IntKind.i64, T.h, U.h), (IntKind.i64, T.x, U.x), (IntKind.i64, T.c, U.c)]) = true → (tenRight T && tenRight U && decide (T.h = U.h ∧ T.x = U.x ∧ T.c = U.c)) = false := fun h => by rw [gj] at h; simpa only [Bool.not_eq_true'] using h
  have gn : (!tenRight T || !tenRight U || !eqNums [(IntKind.i64, T.h, U.h), (IntKind.i64, T.x, U.x), (IntKind.i64, T.c, U.c)]) = false → ¬ (tenRight T && tenRight U && decide (T.h = U.h ∧ T.x = U.x ∧ T.c = U.c)) = false := fun h => by rw [gj] at h; simp only [Bool.not_eq_false'] at h; rw [h]; simp
  have oz0 := @tRight_v (T) ok
  have oz1 := @tRight_v (U) oku
  have oz2 := (show BinTo Try.prog BinOp.neq 23 (Operand.tmp 22) (Operand.tmp 24) (Value.agg #[Value.int IntKind.i64 T.h, Value.int IntKind.i64 T.x, Value.int IntKind.i64 T.c]) (Value.agg #[Value.int IntKind.i64 U.h, Value.int IntKind.i64 U.x, Value.int IntKind.i64 U.c]) (Value.bool !eqNums [(IntKind.i64, T.h, U.h), (IntKind.i64, T.x, U.x), (IntKind.i64, T.c, U.c)]) from ((bin_nums (l := [(IntKind.i64, T.h, U.h), (IntKind.i64, T.x, U.x), (IntKind.i64, T.c, U.c)]) (by kernel_rfl) (by kernel_rfl) (by kernel_rfl) (by kernel_rfl) _ _).2))
  rcases Bool.eq_false_or_eq_true (!tenRight T || !tenRight U || !eqNums [(IntKind.i64, T.h, U.h), (IntKind.i64, T.x, U.x), (IntKind.i64, T.c, U.c)]) with hc0 | hc0
  · have gc0 : (tenRight T = false ∨ tenRight U = false) ∨ ¬(T.h = U.h ∧ T.x = U.x ∧ T.c = U.c) := by first | (simp only [Bool.or_eq_true, Bool.or_eq_false_iff, Bool.and_eq_true, Bool.and_eq_false_iff, Bool.not_eq_true', Bool.not_eq_false', decide_eq_true_eq, decide_eq_false_iff_not, beq_iff_eq, bne_iff_ne, ne_eq, beq_eq_false_iff_ne, bne_eq_false_iff_eq, eqNums, Bool.and_true] at hc0; first | exact hc0 | omega) | simpa using hc0 | (simp at hc0 ⊢; omega) | (apply Classical.byContradiction; intro hn; simp_all [eqNums]; done) | (apply Classical.byContradiction; intro hn; simp [eqNums] at hc0 hn; omega)
    exact (VC.run (fn := Try.f7) (W := [.r [] [], .r [] [.callr (rO oz0), .op false, .op false, .callr (rO oz1), .op false, .sel 1, .op false, .op false, .op false, .op false, .op false, .v (Value.bool !eqNums [(IntKind.i64, T.h, U.h), (IntKind.i64, T.x, U.x), (IntKind.i64, T.c, U.c)]), .sel 1], .br true, .r [] []]) (r := AV.tup [AV.agg [i64 0, i64 0, i64 0, AV.lit (Value.slice none 0 0)], i64 5]) Try.func7 (by kernel_rfl) (.c oz0 <| .c oz1 <| .c oz2 <| .c hc0 <| .n)).weak (WeakL.refl _) (Weak.tup (.cons (Weak.agg (.cons (Weak.int (show ((0) : Int) = ((joinOf T U n).fst.h) from (by (simp only [joinOf]; rw [if_pos (gz (by assumption))]; first | done | rfl | (unfold jnK; rfl))))) (.cons (Weak.int (show ((0) : Int) = ((joinOf T U n).fst.x) from (by (simp only [joinOf]; rw [if_pos (gz (by assumption))]; first | done | rfl | (unfold jnK; rfl))))) (.cons (Weak.int (show ((0) : Int) = ((joinOf T U n).fst.c) from (by (simp only [joinOf]; rw [if_pos (gz (by assumption))]; first | done | rfl | (unfold jnK; rfl))))) (.cons (Weak.nilr (show [] = (List.map (row1 IntKind.i8) (joinOf T U n).fst.d) from (by (simp only [joinOf]; rw [if_pos (gz (by assumption))]; first | done | rfl | (unfold jnK; rfl))))) .nil))))) (.cons (Weak.int (show ((5) : Int) = ((joinOf T U n).snd) from (by (simp only [joinOf]; rw [if_pos (gz (by assumption))]; first | done | rfl | (unfold jnK; rfl))))) .nil)))
  · have gc0 : (tenRight T = true ∧ tenRight U = true) ∧ T.h = U.h ∧ T.x = U.x ∧ T.c = U.c := by first | (simp only [Bool.or_eq_true, Bool.or_eq_false_iff, Bool.and_eq_true, Bool.and_eq_false_iff, Bool.not_eq_true', Bool.not_eq_false', decide_eq_true_eq, decide_eq_false_iff_not, beq_iff_eq, bne_iff_ne, ne_eq, beq_eq_false_iff_ne, bne_eq_false_iff_eq, eqNums, Bool.and_true] at hc0; first | exact hc0 | omega) | simpa using hc0 | (simp at hc0 ⊢; omega) | (apply Classical.byContradiction; intro hn; simp_all [eqNums]; done) | (apply Classical.byContradiction; intro hn; simp [eqNums] at hc0 hn; omega)
    have oz4 := @joinMay_v (n)
    rcases Bool.eq_false_or_eq_true (!(rightQ n.qm n.qs && rightQ n.rm n.rs)) with hc1 | hc1
    · have gc1 : rightQ n.qm n.qs = false ∨ rightQ n.rm n.rs = false := by first | (simp only [Bool.or_eq_true, Bool.or_eq_false_iff, Bool.and_eq_true, Bool.and_eq_false_iff, Bool.not_eq_true', Bool.not_eq_false', decide_eq_true_eq, decide_eq_false_iff_not, beq_iff_eq, bne_iff_ne, ne_eq, beq_eq_false_iff_ne, bne_eq_false_iff_eq, eqNums, Bool.and_true] at hc1; first | exact hc1 | omega) | simpa using hc1 | (simp at hc1 ⊢; omega) | (apply Classical.byContradiction; intro hn; simp_all [eqNums]; done) | (apply Classical.byContradiction; intro hn; simp [eqNums] at hc1 hn; omega)
      exact (VC.run (fn := Try.f7) (W := [.r [] [], .r [] [.callr (rO oz0), .op false, .op false, .callr (rO oz1), .op false, .sel 1, .op false, .op false, .op false, .op false, .op false, .v (Value.bool !eqNums [(IntKind.i64, T.h, U.h), (IntKind.i64, T.x, U.x), (IntKind.i64, T.c, U.c)]), .sel 1], .br false, .r [] [.callr (rO oz4)], .br true, .r [] []]) (r := AV.tup [AV.agg [i64 0, i64 0, i64 0, AV.lit (Value.slice none 0 0)], i64 7]) Try.func7 (by kernel_rfl) (.c oz0 <| .c oz1 <| .c oz2 <| .c hc0 <| .c oz4 <| .c hc1 <| .n)).weak (WeakL.refl _) (Weak.tup (.cons (Weak.agg (.cons (Weak.int (show ((0) : Int) = ((joinOf T U n).fst.h) from (by (simp only [joinOf]; rw [if_neg (gn (by assumption)), if_pos (gq2 (by assumption))]; first | done | rfl | (unfold jnK; rfl))))) (.cons (Weak.int (show ((0) : Int) = ((joinOf T U n).fst.x) from (by (simp only [joinOf]; rw [if_neg (gn (by assumption)), if_pos (gq2 (by assumption))]; first | done | rfl | (unfold jnK; rfl))))) (.cons (Weak.int (show ((0) : Int) = ((joinOf T U n).fst.c) from (by (simp only [joinOf]; rw [if_neg (gn (by assumption)), if_pos (gq2 (by assumption))]; first | done | rfl | (unfold jnK; rfl))))) (.cons (Weak.nilr (show [] = (List.map (row1 IntKind.i8) (joinOf T U n).fst.d) from (by (simp only [joinOf]; rw [if_neg (gn (by assumption)), if_pos (gq2 (by assumption))]; first | done | rfl | (unfold jnK; rfl))))) .nil))))) (.cons (Weak.int (show ((7) : Int) = ((joinOf T U n).snd) from (by (simp only [joinOf]; rw [if_neg (gn (by assumption)), if_pos (gq2 (by assumption))]; first | done | rfl | (unfold jnK; rfl))))) .nil)))
    · have gc1 : rightQ n.qm n.qs = true ∧ rightQ n.rm n.rs = true := by first | (simp only [Bool.or_eq_true, Bool.or_eq_false_iff, Bool.and_eq_true, Bool.and_eq_false_iff, Bool.not_eq_true', Bool.not_eq_false', decide_eq_true_eq, decide_eq_false_iff_not, beq_iff_eq, bne_iff_ne, ne_eq, beq_eq_false_iff_ne, bne_eq_false_iff_eq, eqNums, Bool.and_true] at hc1; first | exact hc1 | omega) | simpa using hc1 | (simp at hc1 ⊢; omega) | (apply Classical.byContradiction; intro hn; simp_all [eqNums]; done) | (apply Classical.byContradiction; intro hn; simp [eqNums] at hc1 hn; omega)
      have oz6 := @jpairs_v (T.d) (U.d)
      have oz7 := @jrange_v (T) (U) (n) ok oku okn (by (exact (gk (by assumption)).2.symm)) (by (exact (gk (by assumption)).1))
      exact (VC.run (fn := Try.f7) (W := [.r [] [], .r [] [.callr (rO oz0), .op false, .op false, .callr (rO oz1), .op false, .sel 1, .op false, .op false, .op false, .op false, .op false, .v (Value.bool !eqNums [(IntKind.i64, T.h, U.h), (IntKind.i64, T.x, U.x), (IntKind.i64, T.c, U.c)]), .sel 1], .br false, .r [] [.callr (rO oz4)], .br false, .r [] [], .r [] [.callm [] [(951, 20000), (952, 20001)] (rM oz6) (oM oz6)], .code [.any (rg [(0, 5), (7, 1), (11, 5), (19, 2), (26, 1), (28, 4), (33, 7)]), .drop [3, 4], .ren 20001 961, .ren 20000 960, .nilc 900 27 1 8 3, .sort] (Exit.normal) (zO oz7), .r [] []]) (r := AV.tup [AV.agg [i64 T.h, i64 T.x, i64 T.c, AV.sl 1 (List.map (row1 IntKind.i8) (jnK T.d U.d n T.d.length))], i64 0]) Try.func7 (by kernel_rfl) (.c oz0 <| .c oz1 <| .c oz2 <| .c hc0 <| .c oz4 <| .c hc1 <| .c oz6 <| .c oz7 <| .n)).weak (WeakL.refl _) (Weak.tup (.cons (Weak.agg (.cons (Weak.int (show ((T.h) : Int) = ((joinOf T U n).fst.h) from (by (simp only [joinOf]; rw [if_neg (gn (by assumption)), if_neg (by cases e1 : rightQ n.qm n.qs <;> cases e2 : rightQ n.rm n.rs <;> simp_all)]; first | done | rfl | (unfold jnK; rfl))))) (.cons (Weak.int (show ((T.x) : Int) = ((joinOf T U n).fst.x) from (by (simp only [joinOf]; rw [if_neg (gn (by assumption)), if_neg (by cases e1 : rightQ n.qm n.qs <;> cases e2 : rightQ n.rm n.rs <;> simp_all)]; first | done | rfl | (unfold jnK; rfl))))) (.cons (Weak.int (show ((T.c) : Int) = ((joinOf T U n).fst.c) from (by (simp only [joinOf]; rw [if_neg (gn (by assumption)), if_neg (by cases e1 : rightQ n.qm n.qs <;> cases e2 : rightQ n.rm n.rs <;> simp_all)]; first | done | rfl | (unfold jnK; rfl))))) (.cons (Weak.rows (rows_to (row1 IntKind.i8) (r := List.map (row1 IntKind.i8) (jnK T.d U.d n T.d.length)) (l := jnK T.d U.d n T.d.length) (m := (joinOf T U n).fst.d) rfl (show (jnK T.d U.d n T.d.length) = ((joinOf T U n).fst.d) from (by (simp only [joinOf]; rw [if_neg (gn (by assumption)), if_neg (by cases e1 : rightQ n.qm n.qs <;> cases e2 : rightQ n.rm n.rs <;> simp_all)]; first | done | rfl | (unfold jnK; rfl)))))) .nil))))) (.cons (Weak.int (show ((0) : Int) = ((joinOf T U n).snd) from (by (simp only [joinOf]; rw [if_neg (gn (by assumption)), if_neg (by cases e1 : rightQ n.qm n.qs <;> cases e2 : rightQ n.rm n.rs <;> simp_all)]; first | done | rfl | (unfold jnK; rfl))))) .nil)))
end Go.Proofs.Ytgimdjfbnbkpgaa

/- Two tensors as one, number by number; the other way round they make the same: the laws. No condition. -/
namespace Go.Proofs.Ytgimdjfbnbkpgaa
open Go.RowKit
set_option linter.unusedSimpArgs false
set_option linter.unusedVariables false
set_option linter.unnecessarySimpa false

set_option maxRecDepth 100000 in
set_option maxHeartbeats 2000000 in
theorem jknown_v   : VC Try.prog 6 ([]) (bv true) := by
  have oz1 := @joinOne_v (3) (4) (Nod.mk 0 0 0 0 0 0 0 0 0 [] [] 1 0 1 1 0 0 (-128) 127) (by (constructor <;> first | (intro v hv; cases hv; done) | (refine ⟨?_, ?_⟩ <;> decide))) (by (try dsimp only); omega) (by (try dsimp only); omega)
  exact VC.run (fn := Try.f6) (W := [.r [] [], .r [] [], .r [] [.call (aO oz1) (rO oz1)]]) Try.func6 (by kernel_rfl) (.c (show WeakL [i8 3, i8 4, AV.agg [i64 0, i64 0, i64 0, i64 0, i64 0, i64 0, i64 0, i8 0, i8 0, AV.lit (Value.slice none 0 0), AV.lit (Value.slice none 0 0), i32 1, i64 0, i8 1, i32 1, i64 0, i8 0, i8 (-128), i8 127]] [i8 3, i8 4, AV.agg [i64 (Nod.mk 0 0 0 0 0 0 0 0 0 [] [] 1 0 1 1 0 0 (-128) 127).kd, i64 (Nod.mk 0 0 0 0 0 0 0 0 0 [] [] 1 0 1 1 0 0 (-128) 127).na, i64 (Nod.mk 0 0 0 0 0 0 0 0 0 [] [] 1 0 1 1 0 0 (-128) 127).nb, i64 (Nod.mk 0 0 0 0 0 0 0 0 0 [] [] 1 0 1 1 0 0 (-128) 127).nk, i64 (Nod.mk 0 0 0 0 0 0 0 0 0 [] [] 1 0 1 1 0 0 (-128) 127).ns, i64 (Nod.mk 0 0 0 0 0 0 0 0 0 [] [] 1 0 1 1 0 0 (-128) 127).np, i64 (Nod.mk 0 0 0 0 0 0 0 0 0 [] [] 1 0 1 1 0 0 (-128) 127).no, i8 (Nod.mk 0 0 0 0 0 0 0 0 0 [] [] 1 0 1 1 0 0 (-128) 127).za, i8 (Nod.mk 0 0 0 0 0 0 0 0 0 [] [] 1 0 1 1 0 0 (-128) 127).zb, AV.sl 1 [], AV.sl 1 [], i32 (Nod.mk 0 0 0 0 0 0 0 0 0 [] [] 1 0 1 1 0 0 (-128) 127).qm, i64 (Nod.mk 0 0 0 0 0 0 0 0 0 [] [] 1 0 1 1 0 0 (-128) 127).qs, i8 (Nod.mk 0 0 0 0 0 0 0 0 0 [] [] 1 0 1 1 0 0 (-128) 127).qz, i32 (Nod.mk 0 0 0 0 0 0 0 0 0 [] [] 1 0 1 1 0 0 (-128) 127).rm, i64 (Nod.mk 0 0 0 0 0 0 0 0 0 [] [] 1 0 1 1 0 0 (-128) 127).rs, i8 (Nod.mk 0 0 0 0 0 0 0 0 0 [] [] 1 0 1 1 0 0 (-128) 127).rz, i8 (Nod.mk 0 0 0 0 0 0 0 0 0 [] [] 1 0 1 1 0 0 (-128) 127).lo, i8 (Nod.mk 0 0 0 0 0 0 0 0 0 [] [] 1 0 1 1 0 0 (-128) 127).hi]] from (.cons (.refl _) (.cons (.refl _) (.cons (Weak.agg (.cons (.refl _) (.cons (.refl _) (.cons (.refl _) (.cons (.refl _) (.cons (.refl _) (.cons (.refl _) (.cons (.refl _) (.cons (.refl _) (.cons (.refl _) (.cons (Weak.nil _) (.cons (Weak.nil _) (.cons (.refl _) (.cons (.refl _) (.cons (.refl _) (.cons (.refl _) (.cons (.refl _) (.cons (.refl _) (.cons (.refl _) (.cons (.refl _) .nil)))))))))))))))))))) .nil)))) <| .c oz1 <| .n)
theorem joinOf_le (T U : Ten) (n : Nod) (h : T.d.length ≤ 1024) : (joinOf T U n).1.d.length ≤ 1024 := by
  unfold joinOf
  split
  · exact Nat.zero_le _
  · split
    · exact Nat.zero_le _
    · dsimp only; rw [List.length_map, List.length_range]; exact h
end Go.Proofs.Ytgimdjfbnbkpgaa

/- The other way round they make the same: the law. No condition. -/
namespace Go.Proofs.Ytgimdjfbnbkpgaa
open Go.RowKit
set_option linter.unusedSimpArgs false
set_option linter.unusedVariables false
set_option linter.unnecessarySimpa false

abbrev turnN (n : Nod) : Nod := ⟨n.kd, n.na, n.nb, n.nk, n.ns, n.np, n.no, n.zb, n.za, n.w, n.b, n.rm, n.rs, n.qz, n.qm, n.qs, n.qz, n.lo, n.hi⟩
theorem turn_ok {n : Nod} (h : n.Ok) : (turnN n).Ok := by
  obtain ⟨h1, h2, h3, h4, h5, h6, h7, h8, h9, ha, hb, hc, hd, he, hf, hg, hh, hi, hj⟩ := h
  constructor <;> assumption
theorem joinE_turn (x y : Int) (n : Nod) : joinE y x (turnN n) = joinE x y n := by
  unfold joinE
  dsimp only
  rw [Bool.and_comm, Int.add_comm (rnd ((y - n.zb) * n.rm) n.rs)]
theorem joinOf_turn (T U : Ten) (n : Nod) : joinOf U T (turnN n) = joinOf T U n := by
  unfold joinOf
  have e1 : (tenRight U && tenRight T && decide (U.h = T.h ∧ U.x = T.x ∧ U.c = T.c)) = (tenRight T && tenRight U && decide (T.h = U.h ∧ T.x = U.x ∧ T.c = U.c)) := by
    rw [Bool.and_comm (tenRight U)]
    congr 1
    rw [Bool.eq_iff_iff, decide_eq_true_eq, decide_eq_true_eq]
    exact ⟨fun ⟨a, b, c⟩ => ⟨a.symm, b.symm, c.symm⟩, fun ⟨a, b, c⟩ => ⟨a.symm, b.symm, c.symm⟩⟩
  have e2 : (rightQ (turnN n).qm (turnN n).qs && rightQ (turnN n).rm (turnN n).rs) = (rightQ n.qm n.qs && rightQ n.rm n.rs) := Bool.and_comm _ _
  rw [e1, e2]
  split
  · rfl
  · rename_i hc
    split
    · rfl
    · have hc : (tenRight T && tenRight U && decide (T.h = U.h ∧ T.x = U.x ∧ T.c = U.c)) = true := (Bool.not_eq_false _).mp hc
      simp only [Bool.and_eq_true, decide_eq_true_eq] at hc
      obtain ⟨⟨r1, r2⟩, h1, h2, h3⟩ := hc
      have l1 := (tenRight.rt r1).dl
      have l2 := (tenRight.rt r2).dl
      have hl : U.d.length = T.d.length := by
        rw [← h1, ← h2, ← h3] at l2; omega
      rw [hl, ← h1, ← h2, ← h3]
      congr 2
      apply List.map_congr_left
      intro i _
      exact joinE_turn _ _ n
set_option maxRecDepth 100000 in
set_option maxHeartbeats 2000000 in
theorem joinTurned_n (T U : Ten) (n : Nod) (h : T.d.length > 1024 ∨ U.d.length > 1024) : VC Try.prog 4 ([ten .i8 T, ten .i8 U, nod n]) (bv true) := by
  have oz1 := @jknown_v
  exact VC.run (fn := Try.f4) (W := [.r [] [], .r [] [.op false, .op false, .op false, .op false, .sel 1], .br true, .r [] [.callr (rO oz1)]]) Try.func4 (by kernel_rfl) (.c (show (decide ((↑(List.map (row1 IntKind.i8) T.d).length : Int) > 1024) || decide ((↑(List.map (row1 IntKind.i8) U.d).length : Int) > 1024)) = true by (simp; omega)) <| .c oz1 <| .n)

set_option maxRecDepth 100000 in
set_option maxHeartbeats 2000000 in
theorem joinTurned_y (T U : Ten) (n : Nod) (hj : VC Try.prog 7 [ten .i8 T, ten .i8 U, nod n] (.tup [ten .i8 (joinOf T U n).1, i64 (joinOf T U n).2])) (ht : VC Try.prog 7 [ten .i8 U, ten .i8 T, nod (turnN n)] (.tup [ten .i8 (joinOf T U n).1, i64 (joinOf T U n).2])) (h : T.d.length ≤ 1024) (g : U.d.length ≤ 1024) : VC Try.prog 4 ([ten .i8 T, ten .i8 U, nod n]) (bv true) := by
  have q := joinOf_le T U n h
  have oz1 := @hj
  have oz2 := @ht
  have oz3 := (show ((joinOf T U n).snd == (joinOf T U n).snd) = true by (refine decide_eq_true ?_; omega))
  have oz6 := @rtsame_v ((joinOf T U n).fst) (by omega)
  have oz8 := (show true = true by with_reducible rfl)
  have oz9 := @jknown_v
  exact VC.run (fn := Try.f4) (W := [.r [] [], .r [] [.op false, .op false, .op false, .op false, .sel 1], .br false, .r [] [], .r [] [], .r [] [], .r [] [], .r [] [], .r [] [], .r [] [.callr (rO oz1)], .r [] [.callr (rO oz2)], .r [] [.br true, .br true, .br true, .callr (rO oz6), .br true, .br true, .callr (rO oz9), .br true]]) Try.func4 (by kernel_rfl) (.c (show (decide ((↑(List.map (row1 IntKind.i8) T.d).length : Int) > 1024) || decide ((↑(List.map (row1 IntKind.i8) U.d).length : Int) > 1024)) = false by (simp; omega)) <| .c oz1 <| .c oz2 <| .c oz3 <| .c oz3 <| .c oz3 <| .c oz6 <| .c oz3 <| .c oz8 <| .c oz9 <| .c oz8 <| .n)
theorem joinTurned_v (T U : Ten) (n : Nod) (ok : T.Ok) (oku : U.Ok) (okn : n.Ok) : VC Try.prog 4 [ten .i8 T, ten .i8 U, nod n] (bv true) := by
  by_cases h : T.d.length > 1024 ∨ U.d.length > 1024
  · exact joinTurned_n T U n h
  · have q := jof_v U T (turnN n) oku ok (turn_ok okn)
    rw [joinOf_turn T U n] at q
    exact joinTurned_y T U n (jof_v T U n ok oku okn) q (by omega) (by omega)
end Go.Proofs.Ytgimdjfbnbkpgaa

