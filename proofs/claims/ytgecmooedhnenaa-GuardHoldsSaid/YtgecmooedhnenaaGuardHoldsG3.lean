/- Texts of this claim, put together: Base, At, Times, Shape, FixP, FixA, FixB, FixC, Core, Fin, Elems, Open, Rdr, St2, Cv, Cw, Cx, Cy, Cz, CvR, CvM, Sh, Dp, Dq, Dr. No condition. -/
import Derived.Test.YtgecmooedhnenaaProg
import Derived.WalkKit
import Derived.Below
import Derived.LoopTactic
import Derived.RegionTactic
import Derived.ChangeAlike
import Derived.BigRegion
import Derived.Deep.QuietTactic
import Derived.BigQuiet
import Derived.Lib.Hide
import Derived.WalkSpells
import Derived.WalkLawsBesides
import Derived.WalkSmall
import Derived.Laws.BytesString
import Derived.Laws.IdiomStrings
import Derived.Laws.BitsAllLaws
import Derived.Laws.AppendOwnNone
import Derived.PlainAid
import Derived.Laws.Tables
import Derived.Laws.CopyOwn
import Derived.Deep.WholeRow
import Derived.Laws.ResultCell
import Derived.Shelf.Bits.Mul64
import Derived.Handy
import Derived.ScopeJumps
import Derived.Deep.Slices
import Derived.ProofKit
import Derived.OpenShut
import Derived.ShutString
import Derived.ChangeOld
import Derived.Test.YtgecmooedhnenaaGuardHoldsG2
set_option linter.unusedVariables false
set_option linter.unusedSimpArgs false
set_option linter.unnecessarySimpa false
/- Words that all texts of this seat share: a slice that reads as a list of values, and how that reading is kept. No condition. -/
namespace Go.Proofs.Ytgecmooedhnenaa
open Go.RowKit

theorem ret_int {k : IntKind} {a b : Int} (h : a = b) : Ending.returned (.int k a) = .returned (.int k b) := by rw [h]
theorem lt_of_cell {w : World} {a : Addr} {v : Value} (h : w.cell? a = some v) : a.block < w.heap.size := World.block_lt_of_cell? w a h

theorem bl_get {w w' : World} (hb : Below w.heap.size w w') {b o : Nat} {v : Value} (h : w.cell? ⟨b, o, none⟩ = some v) : w'.cell? ⟨b, o, none⟩ = some v :=
  (hb.cell (p := ⟨b, o, none⟩) (lt_of_cell h)).trans h

/-- A goal at which the walk is to stand still: 'go_wp2_with (at_builtin; refine hold ?_)', then 'refine unheld ?_'. -/
def Held (p : Prop) : Prop := p
theorem hold {p : Prop} (h : Held p) : p := h
theorem unheld {p : Prop} (h : p) : Held p := h

theorem add_off (b off j : Nat) : (⟨b, off, none⟩ : Addr).add j = ⟨b, off + j, none⟩ := by unfold Addr.add; split <;> simp_all

theorem wf_i64 {n : Int} (h : (Lit.int .i64 n).wf = true) : -9223372036854775808 ≤ n ∧ n ≤ 9223372036854775807 := by
  simp only [Lit.wf, IntKind.min, IntKind.max, IntKind.signed, IntKind.bits, Bool.and_eq_true, decide_eq_true_eq] at h; simp at h; omega
theorem wf_i32 {n : Int} (h : (Lit.int .i32 n).wf = true) : -2147483648 ≤ n ∧ n ≤ 2147483647 := by
  simp only [Lit.wf, IntKind.min, IntKind.max, IntKind.signed, IntKind.bits, Bool.and_eq_true] at h; simp at h; omega
theorem wf_i8 {n : Int} (h : (Lit.int .i8 n).wf = true) : -128 ≤ n ∧ n ≤ 127 := by
  simp only [Lit.wf, IntKind.min, IntKind.max, IntKind.signed, IntKind.bits, Bool.and_eq_true] at h; simp at h; omega

end Go.Proofs.Ytgecmooedhnenaa

/- A block whose cells are all known. No condition. -/
namespace Go.Proofs.Ytgecmooedhnenaa
open Go.RowKit

/-- Block g holds the cells cs, of type t, none of them frozen. -/
def At (w : World) (g : Nat) (t : TypeId) (cs : Array Value) : Prop := w.heap[g]? = some (.cells cs t (0, 0))

theorem At.cell {w : World} {g : Nat} {t : TypeId} {cs : Array Value} (h : At w g t cs) (i : Nat) : w.cell? ⟨g, i, none⟩ = cs[i]? := by
  unfold At at h; simp [World.cell?, h]
theorem At.new (w : World) (t : TypeId) (cs : Array Value) : At (w.alloc (.cells cs t)) w.heap.size t cs := by
  show (w.heap.push _)[w.heap.size]? = _
  simp
end Go.Proofs.Ytgecmooedhnenaa

/- Products that fit, and how many numbers a shape has. No condition. -/
namespace Go.Proofs.Ytgecmooedhnenaa
open Go.RowKit

set_option maxHeartbeats 1000000 in
theorem mul64_any (x y : Nat) (hx : x < 18446744073709551616) (hy : y < 18446744073709551616) (w : World) :
    Calls Try.prog 231 #[.int .u64 x, .int .u64 y] w fun e w' => e = .returned (.tuple #[.int .u64 ((x * y / 18446744073709551616 : Nat) : Int), .int .u64 ((x * y % 18446744073709551616 : Nat) : Int)]) ∧ w' = w := by
  obtain ⟨bd, bt, bw, hhi⟩ := Lib.mul64_hi x y hx hy
  have ba := Lib.half_mul_le (a := x / 4294967296) (b := y / 4294967296) (by omega) (by omega)
  have bb := Lib.half_mul_le (a := x / 4294967296) (b := y % 4294967296) (by omega) (by omega)
  have bc := Lib.half_mul_le (a := x % 4294967296) (b := y / 4294967296) (by omega) (by omega)
  have ba' : x / 4294967296 * (y / 4294967296) < 18446744073709551616 := by omega
  have bb' : x / 4294967296 * (y % 4294967296) < 18446744073709551616 := by omega
  have bc' : x % 4294967296 * (y / 4294967296) < 18446744073709551616 := by omega
  have bh1 : x / 4294967296 * (y / 4294967296) + (x / 4294967296 * (y % 4294967296) + x % 4294967296 * (y % 4294967296) / 4294967296) / 4294967296 < 18446744073709551616 := by omega
  have bh : x / 4294967296 * (y / 4294967296) + (x / 4294967296 * (y % 4294967296) + x % 4294967296 * (y % 4294967296) / 4294967296) / 4294967296 + ((x / 4294967296 * (y % 4294967296) + x % 4294967296 * (y % 4294967296) / 4294967296) % 4294967296 + x % 4294967296 * (y / 4294967296)) / 4294967296 < 18446744073709551616 := by omega
  go_enter Try.func231, Try.ntmps231
  go_wp2
  simp only [Mul64.maskN x hx, Mul64.maskN y hy, Mul64.divN, Mul64.mulN, Mul64.addN, Mul64.wrapN _ bd, Mul64.wrapN _ bb', Mul64.wrapN _ bt, Mul64.maskN _ bt, Mul64.wrapN _ bc', Mul64.wrapN _ bw, Mul64.wrapN _ ba', Mul64.wrapN _ bh1, Mul64.wrapN _ bh, Mul64.wrapM (x * y)]
  rw [hhi]
  go_ret2
  exact ⟨rfl, rfl⟩

set_option maxHeartbeats 400000 in
theorem satSize_any (a : Int) (w : World) (a0 : -9223372036854775808 ≤ a) (a1 : a ≤ 9223372036854775807) :
    Calls Try.prog 232 #[.int .i64 a] w fun e w' => e = .returned (.int .u64 ((a.natAbs : Nat) : Int)) ∧ w = w' := by
  by_cases h : a < 0
  · go_enter Try.func232, Try.ntmps232
    go_wp2
    go_ret
    refine ⟨ret_int ?_, rfl⟩
    rw [IntKind.wrap_u64, IntKind.wrap_u64]; omega
  · have h' : 0 ≤ a := by omega
    go_enter Try.func232, Try.ntmps232
    go_wp2
    go_ret
    refine ⟨ret_int ?_, rfl⟩
    omega

theorem abs_sign (a b : Int) : (((a < 0) = (b < 0)) → a * b = ((a.natAbs * b.natAbs : Nat) : Int)) ∧ ((¬ (a < 0) = (b < 0)) → a * b = -((a.natAbs * b.natAbs : Nat) : Int)) := by
  rw [Int.natCast_mul]
  rcases Int.lt_or_le a 0 with ha | ha <;> rcases Int.lt_or_le b 0 with hb | hb
  · rw [show ((a.natAbs : Nat) : Int) = -a by omega, show ((b.natAbs : Nat) : Int) = -b by omega, Int.neg_mul_neg]
    exact ⟨fun _ => rfl, fun h => absurd (by simp [ha, hb]) h⟩
  · rw [show ((a.natAbs : Nat) : Int) = -a by omega, show ((b.natAbs : Nat) : Int) = b by omega, Int.neg_mul, Int.neg_neg]
    exact ⟨fun h => by simp [ha] at h; omega, fun _ => rfl⟩
  · rw [show ((a.natAbs : Nat) : Int) = a by omega, show ((b.natAbs : Nat) : Int) = -b by omega, Int.mul_neg, Int.neg_neg]
    exact ⟨fun h => by simp [hb] at h; omega, fun _ => rfl⟩
  · rw [show ((a.natAbs : Nat) : Int) = a by omega, show ((b.natAbs : Nat) : Int) = b by omega]
    exact ⟨fun _ => rfl, fun h => absurd (by simp [show ¬ a < 0 by omega, show ¬ b < 0 by omega]) h⟩

set_option maxHeartbeats 1600000 in
set_option maxRecDepth 100000 in
theorem times_any (a b : Int) (w : World) (a0 : -9223372036854775808 ≤ a) (a1 : a ≤ 9223372036854775807) (b0 : -9223372036854775808 ≤ b) (b1 : b ≤ 9223372036854775807) :
    Calls Try.prog 217 #[.int .i64 a, .int .i64 b] w fun e w' => ∃ q r, e = .returned (.tuple #[.int .i64 q, .bool r]) ∧ ((r = true ∧ q = a * b ∧ -9223372036854775808 ≤ a * b ∧ a * b ≤ 9223372036854775807) ∨ (r = false ∧ (a * b < -9223372036854775808 ∨ 9223372036854775807 < a * b))) ∧ w = w' := by
  obtain ⟨hs1, hs2⟩ := abs_sign a b
  obtain ⟨x, hx⟩ : ∃ x, x = a.natAbs := ⟨_, rfl⟩
  obtain ⟨y, hy⟩ : ∃ y, y = b.natAbs := ⟨_, rfl⟩
  have hxb : x < 18446744073709551616 := by omega
  have hyb : y < 18446744073709551616 := by omega
  rw [← hx, ← hy] at hs1 hs2
  obtain ⟨m, hm⟩ : ∃ m, m = a * b := ⟨_, rfl⟩
  rw [← hm] at hs1 hs2 ⊢
  obtain ⟨H, hH⟩ : ∃ H, H = x * y / 18446744073709551616 := ⟨_, rfl⟩
  obtain ⟨L, hL⟩ : ∃ L, L = x * y % 18446744073709551616 := ⟨_, rfl⟩
  have hp : x * y = 18446744073709551616 * H + L := by rw [hH, hL]; exact (Nat.div_add_mod _ _).symm
  have hLb : L < 18446744073709551616 := by rw [hL]; exact Nat.mod_lt _ (by decide)
  have hM := Lib.hid (mul64_any x y hxb hyb w)
  rw [← hH, ← hL] at hM
  have hS1 := Lib.hid (satSize_any a w a0 a1)
  have hS2 := Lib.hid (satSize_any b w b0 b1)
  rw [← hx] at hS1
  rw [← hy] at hS2
  rw [hp] at hs1 hs2
  have K1 := Lib.hid hs1; have K2 := Lib.hid hs2
  clear hs1 hs2 hp hH hL hm hx hy
  by_cases h1 : H = 0
  · subst h1
    have e1 : (((0 : Nat) : Int) != 0) = false := rfl
    have e1' : (((0 : Nat) : Int) == 0) = true := rfl
    rcases Int.lt_or_le a 0 with ha | ha <;> rcases Int.lt_or_le b 0 with hb | hb
    · skip
      have da : decide (a < 0) = true := by rw [decide_eq_true_eq]; omega
      have db : decide (b < 0) = true := by rw [decide_eq_true_eq]; omega
      have hm := K1.out (by simp only [eq_iff_iff]; omega)
      by_cases hL : L ≤ 9223372036854775807
      · have d1 : decide ((9223372036854775808 : Int) < (L : Int)) = false := by rw [decide_eq_false_iff_not]; omega
        have d2 : ((L : Int) == 9223372036854775808) = false := by rw [beq_eq_false_iff_ne]; omega
        go_enter Try.func217, Try.ntmps217
        go_wp2_with fail
        refine hS1.out.mono ?_
        rintro e w' ⟨rfl, rfl⟩
        go_wp2_with fail
        refine hS2.out.mono ?_
        rintro e w' ⟨rfl, rfl⟩
        go_wp2_with fail
        refine hM.out.mono ?_
        rintro e w' ⟨rfl, rfl⟩
        go_wp2_with fail
        go_ret2
        refine ⟨_, true, rfl, .inl ⟨rfl, ?_, ?_, ?_⟩, rfl⟩ <;> first | omega | (simp [wrap64]; omega)
      · by_cases hL2 : L = 9223372036854775808
        · subst hL2
          have d1 : decide ((9223372036854775808 : Int) < ((9223372036854775808 : Nat) : Int)) = false := by decide
          have d2 : (((9223372036854775808 : Nat) : Int) == 9223372036854775808) = true := by decide
          go_enter Try.func217, Try.ntmps217
          go_wp2_with fail
          refine hS1.out.mono ?_
          rintro e w' ⟨rfl, rfl⟩
          go_wp2_with fail
          refine hS2.out.mono ?_
          rintro e w' ⟨rfl, rfl⟩
          go_wp2_with fail
          refine hM.out.mono ?_
          rintro e w' ⟨rfl, rfl⟩
          go_wp2_with fail
          go_ret2
          exact ⟨_, _, rfl, .inr ⟨rfl, by omega⟩, rfl⟩
        · have d1 : decide ((9223372036854775808 : Int) < (L : Int)) = true := by rw [decide_eq_true_eq]; omega
          go_enter Try.func217, Try.ntmps217
          go_wp2_with fail
          refine hS1.out.mono ?_
          rintro e w' ⟨rfl, rfl⟩
          go_wp2_with fail
          refine hS2.out.mono ?_
          rintro e w' ⟨rfl, rfl⟩
          go_wp2_with fail
          refine hM.out.mono ?_
          rintro e w' ⟨rfl, rfl⟩
          go_wp2_with fail
          go_ret2
          exact ⟨_, _, rfl, .inr ⟨rfl, by omega⟩, rfl⟩
    · skip
      have da : decide (a < 0) = true := by rw [decide_eq_true_eq]; omega
      have db : decide (b < 0) = false := by rw [decide_eq_false_iff_not]; omega
      have hm := K2.out (by simp only [eq_iff_iff]; omega)
      by_cases hL : L ≤ 9223372036854775807
      · have d1 : decide ((9223372036854775808 : Int) < (L : Int)) = false := by rw [decide_eq_false_iff_not]; omega
        have d2 : ((L : Int) == 9223372036854775808) = false := by rw [beq_eq_false_iff_ne]; omega
        go_enter Try.func217, Try.ntmps217
        go_wp2_with fail
        refine hS1.out.mono ?_
        rintro e w' ⟨rfl, rfl⟩
        go_wp2_with fail
        refine hS2.out.mono ?_
        rintro e w' ⟨rfl, rfl⟩
        go_wp2_with fail
        refine hM.out.mono ?_
        rintro e w' ⟨rfl, rfl⟩
        go_wp2_with fail
        go_ret2
        refine ⟨_, true, rfl, .inl ⟨rfl, ?_, ?_, ?_⟩, rfl⟩ <;> first | omega | (simp only [IntKind.wrap_u64]; unfold wrap64; omega)
      · by_cases hL2 : L = 9223372036854775808
        · subst hL2
          have d1 : decide ((9223372036854775808 : Int) < ((9223372036854775808 : Nat) : Int)) = false := by decide
          have d2 : (((9223372036854775808 : Nat) : Int) == 9223372036854775808) = true := by decide
          go_enter Try.func217, Try.ntmps217
          go_wp2_with fail
          refine hS1.out.mono ?_
          rintro e w' ⟨rfl, rfl⟩
          go_wp2_with fail
          refine hS2.out.mono ?_
          rintro e w' ⟨rfl, rfl⟩
          go_wp2_with fail
          refine hM.out.mono ?_
          rintro e w' ⟨rfl, rfl⟩
          go_wp2_with fail
          go_ret2
          refine ⟨_, true, rfl, .inl ⟨rfl, ?_, ?_, ?_⟩, rfl⟩ <;> first | omega | (rw [IntKind.wrap_u64]; unfold wrap64; omega)
        · have d1 : decide ((9223372036854775808 : Int) < (L : Int)) = true := by rw [decide_eq_true_eq]; omega
          go_enter Try.func217, Try.ntmps217
          go_wp2_with fail
          refine hS1.out.mono ?_
          rintro e w' ⟨rfl, rfl⟩
          go_wp2_with fail
          refine hS2.out.mono ?_
          rintro e w' ⟨rfl, rfl⟩
          go_wp2_with fail
          refine hM.out.mono ?_
          rintro e w' ⟨rfl, rfl⟩
          go_wp2_with fail
          go_ret2
          exact ⟨_, _, rfl, .inr ⟨rfl, by omega⟩, rfl⟩
    · skip
      have da : decide (a < 0) = false := by rw [decide_eq_false_iff_not]; omega
      have db : decide (b < 0) = true := by rw [decide_eq_true_eq]; omega
      have hm := K2.out (by simp only [eq_iff_iff]; omega)
      by_cases hL : L ≤ 9223372036854775807
      · have d1 : decide ((9223372036854775808 : Int) < (L : Int)) = false := by rw [decide_eq_false_iff_not]; omega
        have d2 : ((L : Int) == 9223372036854775808) = false := by rw [beq_eq_false_iff_ne]; omega
        go_enter Try.func217, Try.ntmps217
        go_wp2_with fail
        refine hS1.out.mono ?_
        rintro e w' ⟨rfl, rfl⟩
        go_wp2_with fail
        refine hS2.out.mono ?_
        rintro e w' ⟨rfl, rfl⟩
        go_wp2_with fail
        refine hM.out.mono ?_
        rintro e w' ⟨rfl, rfl⟩
        go_wp2_with fail
        go_ret2
        refine ⟨_, true, rfl, .inl ⟨rfl, ?_, ?_, ?_⟩, rfl⟩ <;> first | omega | (simp only [IntKind.wrap_u64]; unfold wrap64; omega)
      · by_cases hL2 : L = 9223372036854775808
        · subst hL2
          have d1 : decide ((9223372036854775808 : Int) < ((9223372036854775808 : Nat) : Int)) = false := by decide
          have d2 : (((9223372036854775808 : Nat) : Int) == 9223372036854775808) = true := by decide
          go_enter Try.func217, Try.ntmps217
          go_wp2_with fail
          refine hS1.out.mono ?_
          rintro e w' ⟨rfl, rfl⟩
          go_wp2_with fail
          refine hS2.out.mono ?_
          rintro e w' ⟨rfl, rfl⟩
          go_wp2_with fail
          refine hM.out.mono ?_
          rintro e w' ⟨rfl, rfl⟩
          go_wp2_with fail
          go_ret2
          refine ⟨_, true, rfl, .inl ⟨rfl, ?_, ?_, ?_⟩, rfl⟩ <;> first | omega | (rw [IntKind.wrap_u64]; unfold wrap64; omega)
        · have d1 : decide ((9223372036854775808 : Int) < (L : Int)) = true := by rw [decide_eq_true_eq]; omega
          go_enter Try.func217, Try.ntmps217
          go_wp2_with fail
          refine hS1.out.mono ?_
          rintro e w' ⟨rfl, rfl⟩
          go_wp2_with fail
          refine hS2.out.mono ?_
          rintro e w' ⟨rfl, rfl⟩
          go_wp2_with fail
          refine hM.out.mono ?_
          rintro e w' ⟨rfl, rfl⟩
          go_wp2_with fail
          go_ret2
          exact ⟨_, _, rfl, .inr ⟨rfl, by omega⟩, rfl⟩
    · skip
      have da : decide (a < 0) = false := by rw [decide_eq_false_iff_not]; omega
      have db : decide (b < 0) = false := by rw [decide_eq_false_iff_not]; omega
      have hm := K1.out (by simp only [eq_iff_iff]; omega)
      by_cases hL : L ≤ 9223372036854775807
      · have d1 : decide ((9223372036854775808 : Int) < (L : Int)) = false := by rw [decide_eq_false_iff_not]; omega
        have d2 : ((L : Int) == 9223372036854775808) = false := by rw [beq_eq_false_iff_ne]; omega
        go_enter Try.func217, Try.ntmps217
        go_wp2_with fail
        refine hS1.out.mono ?_
        rintro e w' ⟨rfl, rfl⟩
        go_wp2_with fail
        refine hS2.out.mono ?_
        rintro e w' ⟨rfl, rfl⟩
        go_wp2_with fail
        refine hM.out.mono ?_
        rintro e w' ⟨rfl, rfl⟩
        go_wp2_with fail
        go_ret2
        refine ⟨_, true, rfl, .inl ⟨rfl, ?_, ?_, ?_⟩, rfl⟩ <;> first | omega | (simp [wrap64]; omega)
      · by_cases hL2 : L = 9223372036854775808
        · subst hL2
          have d1 : decide ((9223372036854775808 : Int) < ((9223372036854775808 : Nat) : Int)) = false := by decide
          have d2 : (((9223372036854775808 : Nat) : Int) == 9223372036854775808) = true := by decide
          go_enter Try.func217, Try.ntmps217
          go_wp2_with fail
          refine hS1.out.mono ?_
          rintro e w' ⟨rfl, rfl⟩
          go_wp2_with fail
          refine hS2.out.mono ?_
          rintro e w' ⟨rfl, rfl⟩
          go_wp2_with fail
          refine hM.out.mono ?_
          rintro e w' ⟨rfl, rfl⟩
          go_wp2_with fail
          go_ret2
          exact ⟨_, _, rfl, .inr ⟨rfl, by omega⟩, rfl⟩
        · have d1 : decide ((9223372036854775808 : Int) < (L : Int)) = true := by rw [decide_eq_true_eq]; omega
          go_enter Try.func217, Try.ntmps217
          go_wp2_with fail
          refine hS1.out.mono ?_
          rintro e w' ⟨rfl, rfl⟩
          go_wp2_with fail
          refine hS2.out.mono ?_
          rintro e w' ⟨rfl, rfl⟩
          go_wp2_with fail
          refine hM.out.mono ?_
          rintro e w' ⟨rfl, rfl⟩
          go_wp2_with fail
          go_ret2
          exact ⟨_, _, rfl, .inr ⟨rfl, by omega⟩, rfl⟩
  · have e1 : ((H : Int) != 0) = true := by rw [bne_iff_ne]; omega
    have e1' : ((H : Int) == 0) = false := by rw [beq_eq_false_iff_ne]; omega
    have hbig : m < -9223372036854775808 ∨ 9223372036854775807 < m := by
      by_cases h : (a < 0) = (b < 0)
      · have := K1.out h; omega
      · have := K2.out h; omega
    clear h1
    go_enter Try.func217, Try.ntmps217
    go_wp2_with fail
    refine hS1.out.mono ?_
    rintro e w' ⟨rfl, rfl⟩
    go_wp2_with fail
    refine hS2.out.mono ?_
    rintro e w' ⟨rfl, rfl⟩
    go_wp2_with fail
    refine hM.out.mono ?_
    rintro e w' ⟨rfl, rfl⟩
    go_wp2_with fail
    go_ret2
    exact ⟨_, _, rfl, .inr ⟨rfl, hbig⟩, rfl⟩
end Go.Proofs.Ytgecmooedhnenaa

/- How many numbers a shape has, by the program and by the document. No condition. -/
namespace Go.Proofs.Ytgecmooedhnenaa
open Go.RowKit

/-- How many numbers a shape has; 0: it may not be. -/
def elems (h w c : Int) : Int := if 1 ≤ h ∧ h ≤ 16 ∧ 1 ≤ w ∧ w ≤ 16 ∧ 1 ≤ c ∧ c ≤ 1024 ∧ h * w * c ≤ 1024 then h * w * c else 0
theorem elems_bd (h w c : Int) : 0 ≤ elems h w c ∧ elems h w c ≤ 1024 := by
  unfold elems
  split
  · rename_i hh
    obtain ⟨h1, h2, w1, w2, c1, c2, hp⟩ := hh
    exact ⟨Int.mul_nonneg (Int.mul_nonneg (by omega) (by omega)) (by omega), hp⟩
  · omega

/-- A product step by step: 1 ≤ side, and never above 1024. -/
def prodTo : List Int → Int → Option Int
  | [], n => some n
  | x :: l, n => if 1 ≤ x ∧ n * x ≤ 1024 then prodTo l (n * x) else none
theorem prodTo_elems (h w c : Int) (h16 : h ≤ 16) (w16 : w ≤ 16) : (prodTo [h, w, c] 1).getD 0 = elems h w c := by
  unfold elems
  simp only [prodTo, Int.one_mul]
  by_cases h1 : 1 ≤ h
  · by_cases w1 : 1 ≤ w
    · by_cases c1 : 1 ≤ c
      · have p1 : 1 ≤ h * w := by have := Int.mul_le_mul h1 w1 (by omega) (by omega); simpa using this
        have p2 : c ≤ h * w * c := by have := Int.mul_le_mul_of_nonneg_right p1 (show 0 ≤ c by omega); simpa using this
        have p3 : h * w ≤ h * w * c := by have := Int.mul_le_mul_of_nonneg_left c1 (show 0 ≤ h * w by omega); simpa using this
        by_cases hp : h * w * c ≤ 1024
        · rw [if_pos ⟨h1, by omega⟩, if_pos ⟨w1, by omega⟩, if_pos ⟨c1, hp⟩, if_pos ⟨h1, h16, w1, w16, c1, by omega, hp⟩]; rfl
        · rw [if_neg (c := 1 ≤ h ∧ h ≤ 16 ∧ _) (fun x => hp x.2.2.2.2.2.2)]
          split
          · split
            · rw [if_neg (fun x => hp x.2)]; rfl
            · rfl
          · rfl
      · rw [if_neg (c := 1 ≤ h ∧ h ≤ 16 ∧ _) (fun x => c1 x.2.2.2.2.1)]
        split
        · split
          · rw [if_neg (fun x => c1 x.1)]; rfl
          · rfl
        · rfl
    · rw [if_neg (c := 1 ≤ h ∧ h ≤ 16 ∧ _) (fun x => w1 x.2.2.1)]
      split
      · rw [if_neg (fun x => w1 x.1)]; rfl
      · rfl
  · rw [if_neg (c := 1 ≤ h ∧ h ≤ 16 ∧ _) (fun x => h1 x.1), if_neg (fun x => h1 x.1)]; rfl

set_option maxHeartbeats 1600000 in
set_option maxRecDepth 100000 in
theorem product_any (x y z : Int) (w : World) (x0 : -9223372036854775808 ≤ x) (x1 : x ≤ 9223372036854775807) (y0 : -9223372036854775808 ≤ y) (y1 : y ≤ 9223372036854775807) (z0 : -9223372036854775808 ≤ z) (z1 : z ≤ 9223372036854775807) :
    Calls Try.prog 189 #[.agg #[.int .i64 x, .int .i64 y, .int .i64 z]] w fun e w' => e = .returned (.int .i64 ((prodTo [x, y, z] 1).getD 0)) ∧ Below w.heap.size w w' := by
  go_enter Try.func189, Try.ntmps189
  go_wp2_with fail
  obtain ⟨w1, hw1⟩ : ∃ w1, w1 = w.alloc (.cells #[.int .i64 x, .int .i64 y, .int .i64 z] 250) := ⟨_, rfl⟩
  have ha := At.new w 250 #[.int .i64 x, .int .i64 y, .int .i64 z]
  have hb1 : Below w.heap.size w w1 := by rw [hw1]; exact (Below.refl _ _).alloc (Nat.le_refl _) _
  rw [← hw1] at ha ⊢
  clear hw1
  go_loop [2, 3, 4, 5, 6, 7] (fun r n _ _ _ i => ∃ (k : Nat) (N : Int), r = .int .i64 0 ∧ i = .int .i64 k ∧ k ≤ 3 ∧ n = .int .i64 N ∧ 1 ≤ N ∧ N ≤ 1024 ∧ prodTo ([x, y, z].drop k) N = prodTo [x, y, z] 1) (fun _ _ _ _ _ i => 3 - (intOf i).toNat)
  case atStart => exact ⟨0, 1, rfl, rfl, by omega, rfl, by omega, by omega, rfl⟩
  case round =>
    obtain ⟨k, N, rfl, rfl, hk, rfl, N0, N1, hp⟩ := hrel
    by_cases hlt : k < 3
    · obtain ⟨v, hv, v0, v1, hd⟩ : ∃ v, w1.cell? ⟨w.heap.size, k, none⟩ = some (.int .i64 v) ∧ -9223372036854775808 ≤ v ∧ v ≤ 9223372036854775807 ∧ [x, y, z].drop k = v :: [x, y, z].drop (k + 1) := by
        match k, hlt with
        | 0, _ => exact ⟨x, ha.cell 0, x0, x1, rfl⟩
        | 1, _ => exact ⟨y, ha.cell 1, y0, y1, rfl⟩
        | 2, _ => exact ⟨z, ha.cell 2, z0, z1, rfl⟩
      rw [hd] at hp
      have HP := Lib.hid hp
      have kk0 : (0 : Int) ≤ (k : Int) := by omega
      have kk1 : (k : Int) < 3 := by omega
      clear hp hd
      go_wp2_with fail
      refine (times_any N v _ (by omega) (by omega) v0 v1).mono ?_
      rintro e w' ⟨q, r, rfl, hqr, rfl⟩
      rcases hqr with ⟨rfl, rfl, q0, q1⟩ | ⟨rfl, hq⟩
      · by_cases hv1 : v < 1
        · have HN : Hid ((prodTo [x, y, z] 1).getD 0 = 0) := by
            refine Lib.hid ?_
            rw [← HP.out]; simp only [prodTo]; rw [if_neg (by omega)]; rfl
          go_wp2_with fail
          go_ret
          exact ⟨by rw [HN.out]; rfl, hb1⟩
        · by_cases hb : 1024 < N * v
          · have HN : Hid ((prodTo [x, y, z] 1).getD 0 = 0) := by
              refine Lib.hid ?_
              rw [← HP.out]; simp only [prodTo]; rw [if_neg (by omega)]; rfl
            go_wp2_with fail
            go_ret
            exact ⟨by rw [HN.out]; rfl, hb1⟩
          · have hpos : 1 ≤ N * v := by have := Int.mul_le_mul N0 (show 1 ≤ v by omega) (by omega) (by omega); simpa using this
            go_wp2_with fail
            go_round
            case rel => exact ⟨k + 1, N * v, rfl, by go_num, by omega, rfl, hpos, by omega, by rw [← HP.out]; simp only [prodTo]; rw [if_pos (by omega)]⟩
            case measure => simp [intOf]; omega
      · have HN : Hid ((prodTo [x, y, z] 1).getD 0 = 0) := by
          refine Lib.hid ?_
          rw [← HP.out]; simp only [prodTo]; rw [if_neg ?_]; rfl
          intro hh
          have : 0 ≤ N * v := Int.mul_nonneg (by omega) (by omega)
          omega
        go_wp2_with fail
        go_ret
        exact ⟨by rw [HN.out]; rfl, hb1⟩
    · obtain rfl : k = 3 := by omega
      have hp' : some N = prodTo [x, y, z] 1 := hp
      have HN : Hid ((prodTo [x, y, z] 1).getD 0 = N) := by refine Lib.hid ?_; rw [← hp']; rfl
      clear hp hp'
      go_wp2_with fail
      go_ret
      exact ⟨by rw [HN.out]; rfl, hb1⟩

set_option maxHeartbeats 800000 in
set_option maxRecDepth 100000 in
theorem elems_any (h x c : Int) (w : World) (h0 : -9223372036854775808 ≤ h) (h1 : h ≤ 9223372036854775807) (x0 : -9223372036854775808 ≤ x) (x1 : x ≤ 9223372036854775807) (c0 : -9223372036854775808 ≤ c) (c1 : c ≤ 9223372036854775807) :
    Calls Try.prog 124 #[.agg #[.int .i64 h, .int .i64 x, .int .i64 c]] w fun e w' => e = .returned (.int .i64 (elems h x c)) ∧ Below w.heap.size w w' := by
  by_cases hh : 16 < h
  · have HE : Hid (elems h x c = 0) := by refine Lib.hid ?_; unfold elems; rw [if_neg (by omega)]
    go_enter Try.func124, Try.ntmps124
    go_wp2
    go_ret
    exact ⟨by rw [HE.out]; rfl, (Below.refl _ _).alloc (Nat.le_refl _) _⟩
  · by_cases hx : 16 < x
    · have HE : Hid (elems h x c = 0) := by refine Lib.hid ?_; unfold elems; rw [if_neg (by omega)]
      go_enter Try.func124, Try.ntmps124
      go_wp2
      go_ret
      exact ⟨by rw [HE.out]; rfl, (Below.refl _ _).alloc (Nat.le_refl _) _⟩
    · have HE := Lib.hid (prodTo_elems h x c (by omega) (by omega))
      go_enter Try.func124, Try.ntmps124
      go_wp2_with fail
      refine (product_any h x c _ h0 h1 x0 x1 c0 c1).mono ?_
      rintro e w' ⟨rfl, hb⟩
      rw [HE.out]
      go_wp2
      go_ret
      exact ⟨rfl, ((Below.refl _ _).alloc (Nat.le_refl _) _).trans (hb.mono (by simp))⟩

set_option maxHeartbeats 1600000 in
set_option maxRecDepth 100000 in
theorem refElems_any (h x c : Int) (w : World) (h0 : -9223372036854775808 ≤ h) (h1 : h ≤ 9223372036854775807) (x0 : -9223372036854775808 ≤ x) (x1 : x ≤ 9223372036854775807) (c0 : -9223372036854775808 ≤ c) (c1 : c ≤ 9223372036854775807) :
    Calls Try.prog 61 #[.agg #[.int .i64 h, .int .i64 x, .int .i64 c]] w fun e w' => e = .returned (.int .i64 (elems h x c)) ∧ Below w.heap.size w w' := by
  by_cases hr : 1 ≤ h ∧ h ≤ 16 ∧ 1 ≤ x ∧ x ≤ 16 ∧ 1 ≤ c ∧ c ≤ 1024
  · obtain ⟨a1, a2, a3, a4, a5, a6⟩ := hr
    have p1 : h * x ≤ 256 := by have := Int.mul_le_mul a2 a4 (by omega) (by omega); simpa using this
    have p0 : 1 ≤ h * x := by have := Int.mul_le_mul a1 a3 (by omega) (by omega); simpa using this
    have q1 : h * x * c ≤ 262144 := by have := Int.mul_le_mul p1 a6 (by omega) (by omega); simpa using this
    have q0 : 0 ≤ h * x * c := Int.mul_nonneg (by omega) (by omega)
    by_cases hp : 1024 < h * x * c
    · have HE : Hid (elems h x c = 0) := by refine Lib.hid ?_; unfold elems; rw [if_neg (fun y => by have := y.2.2.2.2.2.2; omega)]
      go_enter Try.func61, Try.ntmps61
      go_wp2
      go_ret
      exact ⟨by rw [HE.out]; rfl, (Below.refl _ _).alloc (Nat.le_refl _) _⟩
    · have HE : Hid (elems h x c = h * x * c) := by refine Lib.hid ?_; unfold elems; rw [if_pos ⟨a1, a2, a3, a4, a5, a6, by omega⟩]
      go_enter Try.func61, Try.ntmps61
      go_wp2
      go_ret
      exact ⟨by rw [HE.out]; rfl, (Below.refl _ _).alloc (Nat.le_refl _) _⟩
  · have HE : Hid (elems h x c = 0) := by refine Lib.hid ?_; unfold elems; rw [if_neg (fun y => hr ⟨y.1, y.2.1, y.2.2.1, y.2.2.2.1, y.2.2.2.2.1, y.2.2.2.2.2.1⟩)]
    have hor : h < 1 ∨ (1 ≤ h ∧ 16 < h) ∨ (1 ≤ h ∧ h ≤ 16 ∧ x < 1) ∨ (1 ≤ h ∧ h ≤ 16 ∧ 1 ≤ x ∧ 16 < x) ∨ (1 ≤ h ∧ h ≤ 16 ∧ 1 ≤ x ∧ x ≤ 16 ∧ c < 1) ∨ (1 ≤ h ∧ h ≤ 16 ∧ 1 ≤ x ∧ x ≤ 16 ∧ 1 ≤ c ∧ 1024 < c) := by omega
    clear hr
    rcases hor with g | ⟨g1, g⟩ | ⟨g1, g2, g⟩ | ⟨g1, g2, g3, g⟩ | ⟨g1, g2, g3, g4, g⟩ | ⟨g1, g2, g3, g4, g5, g⟩
    all_goals
      go_enter Try.func61, Try.ntmps61
      go_wp2
      go_ret
      exact ⟨by rw [HE.out]; rfl, (Below.refl _ _).alloc (Nat.le_refl _) _⟩
end Go.Proofs.Ytgecmooedhnenaa

/- Plain laws of numbers by powers of two, rounded to the nearest, halves away from 0. No program here. No condition. -/
namespace Go.Proofs.Ytgecmooedhnenaa

/-- A number by 2 to the s, to the nearest, halves up. -/
def rn (m s : Nat) : Nat := if s = 0 then m else m / 2 ^ s + m / 2 ^ (s - 1) % 2
def rnd (v s : Int) : Int := if s < 0 ∨ 62 < s then 0 else if 0 ≤ v then (rn v.toNat s.toNat : Int) else -(rn (-v).toNat s.toNat : Int)

theorem rn_succ (m s : Nat) : rn m (s + 1) = (m / 2 ^ s + 1) / 2 := by
  unfold rn
  rw [if_neg (by omega), Nat.add_sub_cancel, Nat.pow_succ, ← Nat.div_div_eq_div_mul]
  omega
theorem rn_half (m s : Nat) (hs : 0 < s) : rn m s = (m + 2 ^ (s - 1)) / 2 ^ s := by
  obtain ⟨t, rfl⟩ : ∃ t, s = t + 1 := ⟨s - 1, by omega⟩
  rw [rn_succ, Nat.add_sub_cancel, Nat.pow_succ, ← Nat.div_div_eq_div_mul, Nat.add_div_right _ (Nat.two_pow_pos t)]
theorem rn_mono (m n s : Nat) (h : m ≤ n) : rn m s ≤ rn n s := by
  by_cases hs : s = 0
  · subst hs; simpa [rn] using h
  · rw [rn_half _ _ (by omega), rn_half _ _ (by omega)]
    exact Nat.div_le_div_right (by omega)
theorem rn_le (m s : Nat) : rn m s ≤ m := by
  by_cases hs : s = 0
  · subst hs; simp [rn]
  · obtain ⟨t, rfl⟩ : ∃ t, s = t + 1 := ⟨s - 1, by omega⟩
    rw [rn_succ]
    have := Nat.div_le_self m (2 ^ t)
    omega
theorem rnd_mono (v u s : Int) (h : v ≤ u) : rnd v s ≤ rnd u s := by
  unfold rnd
  split
  · omega
  · split
    · rw [if_pos (by omega)]
      have := rn_mono v.toNat u.toNat s.toNat (by omega)
      omega
    · split
      · omega
      · have := rn_mono (-u).toNat (-v).toNat s.toNat (by omega)
        omega
theorem rnd_abs (v s : Int) : -(v.natAbs : Int) ≤ rnd v s ∧ rnd v s ≤ v.natAbs := by
  unfold rnd
  split
  · omega
  · split
    · have := rn_le v.toNat s.toNat; omega
    · have := rn_le (-v).toNat s.toNat; omega
theorem rnd_bd (v s : Int) (B : Int) (h1 : -B ≤ v) (h2 : v ≤ B) : -B ≤ rnd v s ∧ rnd v s ≤ B := by
  have := rnd_abs v s; omega

/-- The document's way: by the quotient and the rest that Go's division gives. -/
theorem ref_round (v : Int) (s : Nat) :
    (if 0 ≤ v.tmod (2 ^ s) ∧ (2 : Int) ^ s - v.tmod (2 ^ s) ≤ v.tmod (2 ^ s) ∧ (1 : Int) < 2 ^ s then v.tdiv (2 ^ s) + 1
      else if v.tmod (2 ^ s) < 0 ∧ (2 : Int) ^ s + v.tmod (2 ^ s) ≤ -v.tmod (2 ^ s) then v.tdiv (2 ^ s) - 1 else v.tdiv (2 ^ s)) =
    if 0 ≤ v then (rn v.toNat s : Int) else -(rn (-v).toNat s : Int) := by
  have hp : (0 : Int) < 2 ^ s := Int.pow_pos (by decide)
  have key : ∀ m : Nat, (rn m s : Int) = if (2 : Int) ^ s - (m : Int) % 2 ^ s ≤ (m : Int) % 2 ^ s ∧ (1 : Int) < 2 ^ s then (m : Int) / 2 ^ s + 1 else (m : Int) / 2 ^ s := by
    intro m
    have e : ((2 : Int) ^ s) = ((2 ^ s : Nat) : Int) := by simp
    rw [e]
    by_cases hs : s = 0
    · subst hs; simp [rn]
    · obtain ⟨t, rfl⟩ : ∃ t, s = t + 1 := ⟨s - 1, by omega⟩
      have e2 : 2 ^ (t + 1) = 2 * 2 ^ t := by rw [Nat.pow_succ]; omega
      have hz := Nat.two_pow_pos t
      unfold rn
      rw [if_neg (by omega), Nat.add_sub_cancel]
      have h1 := Nat.div_add_mod m (2 ^ (t + 1))
      have h2 := Nat.mod_lt m (Nat.two_pow_pos (t + 1))
      -- the bit below
      have hb : m / 2 ^ t % 2 = if 2 ^ t ≤ m % 2 ^ (t + 1) then 1 else 0 := by
        rw [e2] at h1 h2 ⊢
        have h3 : m / 2 ^ t = 2 * (m / (2 * 2 ^ t)) + (m % (2 * 2 ^ t)) / 2 ^ t := by
          conv => lhs; rw [← h1]
          rw [Nat.mul_assoc, Nat.mul_comm (2 ^ t) (m / (2 * 2 ^ t)), ← Nat.mul_assoc, Nat.add_comm, Nat.add_mul_div_right _ _ hz, Nat.add_comm]
        rw [h3]
        split
        · rename_i h
          have : m % (2 * 2 ^ t) / 2 ^ t = 1 := Nat.div_eq_of_lt_le (by omega) (by omega)
          omega
        · rename_i h
          have : m % (2 * 2 ^ t) / 2 ^ t = 0 := Nat.div_eq_of_lt (by omega)
          omega
      rw [hb]
      have c1 : ((m : Int) % ((2 ^ (t + 1) : Nat) : Int)) = ((m % 2 ^ (t + 1) : Nat) : Int) := by simp
      have c2 : ((m : Int) / ((2 ^ (t + 1) : Nat) : Int)) = ((m / 2 ^ (t + 1) : Nat) : Int) := by simp
      rw [c1, c2]
      generalize m % 2 ^ (t + 1) = R at *
      generalize m / 2 ^ (t + 1) = D at *
      rw [e2] at *
      generalize 2 ^ t = Z at *
      split <;> split <;> omega
  by_cases hv : 0 ≤ v
  · rw [if_pos hv, Int.tmod_eq_emod_of_nonneg hv, Int.tdiv_eq_ediv_of_nonneg hv, key v.toNat, Int.toNat_of_nonneg hv]
    have h1 := Int.emod_nonneg v (show (2 : Int) ^ s ≠ 0 by omega)
    generalize v % 2 ^ s = R at *
    generalize (2 : Int) ^ s = Z at *
    by_cases hc : Z - R ≤ R ∧ 1 < Z
    · rw [if_pos ⟨h1, hc⟩, if_pos hc]
    · rw [if_neg (fun h => hc h.2), if_neg (by omega), if_neg hc]
  · rw [if_neg hv]
    obtain ⟨u, rfl⟩ : ∃ u, v = -u := ⟨-v, by omega⟩
    have hu : 0 ≤ u := by omega
    rw [Int.neg_neg, Int.neg_tmod, Int.neg_tdiv, Int.tmod_eq_emod_of_nonneg hu, Int.tdiv_eq_ediv_of_nonneg hu, key u.toNat, Int.toNat_of_nonneg hu]
    have h1 := Int.emod_nonneg u (show (2 : Int) ^ s ≠ 0 by omega)
    have h3 : (2 : Int) ^ s = 1 → u % 2 ^ s = 0 := fun h => by rw [h]; omega
    generalize u % 2 ^ s = R at *
    generalize u / 2 ^ s = D at *
    generalize (2 : Int) ^ s = Z at *
    split <;> split <;> (try split) <;> omega

def clampI (v lo hi : Int) : Int := if v < lo then lo else if hi < v then hi else v
theorem clampI_mono (v u lo hi : Int) (h : v ≤ u) (hl : lo ≤ hi) : clampI v lo hi ≤ clampI u lo hi := by unfold clampI; split <;> split <;> (try split) <;> (try split) <;> omega

def rightQ (mult shift : Int) : Bool := decide (0 < mult) && decide (0 ≤ shift) && decide (shift ≤ 62)
def heldQ (acc mult shift zero lo hi : Int) : Int := if rightQ mult shift = true then clampI (rnd (acc * mult) shift + zero) lo hi else 0
end Go.Proofs.Ytgecmooedhnenaa

/- Numbers by powers of two: fix.Round and the document's, fix.Scale, and numbers between two. No condition. -/
namespace Go.Proofs.Ytgecmooedhnenaa
open Go.RowKit

theorem and_bit (x k : Nat) : (x &&& 2 ^ k) / 2 ^ k = x / 2 ^ k % 2 := by
  rw [Nat.and_div_two_pow, Nat.div_self (Nat.two_pow_pos k), Nat.and_one_is_mod]

set_option maxHeartbeats 400000 in
set_option maxRecDepth 100000 in
theorem satHeld_any (v lo hi : Int) (w : World) : Calls Try.prog 159 #[.int .i64 v, .int .i64 lo, .int .i64 hi] w fun e w' => e = .returned (.int .i64 (clampI v lo hi)) ∧ w = w' := by
  by_cases h1 : v < lo
  · have e : clampI v lo hi = lo := by unfold clampI; rw [if_pos h1]
    rw [e]; clear e
    go_enter Try.func159, Try.ntmps159
    go_wp2
    go_ret
    exact ⟨rfl, rfl⟩
  · by_cases h2 : hi < v
    · have e : clampI v lo hi = hi := by unfold clampI; rw [if_neg h1, if_pos h2]
      rw [e]; clear e
      go_enter Try.func159, Try.ntmps159
      go_wp2
      go_ret
      exact ⟨rfl, rfl⟩
    · have e : clampI v lo hi = v := by unfold clampI; rw [if_neg h1, if_neg h2]
      rw [e]; clear e
      go_enter Try.func159, Try.ntmps159
      go_wp2
      go_ret
      exact ⟨rfl, rfl⟩

set_option maxHeartbeats 400000 in
set_option maxRecDepth 100000 in
theorem refHeld01_any (v lo hi : Int) (w : World) : Calls Try.prog 103 #[.int .i64 v, .int .i64 lo, .int .i64 hi] w fun e w' => e = .returned (.int .i64 (clampI v lo hi)) ∧ w = w' := by
  by_cases h1 : v < lo
  · have e : clampI v lo hi = lo := by unfold clampI; rw [if_pos h1]
    rw [e]; clear e
    go_enter Try.func103, Try.ntmps103
    go_wp2
    go_ret
    exact ⟨rfl, rfl⟩
  · by_cases h2 : hi < v
    · have e : clampI v lo hi = hi := by unfold clampI; rw [if_neg h1, if_pos h2]
      rw [e]; clear e
      go_enter Try.func103, Try.ntmps103
      go_wp2
      go_ret
      exact ⟨rfl, rfl⟩
    · have e : clampI v lo hi = v := by unfold clampI; rw [if_neg h1, if_neg h2]
      rw [e]; clear e
      go_enter Try.func103, Try.ntmps103
      go_wp2
      go_ret
      exact ⟨rfl, rfl⟩

/-- A scope with one label to which the run jumps forward, once. -/
theorem wp_scope_fwd {P : Program} {a : Act} {w : World} {Q : Exit → Act → World → Prop} {c rest : Code} (l : Nat) (hf : findLabel c l = some rest)
    (h : c.wp P (Exit.jump l (fun a w => rest.wp P (Exit.noGoto Q) a w) Q) a w) : (Code.scope c).wp P Q a w :=
  wp_scope_jumps l (fun a w => rest.wp P (Exit.noGoto Q) a w) (fun _ _ => 0) hf h fun a w hJ => wp_mono hJ fun e a w hq => by
    cases e <;> first | exact hq | exact hq.elim
theorem jump_ret {l : Nat} {J : Act → World → Prop} {Q : Exit → Act → World → Prop} : Exit.jump l J Q .ret = Q .ret := rfl

theorem rnd_pos (v s : Int) (hv : 0 ≤ v) (h0 : 0 ≤ s) (h1 : s ≤ 62) : rnd v s = (rn v.toNat s.toNat : Int) := by unfold rnd; rw [if_neg (by omega), if_pos hv]
theorem rnd_below (v s : Int) (hv : v < 0) (h0 : 0 ≤ s) (h1 : s ≤ 62) : rnd v s = -(rn (-v).toNat s.toNat : Int) := by unfold rnd; rw [if_neg (by omega), if_neg (by omega)]

theorem rn_bits (m t : Nat) (hm : m ≤ 9223372036854775808) (h1 : 1 ≤ t) (h2 : t ≤ 62) :
    (m : Int) / 2 ^ t + bits BinOp.and IntKind.u64 (m : Int) (IntKind.u64.wrap (2 ^ (t - 1))) / 2 ^ (t - 1) = (rn m t : Int) := by
  have hp : 2 ^ (t - 1) ≤ 2 ^ 62 := Nat.pow_le_pow_right (by decide) (by omega)
  generalize hH : 2 ^ (t - 1) = H at hp
  have e1 : IntKind.u64.wrap (2 ^ (t - 1)) = ((2 ^ (t - 1) : Nat) : Int) := by
    rw [show ((2 : Int) ^ (t - 1)) = ((2 ^ (t - 1) : Nat) : Int) from by simp, hH]
    exact IntWalk.u64_in _ (by omega)
  rw [e1, hH, u64_and_nat _ _ (by omega) (by omega), ← hH]
  unfold rn
  rw [if_neg (by omega), ← and_bit]
  simp

theorem u64_neg_eq (v : Int) (h0 : -9223372036854775808 ≤ v) (h1 : v < 0) : IntKind.u64.wrap (-IntKind.u64.wrap v) = (((-v).toNat : Nat) : Int) := by
  simp only [IntKind.wrap_u64]; omega
theorem back_neg (r : Nat) (h : r ≤ 9223372036854775808) : wrap64 (IntKind.u64.wrap (-(r : Int))) = -(r : Int) := by
  simp only [IntKind.wrap_u64, wrap64]; omega

set_option maxHeartbeats 400000 in
set_option maxRecDepth 100000 in
theorem round_any (v s : Int) (w : World) (h0 : -9223372036854775808 ≤ v) (h1 : v ≤ 9223372036854775807) :
    Calls Try.prog 206 #[.int .i64 v, .int .i64 s] w fun e w' => e = .returned (.int .i64 (rnd v s)) ∧ ∃ n, w' = w.drewN n := by
  by_cases hs : s < 0
  · have e : rnd v s = 0 := by unfold rnd; rw [if_pos (.inl hs)]
    rw [e]; clear e
    go_enter Try.func206, Try.ntmps206
    go_wp2
    refine wp_scope_fwd 0 rfl ?_
    go_wp2
    (try rw [jump_ret])
    go_ret
    exact ⟨rfl, 0, rfl⟩
  · by_cases hs2 : 62 < s
    · have e : rnd v s = 0 := by unfold rnd; rw [if_pos (.inr hs2)]
      rw [e]; clear e
      go_enter Try.func206, Try.ntmps206
      go_wp2
      refine wp_scope_fwd 0 rfl ?_
      go_wp2
      (try rw [jump_ret])
      go_ret
      exact ⟨rfl, 0, rfl⟩
    · by_cases hv : 0 ≤ v
      · by_cases hs0 : s = 0
        · subst hs0
          go_enter Try.func206, Try.ntmps206
          go_wp2
          refine wp_scope_fwd 0 rfl ?_
          go_wp2
          go_step3
          refine ⟨rfl, ?_⟩
          go_wp2
          (try rw [Exit.noGoto_ret])
          go_ret
          refine ⟨ret_int ?_, 0, rfl⟩
          rw [rnd_pos v 0 hv (by omega) (by omega)]; simp [rn]; omega
        · have hs1 : 1 ≤ s := by omega
          go_enter Try.func206, Try.ntmps206
          go_wp2
          refine wp_scope_fwd 0 rfl ?_
          go_wp2
          go_step3
          refine ⟨rfl, ?_⟩
          go_wp2
          go_quiet (fail)
          go_wp2
          (try rw [Exit.noGoto_ret])
          go_ret
          refine ⟨?_, nq, rfl⟩
          rw [rnd_pos v s hv (by omega) (by omega)]
          obtain ⟨m, rfl⟩ := Int.eq_ofNat_of_zero_le hv
          have e := rn_bits m s.toNat (by omega) (by omega) (by omega)
          have hle := rn_le m s.toNat
          exact ret_int (by rw [e, Int.toNat_natCast, IntWalk.u64_in ((rn m s.toNat : Nat) : Int) ⟨by omega, by omega⟩, IntWalk.wrap64_in _ ⟨by omega, by omega⟩])
      · by_cases hs0 : s = 0
        · subst hs0
          go_enter Try.func206, Try.ntmps206
          go_wp2
          refine wp_scope_fwd 0 rfl ?_
          go_wp2
          go_step3
          go_wp2
          (try rw [jump_ret])
          go_ret
          refine ⟨?_, 0, rfl⟩
          rw [rnd_below v 0 (by omega) (by omega) (by omega)]
          exact ret_int (by rw [u64_neg_eq v h0 (by omega), back_neg _ (by omega)]; simp [rn])
        · have hs1 : 1 ≤ s := by omega
          go_enter Try.func206, Try.ntmps206
          go_wp2
          refine wp_scope_fwd 0 rfl ?_
          go_wp2
          go_step3
          go_wp2
          go_quiet (fail)
          go_wp2
          (try rw [jump_ret])
          go_ret
          refine ⟨?_, nq, rfl⟩
          rw [rnd_below v s (by omega) (by omega) (by omega)]
          have e := rn_bits (-v).toNat s.toNat (by omega) (by omega) (by omega)
          have hle := rn_le (-v).toNat s.toNat
          exact ret_int (by rw [u64_neg_eq v h0 (by omega), e, IntWalk.u64_in ((rn (-v).toNat s.toNat : Nat) : Int) ⟨by omega, by omega⟩, back_neg _ (by omega)])
end Go.Proofs.Ytgecmooedhnenaa

/- The document's Round; fix.Scale; whether a scale may be. No condition. -/
namespace Go.Proofs.Ytgecmooedhnenaa
open Go.RowKit

theorem neg_facts (v P : Int) (hv : v < 0) (hP : 1 ≤ P) : v ≤ v.tdiv P ∧ v.tdiv P ≤ 0 ∧ -P < v.tmod P ∧ v.tmod P ≤ 0 ∧ (1 < P → v ≤ 2 * v.tdiv P) := by
  obtain ⟨u, rfl⟩ : ∃ u, v = -u := ⟨-v, by omega⟩
  have hu : 0 ≤ u := by omega
  rw [Int.neg_tmod, Int.neg_tdiv, Int.tmod_eq_emod_of_nonneg hu, Int.tdiv_eq_ediv_of_nonneg hu]
  have h1 := Int.emod_nonneg u (show P ≠ 0 by omega)
  have h2 := Int.emod_lt_of_pos u (show 0 < P by omega)
  have h3 := Int.ediv_nonneg hu (show 0 ≤ P by omega)
  have h4 := Int.ediv_le_self P hu
  refine ⟨by omega, by omega, by omega, by omega, fun h => ?_⟩
  have h5 := Int.mul_ediv_self_le (x := u) (k := P) (by omega)
  have h6 : 2 * (u / P) ≤ P * (u / P) := Int.mul_le_mul_of_nonneg_right (by omega) h3
  omega
theorem pos_facts (v P : Int) (hv : 0 ≤ v) (hP : 1 ≤ P) : 0 ≤ v / P ∧ v / P ≤ v ∧ 0 ≤ v % P ∧ v % P < P ∧ (1 < P → 2 * (v / P) ≤ v) := by
  have h1 := Int.emod_nonneg v (show P ≠ 0 by omega)
  have h2 := Int.emod_lt_of_pos v (show 0 < P by omega)
  have h3 := Int.ediv_nonneg hv (show 0 ≤ P by omega)
  have h4 := Int.ediv_le_self P hv
  refine ⟨by omega, by omega, by omega, by omega, fun h => ?_⟩
  have h5 := Int.mul_ediv_self_le (x := v) (k := P) (by omega)
  have h6 : 2 * (v / P) ≤ P * (v / P) := Int.mul_le_mul_of_nonneg_right (by omega) h3
  omega

set_option maxHeartbeats 1000000 in
set_option maxRecDepth 100000 in
theorem refRound_any (v s : Int) (w : World) (h0 : -9223372036854775808 ≤ v) (h1 : v ≤ 9223372036854775807) :
    Calls Try.prog 102 #[.int .i64 v, .int .i64 s] w fun e w' => e = .returned (.int .i64 (rnd v s)) ∧ ∃ n, w' = w.drewN n := by
  by_cases hs : s < 0
  · have e : rnd v s = 0 := by unfold rnd; rw [if_pos (.inl hs)]
    rw [e]; clear e
    go_enter Try.func102, Try.ntmps102
    go_wp2
    go_ret
    exact ⟨rfl, 0, rfl⟩
  · by_cases hs2 : 62 < s
    · have e : rnd v s = 0 := by unfold rnd; rw [if_pos (.inr hs2)]
      rw [e]; clear e
      go_enter Try.func102, Try.ntmps102
      go_wp2
      go_ret
      exact ⟨rfl, 0, rfl⟩
    · obtain ⟨t, rfl⟩ := Int.eq_ofNat_of_zero_le (show 0 ≤ s by omega)
      have ht : t ≤ 62 := by omega
      have hr := Lib.hid (ref_round v t)
      have hrd := Lib.hid (show rnd v (t : Int) = if 0 ≤ v then (rn v.toNat t : Int) else -(rn (-v).toNat t : Int) by unfold rnd; rw [if_neg (by omega), Int.toNat_natCast])
      clear hs hs2
      go_enter Try.func102, Try.ntmps102
      go_wp2
      go_loop [5, 6] (fun p i => ∃ k : Nat, i = .int .i64 k ∧ k ≤ t ∧ p = .int .i64 (2 ^ k)) (fun _ i => t - (intOf i).toNat)
      case atStart => exact ⟨0, rfl, by omega, rfl⟩
      case round =>
        obtain ⟨k, rfl, hk, rfl⟩ := hrel
        have hp1 : (1 : Int) ≤ 2 ^ k := Int.add_one_le_iff.2 (Int.pow_pos (by decide))
        have hp2 : (2 : Int) ^ k ≤ 4611686018427387904 := by
          have : 2 ^ k ≤ 2 ^ 62 := Nat.pow_le_pow_right (by decide) (by omega)
          have e : ((2 : Int) ^ k) = ((2 ^ k : Nat) : Int) := by simp
          rw [e]; omega
        by_cases hlt : k < t
        · obtain ⟨P, hP⟩ : ∃ P : Int, P = 2 ^ k := ⟨_, rfl⟩
          have hp3 : (2 : Int) ^ k ≤ 2305843009213693952 := by
            have : 2 ^ k ≤ 2 ^ 61 := Nat.pow_le_pow_right (by decide) (by omega)
            have e : ((2 : Int) ^ k) = ((2 ^ k : Nat) : Int) := by simp
            rw [e]; omega
          rw [← hP] at hp1 hp2 hp3 ⊢
          have HP := Lib.hid hP; clear hP
          go_wp2
          go_round
          case rel => exact ⟨k + 1, by go_num, by omega, by rw [HP.out, Int.pow_succ]⟩
          case measure => simp [intOf]; omega
        · obtain rfl : k = t := by omega
          obtain ⟨P, hP⟩ : ∃ P : Int, P = 2 ^ k := ⟨_, rfl⟩
          have hr' := hr.out
          rw [← hP] at hp1 hp2 hr' ⊢
          have HR : Hid (rnd v (k : Int) = _) := Lib.hid (hrd.out.trans hr'.symm)
          have HP := Lib.hid hP; clear hP hr' hr hrd
          by_cases hv : 0 ≤ v
          · obtain ⟨f1, f2, f3, f4, f5⟩ := pos_facts v P hv hp1
            by_cases hc : P - v % P ≤ v % P
            · have f6 : 1 < P := by omega
              have f7 := f5 f6
              clear f5
              go_wp2
              go_quiet (fail)
              go_wp2
              go_ret
              refine ⟨ret_int ?_, nq, rfl⟩
              rw [HR.out, Int.tmod_eq_emod_of_nonneg hv, Int.tdiv_eq_ediv_of_nonneg hv, if_pos ⟨f3, hc, f6⟩]
            · clear f5
              go_wp2
              go_quiet (fail)
              go_wp2
              go_ret
              refine ⟨ret_int ?_, nq, rfl⟩
              rw [HR.out, Int.tmod_eq_emod_of_nonneg hv, Int.tdiv_eq_ediv_of_nonneg hv, if_neg (by omega), if_neg (by omega)]
          · obtain ⟨f1, f2, f3, f4, f5⟩ := neg_facts v P (by omega) hp1
            have e1 : wrap64 (v.tdiv P) = v.tdiv P := IntWalk.wrap64_in _ ⟨by omega, by omega⟩
            by_cases hc : P + v.tmod P ≤ -v.tmod P
            · have f6 : 1 < P := by omega
              have f7 := f5 f6
              have f8 : v.tmod P < 0 := by omega
              clear f5
              go_wp2
              go_quiet (fail)
              go_wp2
              go_ret
              refine ⟨ret_int ?_, nq, rfl⟩
              rw [HR.out, if_neg (by omega), if_pos ⟨f8, hc⟩]
            · clear f5
              by_cases f8 : v.tmod P < 0
              · go_wp2
                go_quiet (fail)
                go_wp2
                go_ret
                refine ⟨ret_int ?_, nq, rfl⟩
                rw [HR.out, if_neg (by omega), if_neg (by omega)]
              · go_wp2
                go_quiet (fail)
                go_wp2
                go_ret
                refine ⟨ret_int ?_, nq, rfl⟩
                rw [HR.out, if_neg (by omega), if_neg (by omega)]

set_option maxHeartbeats 400000 in
set_option maxRecDepth 100000 in
theorem scale_any (a m s : Int) (w : World) (a0 : -2147483648 ≤ a) (a1 : a ≤ 2147483647) (m0 : -2147483648 ≤ m) (m1 : m ≤ 2147483647) :
    Calls Try.prog 160 #[.int .i32 a, .int .i32 m, .int .i64 s] w fun e w' => e = .returned (.int .i64 (rnd (a * m) s)) ∧ ∃ n, w' = w.drewN n := by
  have hb : -4611686018427387904 ≤ a * m ∧ a * m ≤ 4611686018427387904 := by
    constructor
    · have h1 : (a.natAbs * m.natAbs : Nat) ≤ 2147483648 * 2147483648 := Nat.mul_le_mul (by omega) (by omega)
      have := Int.natAbs_mul a m
      omega
    · have h1 : (a.natAbs * m.natAbs : Nat) ≤ 2147483648 * 2147483648 := Nat.mul_le_mul (by omega) (by omega)
      have := Int.natAbs_mul a m
      omega
  obtain ⟨b0, b1⟩ := hb
  go_enter Try.func160, Try.ntmps160
  go_wp2_with fail
  refine (round_any _ _ _ (by omega) (by omega)).mono ?_
  rintro e w1 ⟨rfl, n, rfl⟩
  go_wp2
  go_ret
  exact ⟨rfl, n, rfl⟩

set_option maxHeartbeats 400000 in
set_option maxRecDepth 100000 in
theorem clamp_any (v lo hi : Int) (w : World) (l0 : -128 ≤ lo) (l1 : lo ≤ 127) (k0 : -128 ≤ hi) (k1 : hi ≤ 127) :
    Calls Try.prog 100 #[.int .i64 v, .int .i8 lo, .int .i8 hi] w fun e w' => e = .returned (.int .i8 (clampI v lo hi)) ∧ w = w' := by
  have hb : -128 ≤ clampI v lo hi ∧ clampI v lo hi ≤ 127 := by unfold clampI; split <;> (try split) <;> omega
  obtain ⟨b0, b1⟩ := hb
  go_enter Try.func100, Try.ntmps100
  go_wp2_with fail
  refine (satHeld_any _ _ _ _).mono ?_
  rintro e w1 ⟨rfl, rfl⟩
  go_wp2
  go_ret
  exact ⟨rfl, rfl⟩
end Go.Proofs.Ytgecmooedhnenaa

/- Whether a scale may be; a sum as a number between two (fix.Held, fix.Put, the document's Held); known of chapter 2. No condition. -/
namespace Go.Proofs.Ytgecmooedhnenaa
open Go.RowKit

set_option maxHeartbeats 400000 in
set_option maxRecDepth 100000 in
theorem right_any (m s z : Int) (w : World) : Calls Try.prog 157 #[.agg #[.int .i32 m, .int .i64 s, .int .i8 z]] w fun e w' => e = .returned (.bool (rightQ m s)) ∧ Below w.heap.size w w' := by
  by_cases h1 : 0 < m
  · by_cases h2 : 0 ≤ s
    · by_cases h3 : s ≤ 62
      · have e : rightQ m s = true := by unfold rightQ; simp [h1, h2, h3]
        rw [e]; clear e
        go_enter Try.func157, Try.ntmps157
        go_wp2
        go_ret
        exact ⟨rfl, (Below.refl _ _).alloc (Nat.le_refl _) _⟩
      · have e : rightQ m s = false := by unfold rightQ; simp [h3]
        rw [e]; clear e
        go_enter Try.func157, Try.ntmps157
        go_wp2
        go_ret
        exact ⟨rfl, (Below.refl _ _).alloc (Nat.le_refl _) _⟩
    · have e : rightQ m s = false := by unfold rightQ; simp [h2]
      rw [e]; clear e
      go_enter Try.func157, Try.ntmps157
      go_wp2
      go_ret
      exact ⟨rfl, (Below.refl _ _).alloc (Nat.le_refl _) _⟩
  · have e : rightQ m s = false := by unfold rightQ; simp [h1]
    rw [e]; clear e
    go_enter Try.func157, Try.ntmps157
    go_wp2
    go_ret
    exact ⟨rfl, (Below.refl _ _).alloc (Nat.le_refl _) _⟩

set_option maxHeartbeats 400000 in
set_option maxRecDepth 100000 in
theorem refRight_any (m s z : Int) (w : World) : Calls Try.prog 99 #[.agg #[.int .i32 m, .int .i64 s, .int .i8 z]] w fun e w' => e = .returned (.bool (rightQ m s)) ∧ Below w.heap.size w w' := by
  by_cases h1 : 0 < m
  · by_cases h2 : 0 ≤ s
    · by_cases h3 : s ≤ 62
      · have e : rightQ m s = true := by unfold rightQ; simp [h1, h2, h3]
        rw [e]; clear e
        go_enter Try.func99, Try.ntmps99
        go_wp2
        go_ret
        exact ⟨rfl, (Below.refl _ _).alloc (Nat.le_refl _) _⟩
      · have e : rightQ m s = false := by unfold rightQ; simp [h3]
        rw [e]; clear e
        go_enter Try.func99, Try.ntmps99
        go_wp2
        go_ret
        exact ⟨rfl, (Below.refl _ _).alloc (Nat.le_refl _) _⟩
    · have e : rightQ m s = false := by unfold rightQ; simp [h2]
      rw [e]; clear e
      go_enter Try.func99, Try.ntmps99
      go_wp2
      go_ret
      exact ⟨rfl, (Below.refl _ _).alloc (Nat.le_refl _) _⟩
  · have e : rightQ m s = false := by unfold rightQ; simp [h1]
    rw [e]; clear e
    go_enter Try.func99, Try.ntmps99
    go_wp2
    go_ret
    exact ⟨rfl, (Below.refl _ _).alloc (Nat.le_refl _) _⟩

theorem mul_bd32 (a m : Int) (a0 : -2147483648 ≤ a) (a1 : a ≤ 2147483647) (m0 : -2147483648 ≤ m) (m1 : m ≤ 2147483647) : -4611686018427387904 ≤ a * m ∧ a * m ≤ 4611686018427387904 := by
  have h1 : (a.natAbs * m.natAbs : Nat) ≤ 2147483648 * 2147483648 := Nat.mul_le_mul (by omega) (by omega)
  have := Int.natAbs_mul a m
  omega

set_option maxHeartbeats 400000 in
set_option maxRecDepth 100000 in
theorem held_any (a m s z lo hi : Int) (w : World) (a0 : -2147483648 ≤ a) (a1 : a ≤ 2147483647) (m0 : -2147483648 ≤ m) (m1 : m ≤ 2147483647) (z0 : -128 ≤ z) (z1 : z ≤ 127) (l0 : -128 ≤ lo) (l1 : lo ≤ 127) (k0 : -128 ≤ hi) (k1 : hi ≤ 127) :
    Calls Try.prog 194 #[.int .i32 a, .agg #[.int .i32 m, .int .i64 s, .int .i8 z], .int .i8 lo, .int .i8 hi] w fun e w' => e = .returned (.int .i8 (heldQ a m s z lo hi)) ∧ Below w.heap.size w w' := by
  have hb := mul_bd32 a m a0 a1 m0 m1
  have hr := rnd_bd (a * m) s 4611686018427387904 hb.1 hb.2
  obtain ⟨r0, r1⟩ := hr
  cases hq : rightQ m s with
  | false =>
    have e : heldQ a m s z lo hi = 0 := by unfold heldQ; rw [hq]; simp
    rw [e]; clear e
    have HQ := Lib.hid hq; clear hq
    go_enter Try.func194, Try.ntmps194
    go_wp2_with fail
    refine (right_any _ _ _ _).mono ?_
    rintro e w1 ⟨rfl, hb1⟩
    rw [HQ.out]
    go_wp2
    go_ret
    exact ⟨rfl, ((Below.refl _ _).alloc (Nat.le_refl _) _).trans (hb1.mono (by simp))⟩
  | true =>
    have e : heldQ a m s z lo hi = clampI (rnd (a * m) s + z) lo hi := by unfold heldQ; rw [hq]; simp
    rw [e]; clear e
    have HQ := Lib.hid hq; clear hq
    go_enter Try.func194, Try.ntmps194
    go_wp2_with fail
    refine (right_any _ _ _ _).mono ?_
    rintro e w1 ⟨rfl, hb1⟩
    rw [HQ.out]
    have c0 := bl_get hb1 (b := w.heap.size) (o := 0) (v := .int .i32 m) (by rw [World.cell?_alloc_at _ _ _ _ rfl]; rfl)
    have c1 := bl_get hb1 (b := w.heap.size) (o := 1) (v := .int .i64 s) (by rw [World.cell?_alloc_at _ _ _ _ rfl]; rfl)
    have c2 := bl_get hb1 (b := w.heap.size) (o := 2) (v := .int .i8 z) (by rw [World.cell?_alloc_at _ _ _ _ rfl]; rfl)
    go_wp2_with fail
    go_quiet (first | (go_at_call 160; refine Calls.quiet_of (scale_any _ _ _ _ a0 a1 m0 m1)) | (go_at_call 100; refine Calls.quiet_of_same ((clamp_any _ _ _ _ l0 l1 k0 k1).mono fun _ _ h => ⟨h.1, h.2.symm⟩)))
    go_wp2
    go_ret
    refine ⟨rfl, below_drewN (((Below.refl _ _).alloc (Nat.le_refl _) _).trans (hb1.mono (by simp))) _⟩
end Go.Proofs.Ytgecmooedhnenaa

/- Scalar functions in the words of values; tensors and nodes. No condition. -/
namespace Go.Proofs.Ytgecmooedhnenaa
open Go.RowKit

/-- A tensor's sides and its numbers. -/
structure Ten where
  h : Int
  x : Int
  c : Int
  d : List Int
abbrev In64 (n : Int) : Prop := -9223372036854775808 ≤ n ∧ n ≤ 9223372036854775807
abbrev In32 (n : Int) : Prop := -2147483648 ≤ n ∧ n ≤ 2147483647
abbrev In8 (n : Int) : Prop := -128 ≤ n ∧ n ≤ 127
structure Ten.Ok (T : Ten) : Prop where
  h : In64 T.h
  x : In64 T.x
  c : In64 T.c
  d : ∀ v ∈ T.d, In8 v
abbrev ten (k : IntKind) (T : Ten) : AV := .agg [i64 T.h, i64 T.x, i64 T.c, ints k T.d]
def tenRight (T : Ten) : Bool := decide (0 < elems T.h T.x T.c) && decide (elems T.h T.x T.c = (T.d.length : Int))

structure Nod where
  kd : Int
  na : Int
  nb : Int
  nk : Int
  ns : Int
  np : Int
  no : Int
  za : Int
  zb : Int
  w : List Int
  b : List Int
  qm : Int
  qs : Int
  qz : Int
  rm : Int
  rs : Int
  rz : Int
  lo : Int
  hi : Int
abbrev nodC (n : Nod) : List AV := [i64 n.kd, i64 n.na, i64 n.nb, i64 n.nk, i64 n.ns, i64 n.np, i64 n.no, i8 n.za, i8 n.zb, ints .i8 n.w, ints .i32 n.b, i32 n.qm, i64 n.qs, i8 n.qz, i32 n.rm, i64 n.rs, i8 n.rz, i8 n.lo, i8 n.hi]
abbrev nod (n : Nod) : AV := .agg (nodC n)
structure Nod.Ok (n : Nod) : Prop where
  kd : In64 n.kd
  na : In64 n.na
  nb : In64 n.nb
  nk : In64 n.nk
  ns : In64 n.ns
  np : In64 n.np
  no : In64 n.no
  za : In8 n.za
  zb : In8 n.zb
  w : ∀ v ∈ n.w, In8 v
  b : ∀ v ∈ n.b, In32 v
  qm : In32 n.qm
  qs : In64 n.qs
  qz : In8 n.qz
  rm : In32 n.rm
  rs : In64 n.rs
  rz : In8 n.rz
  lo : In8 n.lo
  hi : In8 n.hi

theorem elems_v (h x c : Int) (hh : In64 h) (hx : In64 x) (hc : In64 c) : VC Try.prog 124 [.agg [i64 h, i64 x, i64 c]] (i64 (elems h x c)) :=
  VC.ofCalls (x := .int .i64 (elems h x c)) rfl rfl fun w => elems_any h x c w hh.1 hh.2 hx.1 hx.2 hc.1 hc.2
theorem refElems_v (h x c : Int) (hh : In64 h) (hx : In64 x) (hc : In64 c) : VC Try.prog 61 [.agg [i64 h, i64 x, i64 c]] (i64 (elems h x c)) :=
  VC.ofCalls (x := .int .i64 (elems h x c)) rfl rfl fun w => refElems_any h x c w hh.1 hh.2 hx.1 hx.2 hc.1 hc.2
theorem right_v (m s z : Int) : VC Try.prog 157 [.agg [i32 m, i64 s, i8 z]] (bv (rightQ m s)) :=
  VC.ofCalls (x := .bool (rightQ m s)) rfl rfl fun w => right_any m s z w
theorem refRight_v (m s z : Int) : VC Try.prog 99 [.agg [i32 m, i64 s, i8 z]] (bv (rightQ m s)) :=
  VC.ofCalls (x := .bool (rightQ m s)) rfl rfl fun w => refRight_any m s z w
theorem held_v (a m s z lo hi : Int) (ha : In32 a) (hm : In32 m) (hz : In8 z) (hl : In8 lo) (hh : In8 hi) : VC Try.prog 194 [i32 a, .agg [i32 m, i64 s, i8 z], i8 lo, i8 hi] (i8 (heldQ a m s z lo hi)) :=
  VC.ofCalls (x := .int .i8 (heldQ a m s z lo hi)) rfl rfl fun w => held_any a m s z lo hi w ha.1 ha.2 hm.1 hm.2 hz.1 hz.2 hl.1 hl.2 hh.1 hh.2
theorem refRound_v (v s : Int) (h : In64 v) : VC Try.prog 102 [i64 v, i64 s] (i64 (rnd v s)) :=
  VC.ofCalls (x := .int .i64 (rnd v s)) rfl rfl fun w => (refRound_any v s w h.1 h.2).mono fun _ _ ⟨he, n, hn⟩ => ⟨he, hn ▸ below_drewN (Below.refl _ _) n⟩
theorem refSatHeld_v (v lo hi : Int) : VC Try.prog 103 [i64 v, i64 lo, i64 hi] (i64 (clampI v lo hi)) :=
  VC.ofSame (x := .int .i64 (clampI v lo hi)) rfl rfl fun w => refHeld01_any v lo hi w
theorem clamp_v (v lo hi : Int) (hl : In8 lo) (hh : In8 hi) : VC Try.prog 100 [i64 v, i8 lo, i8 hi] (i8 (clampI v lo hi)) :=
  VC.ofSame (x := .int .i8 (clampI v lo hi)) rfl rfl fun w => clamp_any v lo hi w hl.1 hl.2 hh.1 hh.2
theorem scale_v (a m s : Int) (ha : In32 a) (hm : In32 m) : VC Try.prog 160 [i32 a, i32 m, i64 s] (i64 (rnd (a * m) s)) :=
  VC.ofCalls (x := .int .i64 (rnd (a * m) s)) rfl rfl fun w => (scale_any a m s w ha.1 ha.2 hm.1 hm.2).mono fun _ _ ⟨he, n, hn⟩ => ⟨he, hn ▸ below_drewN (Below.refl _ _) n⟩

set_option maxRecDepth 100000 in
set_option maxHeartbeats 1000000 in
theorem refTRight_y (T : Ten) (ok : T.Ok) (h0 : 0 < elems T.h T.x T.c) : VC Try.prog 70 ([ten .i8 T]) (AV.lit (Value.bool (elems T.h T.x T.c == (↑(List.map (row1 IntKind.i8) T.d).length : Int)))) := by
  refine VC.run (fn := Try.f70) Try.func70 (W := [.r [] [], .r [] [PI.callr (i64 (elems T.h T.x T.c)),
 PI.br true,
 PI.br true,
 PI.br true,
 PI.callr (i64 (elems T.h T.x T.c)),
 PI.br true,
 PI.br true,
 PI.br true,
 PI.br true,
 PI.br true]])
    (ob := [VC Try.prog 61
  [AV.agg [AV.lit (Value.int IntKind.i64 T.h), AV.lit (Value.int IntKind.i64 T.x), AV.lit (Value.int IntKind.i64 T.c)]]
  (AV.lit (Value.int IntKind.i64 (elems T.h T.x T.c))),
    decide (elems T.h T.x T.c > 0) = true,
    decide (elems T.h T.x T.c > 0) = true,
    decide (elems T.h T.x T.c > 0) = true,
    VC Try.prog 61
  [AV.agg [AV.lit (Value.int IntKind.i64 T.h), AV.lit (Value.int IntKind.i64 T.x), AV.lit (Value.int IntKind.i64 T.c)]]
  (AV.lit (Value.int IntKind.i64 (elems T.h T.x T.c))),
    decide (elems T.h T.x T.c > 0) = true,
    decide (elems T.h T.x T.c > 0) = true,
    decide (elems T.h T.x T.c > 0) = true,
    decide (elems T.h T.x T.c > 0) = true,
    decide (elems T.h T.x T.c > 0) = true]) (by kernel_rfl) ?_
  refine ⟨?_, ?_, ?_, ?_, ?_, ?_, ?_, ?_, ?_, ?_, trivial⟩
  all_goals (first | with_reducible assumption | with_reducible exact refElems_v _ _ _ ok.h ok.x ok.c | rfl | with_reducible exact WeakL.refl _ | with_reducible exact Weak.refl _ | exact IntWalk.i64_in _ (by omega) | exact IntWalk.i32_in _ (by omega) | exact IntWalk.i8_in _ (by omega) | exact decide_eq_true (by omega) | exact decide_eq_false (by omega) | exact row_get (by assumption) | omega | (simp only [beq_iff_eq, bne_iff_ne, ne_eq, beq_eq_false_iff_ne, bne_eq_false_iff_eq]; omega))

set_option maxRecDepth 100000 in
set_option maxHeartbeats 1000000 in
theorem refTRight_n (T : Ten) (ok : T.Ok) (h0 : ¬ 0 < elems T.h T.x T.c) : VC Try.prog 70 ([ten .i8 T]) (AV.lit (Value.bool false)) := by
  refine VC.run (fn := Try.f70) Try.func70 (W := [.r [] [], .r [] [PI.callr (i64 (elems T.h T.x T.c)),
 PI.br false,
 PI.br false,
 PI.br false,
 PI.br false,
 PI.br false,
 PI.br false,
 PI.br false,
 PI.br false]])
    (ob := [VC Try.prog 61
  [AV.agg [AV.lit (Value.int IntKind.i64 T.h), AV.lit (Value.int IntKind.i64 T.x), AV.lit (Value.int IntKind.i64 T.c)]]
  (AV.lit (Value.int IntKind.i64 (elems T.h T.x T.c))),
    decide (elems T.h T.x T.c > 0) = !true,
    decide (elems T.h T.x T.c > 0) = !true,
    decide (elems T.h T.x T.c > 0) = !true,
    decide (elems T.h T.x T.c > 0) = !true,
    decide (elems T.h T.x T.c > 0) = !true,
    decide (elems T.h T.x T.c > 0) = !true,
    decide (elems T.h T.x T.c > 0) = !true,
    decide (elems T.h T.x T.c > 0) = false]) (by kernel_rfl) ?_
  refine ⟨?_, ?_, ?_, ?_, ?_, ?_, ?_, ?_, ?_, trivial⟩
  all_goals (first | with_reducible assumption | with_reducible exact refElems_v _ _ _ ok.h ok.x ok.c | rfl | with_reducible exact WeakL.refl _ | with_reducible exact Weak.refl _ | exact IntWalk.i64_in _ (by omega) | exact IntWalk.i32_in _ (by omega) | exact IntWalk.i8_in _ (by omega) | exact decide_eq_true (by omega) | exact decide_eq_false (by omega) | exact row_get (by assumption) | omega | (simp only [beq_iff_eq, bne_iff_ne, ne_eq, beq_eq_false_iff_ne, bne_eq_false_iff_eq]; omega))
theorem tenRight_y {T : Ten} (h0 : 0 < elems T.h T.x T.c) : (elems T.h T.x T.c == ((T.d.map (row1 .i8)).length : Int)) = tenRight T := by
  unfold tenRight; rw [decide_eq_true h0, List.length_map, Bool.true_and]; rfl
theorem tenRight_n {T : Ten} (h0 : ¬ 0 < elems T.h T.x T.c) : false = tenRight T := by
  unfold tenRight; rw [decide_eq_false h0]; rfl
theorem refTRight_v (T : Ten) (ok : T.Ok) : VC Try.prog 70 [ten .i8 T] (bv (tenRight T)) := by
  by_cases h0 : 0 < elems T.h T.x T.c
  · rw [← tenRight_y h0]; exact refTRight_y T ok h0
  · rw [← tenRight_n h0]; exact refTRight_n T ok h0
end Go.Proofs.Ytgecmooedhnenaa

/- From the world's words into those of values: what a law's arguments are. No condition. -/
namespace Go.Proofs.Ytgecmooedhnenaa
open Go.RowKit
set_option linter.unusedSimpArgs false
set_option linter.unusedVariables false
set_option linter.unnecessarySimpa false

def RelL (w : World) (l : List AV) (vs : List Value) : Prop := vs.length = l.length ∧ ∀ (i : Nat) (c : AV) (v : Value), l[i]? = some c → vs[i]? = some v → Rel (fun _ => none) (fun _ => False) w c v
theorem RelL.nil (w : World) : RelL w [] [] := ⟨rfl, fun i c v h => by simp at h⟩
theorem RelL.cons {w : World} {c : AV} {v : Value} {l : List AV} {vs : List Value} (h : Rel (fun _ => none) (fun _ => False) w c v) (hl : RelL w l vs) : RelL w (c :: l) (v :: vs) := ⟨by simp [hl.1], fun i a b ha hb => by
  cases i with
  | zero => simp at ha hb; subst ha hb; exact h
  | succ i => exact hl.2 i a b (by simpa using ha) (by simpa using hb)⟩
theorem RelL.agg {w : World} {l : List AV} {vs : List Value} (h : RelL w l vs) : Rel (fun _ => none) (fun _ => False) w (.agg l) (.agg vs.toArray) := .agg h.1 h.2
/-- A law that holds, in the world's words. -/
theorem law_of {P : Program} {f : Nat} {args : List AV} {xs : List Value} {w : World} (h : VC P f args (bv true)) (hr : RelL w args xs) : Calls P f xs.toArray w fun e w' => e = .returned (.bool true) ∧ Below w.heap.size w w' :=
  (h (fun _ => False) w xs (fun _ h => h.elim) hr.1 hr.2).mono fun e w' ⟨x, he, hx, hb⟩ => ⟨by rw [he, rel_lit hx], hb⟩
end Go.Proofs.Ytgecmooedhnenaa

/- Slices whose elements have more than one cell: how they read, and the call's own ones. No condition. -/
namespace Go.Proofs.Ytgecmooedhnenaa
open Go.RowKit
set_option linter.unusedVariables false
set_option linter.unusedSimpArgs false

/-- The slice value v reads as the rows rs, each of c cells. -/
def RdN (c : Nat) (w : World) (v : Value) (rs : List (List Value)) : Prop :=
  (∀ r ∈ rs, r.length = c) ∧ ∃ ao cap, v = .slice ao rs.length cap ∧ (rs.length ≤ cap ∧ cap ≤ maxLen ∧ (ao = none → cap = 0)) ∧
    (rs ≠ [] → ∃ b off, ao = some ⟨b, off, none⟩ ∧ ∀ j r i u, rs[j]? = some r → r[i]? = some u → w.cell? ⟨b, off + j * c + i, none⟩ = some u)

theorem RdN.nil (c : Nat) (w : World) : RdN c w (.slice none 0 0) [] := ⟨by simp, none, 0, rfl, ⟨Nat.le_refl _, Nat.zero_le _, fun _ => rfl⟩, fun h => absurd rfl h⟩
end Go.Proofs.Ytgecmooedhnenaa

/- What an argument's reading tells of its cells: numbers, slices of numbers, fields of structs, elements of arrays. No condition. -/
namespace Go.Proofs.Ytgecmooedhnenaa
open Go.RowKit Go.ChangeShapes Go.WideShapes

section
variable {H : Type} {enc : TypeId × Value → H} {P : Program} {w : World} {sp : Nat → Bool} {held : Bool}

/-- Cells that can be read as of a type. -/
def Can {H : Type} (enc : TypeId × Value → H) (P : Program) (w : World) (sp : Nat → Bool) (held : Bool) (t : TypeId) (cs : List Value) : Prop := ∃ m x, DataW.trod enc P w 0 sp held m t cs = some x

theorem Can.of {t : TypeId} {v : Value} {d : DataW H} {p : List MemPlace} (h : DataW.Trod enc P w 0 sp held t v d p) : Can enc P w sp held t v.cells.toList := by
  obtain ⟨m, h⟩ := h; exact ⟨m, _, h⟩

theorem Can.int {t : TypeId} {k : IntKind} {c : Value} (ht : P.underlying t = some (.int k)) (h : Can enc P w sp held t [c]) : ∃ n, c = .int k n ∧ (Lit.int k n).wf = true := by
  obtain ⟨m, x, h⟩ := h
  obtain ⟨n, hc, _, hw⟩ := DataW.trod_int ht h
  exact ⟨n, by simpa using hc, hw⟩

theorem Can.fields {t : TypeId} {fs : Array Field} {cs : List Value} (ht : P.underlying t = some (.struct fs)) (h : Can enc P w sp held t cs) :
    ∀ (i : Nat) (f : Field), fs[i]? = some f → Can enc P w sp held f.type ((cs.drop f.offset).take (P.cellsOf f.type)) := by
  obtain ⟨m, x, h⟩ := h
  obtain ⟨xs, n, _, _, _, hl, hf⟩ := DataW.trod_struct ht h
  intro i f hi
  have hlt : i < xs.length := by rw [hl]; exact (Array.getElem?_eq_some_iff.1 hi).1
  exact ⟨n, xs[i], by rw [hf i f hi, List.getElem?_eq_getElem hlt]⟩

/-- A slice whose elements have c cells each. -/
theorem Can.slice {t e : TypeId} {v : Value} {c : Nat} (ht : P.underlying t = some (.slice e)) (hc : P.cellsOf e = c) (hc0 : 0 < c) (h : Can enc P w sp held t [v]) :
    ∃ rs : List (List Value), RdN c w v rs ∧ ∀ r ∈ rs, Can enc P w sp held e r := by
  obtain ⟨m0, x, h⟩ := h
  rcases Go.Deep.open_slice ht h with ⟨hcs, _⟩ | ⟨a, len, cap, m, n, D, Pl, hcs, _, hl, hm, hmm, _, hel⟩
  · simp only [List.cons.injEq, and_true] at hcs
    rw [hcs]; exact ⟨[], RdN.nil _ _, by simp⟩
  · simp only [List.cons.injEq, and_true] at hcs
    subst hcs
    have hlm : len ≤ m := by rw [hmm]; split <;> omega
    have hel' : ∀ i : Nat, ∃ r : List Value, i < len → w.cells? 0 (a.add (i * c)) c = some r ∧ Can enc P w sp held e r := by
      intro i
      by_cases hi : i < len
      · obtain ⟨cs', h1, h2⟩ := hel i (by omega)
        rw [hc] at h1
        exact ⟨cs', fun _ => ⟨h1, n, _, h2⟩⟩
      · exact ⟨[], fun h => absurd h hi⟩
    obtain ⟨R, hR⟩ : ∃ R : Nat → List Value, ∀ i, i < len → w.cells? 0 (a.add (i * c)) c = some (R i) ∧ Can enc P w sp held e (R i) := ⟨fun i => Classical.choose (hel' i), fun i => Classical.choose_spec (hel' i)⟩
    have key : ∀ i, i < len → (R i).length = c ∧ ∀ k, k < c → w.cell? ((a.add (i * c)).add k) = (R i)[k]? := by
      intro i hi
      have := World.cells?_some (hR i hi).1
      exact ⟨this.2.1, this.2.2⟩
    refine ⟨(List.range len).map R, ⟨?_, some a, cap, by simp, ⟨by simpa using hl, hm, by simp⟩, fun hne => ?_⟩, ?_⟩
    · intro r hr
      obtain ⟨i, hi, rfl⟩ := List.mem_map.1 hr
      exact (key i (List.mem_range.1 hi)).1
    · have h0 : 0 < len := by
        rcases Nat.eq_zero_or_pos len with h0 | h0
        · subst h0; simp at hne
        · exact h0
      obtain ⟨b, off, spot⟩ := a
      have g0 := (key 0 h0).2 0 hc0
      have hlt : 0 < (R 0).length := by rw [(key 0 h0).1]; exact hc0
      rw [List.getElem?_eq_getElem hlt] at g0
      have hs : spot = none := by simpa [Addr.add] using World.cell?_spot g0
      subst hs
      refine ⟨b, off, rfl, fun j r i u hj hi => ?_⟩
      rw [List.getElem?_map] at hj
      obtain ⟨j', hj', rfl⟩ := Option.map_eq_some_iff.1 hj
      obtain ⟨hjl, rfl⟩ : j < len ∧ j' = j := by
        have := List.getElem?_eq_some_iff.1 hj'
        obtain ⟨h1, h2⟩ := this
        simp at h1 h2; exact ⟨h1, h2.symm⟩
      have hic : i < c := by have := (List.getElem?_eq_some_iff.1 hi).1; rw [(key j' hjl).1] at this; exact this
      have := (key j' hjl).2 i hic
      rw [hi, add_off, add_off] at this
      rw [← this]
    · intro r hr
      obtain ⟨i, hi, rfl⟩ := List.mem_map.1 hr
      exact (hR i (List.mem_range.1 hi)).2

end
end Go.Proofs.Ytgecmooedhnenaa

/- What an argument of any type reads as: numbers, truth values, slices, structs, one in the other. No condition. -/
namespace Go.Proofs.Ytgecmooedhnenaa
open Go.RowKit Go.ChangeShapes Go.WideShapes

/-- Cells that are as told. -/
def CellsAre (w : World) (l : List AV) (cs : List Value) : Prop := cs.length = l.length ∧ ∀ (i : Nat) (a : AV) (v : Value), l[i]? = some a → cs[i]? = some v → PRel (fun _ => False) w a v ∧ v.oneCell' = true
theorem CellsAre.one {w : World} {a : AV} {v : Value} (h : PRel (fun _ => False) w a v) (h1 : v.oneCell' = true) : CellsAre w [a] [v] := ⟨rfl, fun i x y hx hy => by
  cases i with
  | zero => simp at hx hy; subst hx hy; exact ⟨h, h1⟩
  | succ i => simp at hx⟩
theorem CellsAre.app {w : World} {l m : List AV} {cs ds : List Value} (h : CellsAre w l cs) (g : CellsAre w m ds) : CellsAre w (l ++ m) (cs ++ ds) := ⟨by simp [h.1, g.1], fun i a v ha hv => by
  rw [List.getElem?_append] at ha hv
  rw [h.1] at hv
  split at ha
  · rw [if_pos ‹_›] at hv; exact h.2 i a v ha hv
  · rw [if_neg ‹_›] at hv; exact g.2 _ a v ha hv⟩
theorem CellsAre.rel {w : World} {l : List AV} {cs : List Value} (h : CellsAre w l cs) : RelL w l cs := ⟨h.1, fun i a v ha hv => .pure (h.2 i a v ha hv).1⟩
theorem CellsAre.agg {w : World} {l : List AV} {cs : List Value} (h : CellsAre w l cs) : Rel (fun _ => none) (fun _ => False) w (.agg l) (.agg cs.toArray) := RelL.agg h.rel
theorem CellsAre.val {w : World} {a : AV} {v : Value} (h : CellsAre w [a] [v]) : Rel (fun _ => none) (fun _ => False) w a v := h.rel.2 0 a v rfl rfl
section
variable {H : Type} (enc : TypeId × Value → H) (P : Program) (w : World)
/-- Values of the type t read as D. -/
def Rdr (t : TypeId) (D : Type) (av : D → List AV) (ok : D → Prop) : Prop := ∀ cs, Can enc P w (fun _ => true) true t cs → cs.length = P.cellsOf t → ∃ d, ok d ∧ CellsAre w (av d) cs
variable {enc P w}
theorem Rdr.map {t : TypeId} {D E : Type} {av : D → List AV} {ok : D → Prop} {av' : E → List AV} {ok' : E → Prop} (h : Rdr enc P w t D av ok) (g : D → E) (ha : ∀ d, av' (g d) = av d) (hk : ∀ d, ok d → ok' (g d)) : Rdr enc P w t E av' ok' := fun cs hc hl => by
  obtain ⟨d, h1, h2⟩ := h cs hc hl
  exact ⟨g d, hk d h1, by rw [ha]; exact h2⟩
theorem one_of_len {cs : List Value} (h : cs.length = 1) : ∃ c, cs = [c] := by
  match cs, h with
  | [c], _ => exact ⟨c, rfl⟩
theorem Rdr.int {t : TypeId} {k : IntKind} {ok : Int → Prop} (ht : P.underlying t = some (.int k)) (hc : P.cellsOf t = 1) (hk : ∀ n, (Lit.int k n).wf = true → ok n) : Rdr enc P w t Int (fun n => [.lit (.int k n)]) ok := fun cs h hl => by
  obtain ⟨c, rfl⟩ := one_of_len (hl.trans hc)
  obtain ⟨n, rfl, hw⟩ := Can.int ht h
  exact ⟨n, hk n hw, .one (.lit _) rfl⟩
theorem Rdr.slice {t e : TypeId} {c : Nat} {D : Type} {av : D → List AV} {ok : D → Prop} (ht : P.underlying t = some (.slice e)) (hct : P.cellsOf t = 1) (hc : P.cellsOf e = c) (hc0 : 0 < c) (h : Rdr enc P w e D av ok) :
    Rdr enc P w t (List D) (fun l => [.sl c (l.map av)]) (fun l => ∀ d ∈ l, ok d) := fun cs hcan hl => by
  obtain ⟨v, rfl⟩ := one_of_len (hl.trans hct)
  obtain ⟨rs, ⟨hlen, ao, cap, rfl, ⟨h1, h2, h3⟩, hcell⟩, hr⟩ := Can.slice ht hc hc0 hcan
  have hds : ∀ (rs : List (List Value)), (∀ r ∈ rs, r.length = c) → (∀ r ∈ rs, Can enc P w (fun _ => true) true e r) → ∃ l : List D, l.length = rs.length ∧ (∀ d ∈ l, ok d) ∧ ∀ (i : Nat) (d : D) (r : List Value), l[i]? = some d → rs[i]? = some r → CellsAre w (av d) r := by
    intro rs
    induction rs with
    | nil => intro _ _; exact ⟨[], rfl, by simp, by simp⟩
    | cons r rs ih =>
      intro hl hr
      obtain ⟨d, g1, g2⟩ := h r (hr r (by simp)) ((hl r (by simp)).trans hc.symm)
      obtain ⟨l, g3, g4, g5⟩ := ih (fun q hq => hl q (by simp [hq])) (fun q hq => hr q (by simp [hq]))
      refine ⟨d :: l, by simp [g3], fun x hx => ?_, fun i x q hx hq => ?_⟩
      · rcases List.mem_cons.1 hx with rfl | hx
        · exact g1
        · exact g4 x hx
      · cases i with
        | zero => simp at hx hq; subst hx hq; exact g2
        | succ i => exact g5 i x q (by simpa using hx) (by simpa using hq)
  obtain ⟨l, g1, g2, g3⟩ := hds rs hlen hr
  refine ⟨l, g2, .one ?_ rfl⟩
  by_cases hne : rs = []
  · subst hne
    have : l = [] := List.eq_nil_of_length_eq_zero g1
    subst this
    exact .nil c h2 h3
  · obtain ⟨b, off, rfl, hcv⟩ := hcell hne
    have hlm : rs.length = (l.map av).length := by rw [List.length_map, g1]
    rw [hlm]
    have get : ∀ (i : Nat) (q : List AV), (l.map av)[i]? = some q → ∃ (r : List Value), rs[i]? = some r ∧ CellsAre w q r ∧ r.length = c := by
      intro i q hq
      rw [List.getElem?_map, Option.map_eq_some_iff] at hq
      obtain ⟨d, hd, rfl⟩ := hq
      have hi : i < rs.length := by rw [← g1]; exact (List.getElem?_eq_some_iff.1 hd).1
      exact ⟨rs[i], List.getElem?_eq_getElem hi, g3 i d _ hd (List.getElem?_eq_getElem hi), hlen _ (List.getElem_mem hi)⟩
    have cell : ∀ (i : Nat) (q : List AV) (j : Nat) (a : AV), (l.map av)[i]? = some q → q[j]? = some a → w.cell? ⟨b, off + i * c + j, none⟩ = some (((rs[i]?).getD [])[j]?.getD undef) ∧ PRel (fun _ => False) w a (((rs[i]?).getD [])[j]?.getD undef) ∧ (((rs[i]?).getD [])[j]?.getD undef).oneCell' = true := by
      intro i q j a hq ha
      obtain ⟨r, hr, hca, _⟩ := get i q hq
      have hj : j < r.length := by rw [hca.1]; exact (List.getElem?_eq_some_iff.1 ha).1
      rw [hr, Option.getD_some, List.getElem?_eq_getElem hj, Option.getD_some]
      have := hca.2 j a _ ha (List.getElem?_eq_getElem hj)
      exact ⟨hcv i r j _ hr (List.getElem?_eq_getElem hj), this.1, this.2⟩
    refine .sl (fun i j => ((rs[i]?).getD [])[j]?.getD undef) (fun _ h => h) (fun hn => ?_) (by rw [← hlm]; exact h1) h2 (fun i q hq => ?_) (fun i q j a hq ha => (cell i q j a hq ha).1) (fun i q j a hq ha => (cell i q j a hq ha).2.1) (fun i q j a hq ha => (cell i q j a hq ha).2.2)
    · have h0 : 0 < rs.length := List.length_pos_iff.2 hne
      have hl0 : 0 < (rs[0]).length := by rw [hlen _ (List.getElem_mem h0)]; exact hc0
      exact World.block_lt_of_cell? w _ (hcv 0 rs[0] 0 _ (List.getElem?_eq_getElem h0) (List.getElem?_eq_getElem hl0))
    · obtain ⟨r, _, hca, hrl⟩ := get i q hq
      rw [← hca.1, hrl]
/-- A struct's fields from an offset on. -/
def RdrF (enc : TypeId × Value → H) (P : Program) (w : World) (fs : List Field) (off n : Nat) (D : Type) (av : D → List AV) (ok : D → Prop) : Prop :=
  ∀ cs : List Value, cs.length = n → (∀ f ∈ fs, Can enc P w (fun _ => true) true f.type ((cs.drop f.offset).take (P.cellsOf f.type))) → ∃ d, ok d ∧ CellsAre w (av d) (cs.drop off)
theorem RdrF.nil {n off : Nat} (h : n ≤ off) : RdrF enc P w [] off n Unit (fun _ => []) (fun _ => True) := fun cs hl _ => ⟨(), trivial, by
  rw [List.drop_eq_nil_of_le (by omega)]; exact ⟨rfl, by simp⟩⟩
theorem RdrF.cons {f : Field} {fs : List Field} {off n c : Nat} {D E : Type} {av : D → List AV} {ok : D → Prop} {av' : E → List AV} {ok' : E → Prop} (ho : f.offset = off) (hc : P.cellsOf f.type = c) (hn : off + c ≤ n) (h : Rdr enc P w f.type D av ok) (g : RdrF enc P w fs (off + c) n E av' ok') :
    RdrF enc P w (f :: fs) off n (D × E) (fun d => av d.1 ++ av' d.2) (fun d => ok d.1 ∧ ok' d.2) := fun cs hl hf => by
  obtain ⟨d, h1, h2⟩ := h _ (hf f (by simp)) (by simp; omega)
  obtain ⟨e, h3, h4⟩ := g cs hl (fun x hx => hf x (by simp [hx]))
  refine ⟨(d, e), ⟨h1, h3⟩, ?_⟩
  have : cs.drop off = (cs.drop f.offset).take (P.cellsOf f.type) ++ cs.drop (off + c) := by
    rw [ho, hc, ← List.drop_drop, List.take_append_drop]
  rw [this]; exact h2.app h4
theorem Rdr.struct {t : TypeId} {fs : List Field} {n : Nat} {D : Type} {av : D → List AV} {ok : D → Prop} (ht : P.underlying t = some (.struct fs.toArray)) (hn : P.cellsOf t = n) (h : RdrF enc P w fs 0 n D av ok) : Rdr enc P w t D av ok := fun cs hc hl => by
  obtain ⟨d, h1, h2⟩ := h cs (hl.trans hn) (fun f hf => by
    obtain ⟨i, hi⟩ := List.mem_iff_getElem?.1 hf
    exact Can.fields ht hc i f (by simpa using hi))
  exact ⟨d, h1, by simpa using h2⟩
/-- A struct as an argument. -/
theorem Rdr.aggV {t : TypeId} {fs : Array Field} {D : Type} {av : D → List AV} {ok : D → Prop} {v : Value} {d : DataW H} {p : List MemPlace} {r : Reach} {base : Nat} (h : Rdr enc P w t D av ok) (ht : P.underlying t = some (.struct fs)) (hv : Value.okWide P w r base t v) (hd : DataW.Trod enc P w 0 (fun _ => true) true t v d p) :
    ∃ x, ok x ∧ Rel (fun _ => none) (fun _ => False) w (.agg (av x)) v := by
  obtain ⟨cs, rfl, hs⟩ := okWide_struct ht hv
  obtain ⟨x, h1, h2⟩ := h _ (Can.of hd) (by simpa [Value.cells] using hs)
  refine ⟨x, h1, ?_⟩
  have := h2.agg
  simpa [Value.cells] using this
theorem Rdr.oneV {t : TypeId} {D : Type} {a : D → AV} {ok : D → Prop} {v : Value} {d : DataW H} {p : List MemPlace} (h : Rdr enc P w t D (fun x => [a x]) ok) (hv : v.cells = #[v]) (hc : P.cellsOf t = 1) (hd : DataW.Trod enc P w 0 (fun _ => true) true t v d p) : ∃ x, ok x ∧ Rel (fun _ => none) (fun _ => False) w (a x) v := by
  obtain ⟨x, h1, h2⟩ := h _ (Can.of hd) (by rw [hv, hc]; rfl)
  rw [hv] at h2
  exact ⟨x, h1, CellsAre.val h2⟩
end
end Go.Proofs.Ytgecmooedhnenaa

/- How often a window lies within; the shape of what a window makes. No condition. -/
namespace Go.Proofs.Ytgecmooedhnenaa
open Go.RowKit
set_option linter.unusedSimpArgs false
set_option linter.unusedVariables false
set_option linter.unnecessarySimpa false

set_option maxRecDepth 100000 in
set_option maxHeartbeats 2000000 in
theorem in_v (v lo hi : Int)  : VC Try.prog 239 ([i64 v, i64 lo, i64 hi]) (bv (decide (lo ≤ v) && decide (v ≤ hi))) := by
  exact VC.run (fn := Try.f239) (W := [.r [] [], .r [] [.op false, .op false, .op false, .sel 2]]) Try.func239 (by kernel_rfl) (.n)
/-- How often a window lies within, or why not. -/
def stepsE (n k s p : Int) : Int × Int := if n < 1 ∨ 1024 < n ∨ k < 1 ∨ 5 < k ∨ s < 1 ∨ 4 < s ∨ p < 0 ∨ 4 < p ∨ k ≤ p then (0, 2) else if n + 2 * p < k then (0, 5) else ((n + 2 * p - k) / s + 1, 0)
theorem div4 (a s : Int) (h0 : 0 ≤ a) (h1 : a ≤ 2000) (h2 : 1 ≤ s) : 0 ≤ a / s ∧ a / s ≤ 2000 := ⟨Int.ediv_nonneg h0 (by omega), Int.le_trans (Int.ediv_le_self s h0) h1⟩
set_option maxRecDepth 100000 in
set_option maxHeartbeats 2000000 in
theorem steps_v (n k s p : Int)  : VC Try.prog 234 ([i64 n, i64 k, i64 s, i64 p]) (.tup [i64 (stepsE n k s p).1, i64 (stepsE n k s p).2]) := by
  have oz0 := @in_v (n) (1) (1024)
  have oz1 := @in_v (k) (1) (5)
  have oz2 := @in_v (s) (1) (4)
  have oz3 := @in_v (p) (0) (4)
  rcases Bool.eq_false_or_eq_true (!(decide (1 ≤ n) && decide (n ≤ 1024)) || !(decide (1 ≤ k) && decide (k ≤ 5)) || !(decide (1 ≤ s) && decide (s ≤ 4)) || !(decide (0 ≤ p) && decide (p ≤ 4)) || decide (p ≥ k)) with hc0 | hc0
  · have gc0 : ((((¬1 ≤ n ∨ ¬n ≤ 1024) ∨ ¬1 ≤ k ∨ ¬k ≤ 5) ∨ ¬1 ≤ s ∨ ¬s ≤ 4) ∨ ¬0 ≤ p ∨ ¬p ≤ 4) ∨ p ≥ k := by first | (simp only [Bool.or_eq_true, Bool.or_eq_false_iff, Bool.and_eq_true, Bool.and_eq_false_iff, Bool.not_eq_true', Bool.not_eq_false', decide_eq_true_eq, decide_eq_false_iff_not, beq_iff_eq, bne_iff_ne, ne_eq, beq_eq_false_iff_ne, bne_eq_false_iff_eq, eqNums, Bool.and_true] at hc0; first | exact hc0 | omega) | simpa using hc0 | (simp at hc0 ⊢; omega) | (apply Classical.byContradiction; intro hn; simp_all [eqNums]; done) | (apply Classical.byContradiction; intro hn; simp [eqNums] at hc0 hn; omega)
    exact (VC.run (fn := Try.f234) (W := [.r [] [], .r [] [.callr (rO oz0), .op false, .op false, .callr (rO oz1), .op false, .sel 1, .op false, .op false, .callr (rO oz2), .op false, .sel 1, .op false, .op false, .callr (rO oz3), .op false, .sel 1, .op false, .op false, .op false, .sel 1], .br true, .r [] []]) (r := AV.tup [i64 0, i64 2]) Try.func234 (by kernel_rfl) (.c oz0 <| .c oz1 <| .c oz2 <| .c oz3 <| .c hc0 <| .n)).to (by (simp only [stepsE]; rw [if_pos (by omega)]))
  · have gc0 : ((((1 ≤ n ∧ n ≤ 1024) ∧ 1 ≤ k ∧ k ≤ 5) ∧ 1 ≤ s ∧ s ≤ 4) ∧ 0 ≤ p ∧ p ≤ 4) ∧ ¬p ≥ k := by first | (simp only [Bool.or_eq_true, Bool.or_eq_false_iff, Bool.and_eq_true, Bool.and_eq_false_iff, Bool.not_eq_true', Bool.not_eq_false', decide_eq_true_eq, decide_eq_false_iff_not, beq_iff_eq, bne_iff_ne, ne_eq, beq_eq_false_iff_ne, bne_eq_false_iff_eq, eqNums, Bool.and_true] at hc0; first | exact hc0 | omega) | simpa using hc0 | (simp at hc0 ⊢; omega) | (apply Classical.byContradiction; intro hn; simp_all [eqNums]; done) | (apply Classical.byContradiction; intro hn; simp [eqNums] at hc0 hn; omega)
    have oz5 := (IntWalk.i64_in (2 * p) (by omega))
    have oz6 := (IntWalk.i64_in (n + 2 * p) (by omega))
    rcases Bool.eq_false_or_eq_true (decide (k > n + 2 * p)) with hc1 | hc1
    · have gc1 := of_decide_eq_true hc1
      exact (VC.run (fn := Try.f234) (W := [.r [] [], .r [] [.callr (rO oz0), .op false, .op false, .callr (rO oz1), .op false, .sel 1, .op false, .op false, .callr (rO oz2), .op false, .sel 1, .op false, .op false, .callr (rO oz3), .op false, .sel 1, .op false, .op false, .op false, .sel 1], .br false, .r [] [.n (nO oz5), .n (nO oz6)], .br true, .r [] []]) (r := AV.tup [i64 0, i64 5]) Try.func234 (by kernel_rfl) (.c oz0 <| .c oz1 <| .c oz2 <| .c oz3 <| .c hc0 <| .c oz5 <| .c oz6 <| .c hc1 <| .n)).to (by (simp only [stepsE]; rw [if_neg (by omega), if_pos (by omega)]))
    · have gc1 := of_decide_eq_false hc1
      have oz12 := (show IntKind.i64.wrap ((n + 2 * p - k).tdiv s) = (n + 2 * p - k) / s from (Eq.trans (congrArg _ (Int.tdiv_eq_ediv_of_nonneg (by omega))) (by with_reducible exact IntWalk.i64_in _ (by have := div4 (n + 2 * p - k) s (by omega) (by omega) (by omega); omega))))
      have oz13 := (show IntKind.i64.wrap ((n + 2 * p - k) / s + 1) = (n + 2 * p - k) / s + 1 by with_reducible exact IntWalk.i64_in _ (by have := div4 (n + 2 * p - k) s (by omega) (by omega) (by omega); omega))
      exact (VC.run (fn := Try.f234) (W := [.r [] [], .r [] [.callr (rO oz0), .op false, .op false, .callr (rO oz1), .op false, .sel 1, .op false, .op false, .callr (rO oz2), .op false, .sel 1, .op false, .op false, .callr (rO oz3), .op false, .sel 1, .op false, .op false, .op false, .sel 1], .br false, .r [] [.n (nO oz5), .n (nO oz6)], .br false, .r [] [.n (nO oz5), .n (nO oz6), .n (n + 2 * p - k), .n ((n + 2 * p - k) / s), .n (nO oz13)]]) (r := AV.tup [i64 ((n + 2 * p - k) / s + 1), i64 0]) Try.func234 (by kernel_rfl) (.c oz0 <| .c oz1 <| .c oz2 <| .c oz3 <| .c hc0 <| .c oz5 <| .c oz6 <| .c hc1 <| .c oz5 <| .c oz6 <| .c (IntWalk.i64_in (n + 2 * p - k) (by omega)) <| .c (show s ≠ 0 by omega) <| .c oz12 <| .c oz13 <| .n)).to (by (simp only [stepsE]; rw [if_neg (by omega), if_neg (by omega)]))
theorem succ_mul' (k : Nat) (s : Int) : ((k + 1 : Nat) : Int) * s = k * s + s := by rw [Int.natCast_add, Int.add_mul]; simp
/-- So often. -/
def stepsM (n w s p : Int) : Nat := (if n + 2 * p < w then 0 else (n + 2 * p - w) / s + 1).toNat
structure StepsOk (n w s p : Int) : Prop where
  n0 : 1 ≤ n
  n1 : n ≤ 1024
  w0 : 1 ≤ w
  w1 : w ≤ 5
  s0 : 1 ≤ s
  s1 : s ≤ 4
  p0 : 0 ≤ p
  p1 : p ≤ 4
theorem stepsM_le {n w s p : Int} (h : StepsOk n w s p) : (stepsM n w s p : Int) ≤ 1040 := by
  obtain ⟨h1, h2, h3, h4, h5, h6, h7, h8⟩ := h
  unfold stepsM
  split
  · simp
  · have := div4 (n + 2 * p - w) s (by omega) (by omega) h5
    have h9 := Int.ediv_le_self s (show 0 ≤ n + 2 * p - w by omega)
    omega
theorem stepsM_lt {n w s p : Int} (h : StepsOk n w s p) {k : Nat} (hk : k < stepsM n w s p) : (k : Int) * s - p + w ≤ n + p := by
  obtain ⟨h1, h2, h3, h4, h5, h6, h7, h8⟩ := h
  unfold stepsM at hk
  split at hk
  · simp at hk
  · have h10 : (k : Int) ≤ (n + 2 * p - w) / s := by omega
    have h9 := Int.mul_le_of_le_ediv (by omega : 0 < s) h10
    omega
theorem stepsM_end {n w s p : Int} (h : StepsOk n w s p) : n + p < (stepsM n w s p : Int) * s - p + w := by
  obtain ⟨h1, h2, h3, h4, h5, h6, h7, h8⟩ := h
  unfold stepsM
  split
  · simp; omega
  · have h9 := Int.lt_ediv_add_one_mul_self (n + 2 * p - w) (by omega : 0 < s)
    have h10 := div4 (n + 2 * p - w) s (by omega) (by omega) h5
    rw [Int.toNat_of_nonneg (by omega)]
    omega
noncomputable def refSteps_l_I (n w s p : Int) (k : Nat) : VS := stt 64 [(0, i64 n), (1, i64 w), (2, i64 s), (3, i64 p), (10, i64 k), (11, i64 (k * s - p))] []
noncomputable def refSteps_l_Z (n w s p : Int) : VS := refSteps_l_I n w s p (stepsM n w s p)
set_option maxRecDepth 100000 in
set_option maxHeartbeats 2000000 in
theorem refSteps_l_s (n w s p : Int) (h : StepsOk n w s p) (k : Nat) (hk : k < stepsM n w s p) : VT Try.prog (fnC Try.f219 [1, 1, 1, 0, 1, 0, 0]) (refSteps_l_I n w s p k) .normal (refSteps_l_I n w s p (k + 1)) := by
  have h0 := stepsM_lt h hk
  have h2 : 0 ≤ (k : Int) * s := Int.mul_nonneg (by omega) (by have := h.s0; omega)
  have h1 := stepsM_le h
  obtain ⟨g1, g2, g3, g4, g5, g6, g7, g8⟩ := h
  exact VT.run (W := [.r [] [.n ((↑k : Int) * s - p + w), .n (n + p)], .br true, .r [] [.n ((↑k : Int) + 1)], .r [] [.n ((↑k : Int) * s - p + s)]]) (G := [.any (rg [(49, 12)]), .weak 10 (i64 (↑(k + 1) : Int)), .weak 11 (i64 ((↑(k + 1) : Int) * s - p)), .sort]) (by kernel_rfl) (.c (IntWalk.i64_in ((↑k : Int) * s - p + w) (by omega)) <| .c (IntWalk.i64_in (n + p) (by omega)) <| .c (decide_eq_true (p := ((↑k : Int) * s - p + w ≤ n + p)) (by omega)) <| .c (IntWalk.i64_in ((↑k : Int) + 1) (by omega)) <| .c (IntWalk.i64_in ((↑k : Int) * s - p + s) (by omega)) <| .c (Weak.int (k := .i64) (show (((↑k : Int) + 1) : Int) = ((↑(k + 1) : Int)) from (by omega))) <| .c (Weak.int (k := .i64) (show (((↑k : Int) * s - p + s) : Int) = ((↑(k + 1) : Int) * s - p) from (by (rw [succ_mul']; omega)))) <| .n)
set_option maxRecDepth 100000 in
set_option maxHeartbeats 2000000 in
theorem refSteps_l_e (n w s p : Int) (h : StepsOk n w s p) : VT Try.prog (fnC Try.f219 [1, 1, 1, 0, 1, 0, 0]) (refSteps_l_I n w s p (stepsM n w s p)) (.exit 0) (refSteps_l_Z n w s p) := by
  have h0 := stepsM_end h
  have h3 : 0 ≤ (stepsM n w s p : Int) * s := Int.mul_nonneg (by omega) (by have := h.s0; omega)
  have h1 := stepsM_le h
  have h2 : (stepsM n w s p : Int) * s ≤ 1040 * 4 := Int.mul_le_mul h1 h.s1 (by have := h.s0; omega) (by omega)
  obtain ⟨g1, g2, g3, g4, g5, g6, g7, g8⟩ := h
  have oz0 := (IntWalk.i64_in ((↑(stepsM n w s p) : Int) * s - p + w) (by omega))
  exact VT.run (W := [.r [] [.n (nO oz0), .n (n + p)], .br false]) (G := [.any (rg [(49, 7)]), .sort]) (by kernel_rfl) (.c oz0 <| .c (IntWalk.i64_in (n + p) (by omega)) <| .c (decide_eq_false (p := ((↑(stepsM n w s p) : Int) * s - p + w ≤ n + p)) (by omega)) <| .n)
theorem refSteps_l (n w s p : Int) (h : StepsOk n w s p) : VT Try.prog (fnC Try.f219 [1, 1, 1, 0, 1, 0]) (refSteps_l_I n w s p 0) (.exit 0) (refSteps_l_Z n w s p) :=
  VT.loop (fun k => refSteps_l_I n w s p k) (stepsM n w s p) (fun k hk => refSteps_l_s n w s p h k hk) (refSteps_l_e n w s p h) (by intro h; cases h)
theorem stepsE_ok {n w s p : Int} (h : StepsOk n w s p) (hw : p < w) : (if (stepsM n w s p : Int) = 0 then ((0 : Int), (5 : Int)) else ((stepsM n w s p : Int), 0)) = stepsE n w s p := by
  have hd := div4 (n + 2 * p - w) s
  obtain ⟨h1, h2, h3, h4, h5, h6, h7, h8⟩ := h
  unfold stepsM stepsE
  rw [if_neg (by omega : ¬ (n < 1 ∨ 1024 < n ∨ w < 1 ∨ 5 < w ∨ s < 1 ∨ 4 < s ∨ p < 0 ∨ 4 < p ∨ w ≤ p))]
  by_cases h : n + 2 * p < w
  · rw [if_pos h, if_pos h]; simp
  · have := hd (by omega) (by omega) h5
    rw [if_neg h, if_neg h, if_neg (by omega)]
    rw [Int.toNat_of_nonneg (by omega)]
set_option maxRecDepth 100000 in
set_option maxHeartbeats 2000000 in
theorem refSteps_v (n k s p : Int)  : VC Try.prog 219 ([i64 n, i64 k, i64 s, i64 p]) (.tup [i64 (stepsE n k s p).1, i64 (stepsE n k s p).2]) := by
  rcases Bool.eq_false_or_eq_true (decide (n < 1) || decide (n > 1024) || decide (k < 1) || decide (k > 5) || decide (s < 1) || decide (s > 4) || decide (p < 0) || decide (p > 4) || decide (p ≥ k)) with hc0 | hc0
  · have gc0 : (((((((n < 1 ∨ n > 1024) ∨ k < 1) ∨ k > 5) ∨ s < 1) ∨ s > 4) ∨ p < 0) ∨ p > 4) ∨ p ≥ k := by first | (simp only [Bool.or_eq_true, Bool.or_eq_false_iff, Bool.and_eq_true, Bool.and_eq_false_iff, Bool.not_eq_true', Bool.not_eq_false', decide_eq_true_eq, decide_eq_false_iff_not, beq_iff_eq, bne_iff_ne, ne_eq, beq_eq_false_iff_ne, bne_eq_false_iff_eq, eqNums, Bool.and_true] at hc0; first | exact hc0 | omega) | simpa using hc0 | (simp at hc0 ⊢; omega) | (apply Classical.byContradiction; intro hn; simp_all [eqNums]; done) | (apply Classical.byContradiction; intro hn; simp [eqNums] at hc0 hn; omega)
    exact (VC.run (fn := Try.f219) (W := [.r [] [], .r [] [.op false, .op false, .sel 1, .op false, .op false, .sel 1, .op false, .op false, .sel 1, .op false, .op false, .sel 1, .op false, .op false, .sel 1, .op false, .op false, .sel 1, .op false, .op false, .sel 1, .op false, .op false, .op false, .sel 1], .br true, .r [] []]) (r := AV.tup [i64 0, i64 2]) Try.func219 (by kernel_rfl) (.c hc0 <| .n)).to (by (simp only [stepsE]; rw [if_pos (by omega)]))
  · have gc0 : (((((((¬n < 1 ∧ ¬n > 1024) ∧ ¬k < 1) ∧ ¬k > 5) ∧ ¬s < 1) ∧ ¬s > 4) ∧ ¬p < 0) ∧ ¬p > 4) ∧ ¬p ≥ k := by first | (simp only [Bool.or_eq_true, Bool.or_eq_false_iff, Bool.and_eq_true, Bool.and_eq_false_iff, Bool.not_eq_true', Bool.not_eq_false', decide_eq_true_eq, decide_eq_false_iff_not, beq_iff_eq, bne_iff_ne, ne_eq, beq_eq_false_iff_ne, bne_eq_false_iff_eq, eqNums, Bool.and_true] at hc0; first | exact hc0 | omega) | simpa using hc0 | (simp at hc0 ⊢; omega) | (apply Classical.byContradiction; intro hn; simp_all [eqNums]; done) | (apply Classical.byContradiction; intro hn; simp [eqNums] at hc0 hn; omega)
    have oz1 := (IntWalk.i64_in (0 - p) (by omega))
    have oz2 := (Weak.int (k := .i64) (show ((0) : Int) = ((↑0 : Int)) from (by omega)))
    have oz3 := (Weak.int (k := .i64) (show ((0 - p) : Int) = ((↑0 : Int) * s - p) from (by omega)))
    have oz4 := @refSteps_l (n) (k) (s) (p) (by (constructor <;> omega))
    rcases Bool.eq_false_or_eq_true ((↑(stepsM n k s p) : Int) == 0) with hc1 | hc1
    · have gc1 : (↑(stepsM n k s p) : Int) = 0 := bet hc1
      exact (VC.run (fn := Try.f219) (W := [.r [] [], .r [] [.op false, .op false, .sel 1, .op false, .op false, .sel 1, .op false, .op false, .sel 1, .op false, .op false, .sel 1, .op false, .op false, .sel 1, .op false, .op false, .sel 1, .op false, .op false, .sel 1, .op false, .op false, .op false, .sel 1], .br false, .r [] [], .r [] [.n (nO oz1)], .code [.any [8, 9, 12, 13, 14, 17, 18, 21, 22, 25, 26, 29, 30, 33, 34, 37, 38, 41, 42, 46, 47, 48], .weak 10 (wO oz2), .weak 11 (wO oz3), .sort] (Exit.exit 0) (zO oz4), .r [] [], .br true, .r [] []]) (r := AV.tup [i64 0, i64 5]) Try.func219 (by kernel_rfl) (.c hc0 <| .c oz1 <| .c oz2 <| .c oz3 <| .c oz4 <| .c hc1 <| .n)).weak (WeakL.refl _) (Weak.tup (.cons (Weak.int (show ((0) : Int) = ((stepsE n k s p).fst) from (by (rw [← stepsE_ok (by constructor <;> omega) (by omega), if_pos (by omega)])))) (.cons (Weak.int (show ((5) : Int) = ((stepsE n k s p).snd) from (by (rw [← stepsE_ok (by constructor <;> omega) (by omega), if_pos (by omega)])))) .nil)))
    · have gc1 : ¬(↑(stepsM n k s p) : Int) = 0 := bef hc1
      exact (VC.run (fn := Try.f219) (W := [.r [] [], .r [] [.op false, .op false, .sel 1, .op false, .op false, .sel 1, .op false, .op false, .sel 1, .op false, .op false, .sel 1, .op false, .op false, .sel 1, .op false, .op false, .sel 1, .op false, .op false, .sel 1, .op false, .op false, .op false, .sel 1], .br false, .r [] [], .r [] [.n (nO oz1)], .code [.any [8, 9, 12, 13, 14, 17, 18, 21, 22, 25, 26, 29, 30, 33, 34, 37, 38, 41, 42, 46, 47, 48], .weak 10 (wO oz2), .weak 11 (wO oz3), .sort] (Exit.exit 0) (zO oz4), .r [] [], .br false, .r [] []]) (r := AV.tup [i64 (↑(stepsM n k s p) : Int), i64 0]) Try.func219 (by kernel_rfl) (.c hc0 <| .c oz1 <| .c oz2 <| .c oz3 <| .c oz4 <| .c hc1 <| .n)).weak (WeakL.refl _) (Weak.tup (.cons (Weak.int (show (((↑(stepsM n k s p) : Int)) : Int) = ((stepsE n k s p).fst) from (by (rw [← stepsE_ok (by constructor <;> omega) (by omega), if_neg (by omega)])))) (.cons (Weak.int (show ((0) : Int) = ((stepsE n k s p).snd) from (by (rw [← stepsE_ok (by constructor <;> omega) (by omega), if_neg (by omega)])))) .nil)))
theorem stepsE_bd (n k s p : Int) : 0 ≤ (stepsE n k s p).1 ∧ (stepsE n k s p).1 ≤ 2001 ∧ 0 ≤ (stepsE n k s p).2 ∧ (stepsE n k s p).2 ≤ 5 := by
  unfold stepsE; split
  · simp
  · split
    · simp
    · have := div4 (n + 2 * p - k) s (by omega) (by omega) (by omega)
      simp only; omega
structure Shp where
  h : Int
  x : Int
  c : Int
structure Shp.Ok (s : Shp) : Prop where
  h : In64 s.h
  x : In64 s.x
  c : In64 s.c
theorem Shp.mk_ok {a b c : Int} (x : In64 a) (y : In64 b) (z : In64 c) : Shp.Ok ⟨a, b, c⟩ := ⟨x, y, z⟩
abbrev shp (s : Shp) : AV := .agg [i64 s.h, i64 s.x, i64 s.c]
/-- The shape of what a window makes, or why there is none. -/
def slideE (t : Shp) (k s p o : Int) : Shp × Int :=
  if ¬ 0 < elems t.h t.x t.c then (⟨0, 0, 0⟩, 5) else if (stepsE t.h k s p).2 ≠ 0 then (⟨0, 0, 0⟩, (stepsE t.h k s p).2) else if (stepsE t.x k s p).2 ≠ 0 then (⟨0, 0, 0⟩, (stepsE t.x k s p).2)
  else if ¬ 0 < elems (stepsE t.h k s p).1 (stepsE t.x k s p).1 o then (⟨0, 0, 0⟩, 5) else (⟨(stepsE t.h k s p).1, (stepsE t.x k s p).1, o⟩, 0)
set_option maxRecDepth 100000 in
set_option maxHeartbeats 2000000 in
theorem sRight_v (t : Shp) (ok : t.Ok) : VC Try.prog 149 ([shp t]) (bv (decide (0 < elems t.h t.x t.c))) := by
  have q1 := ok.h
  have q2 := ok.x
  have q3 := ok.c
  have oz0 := @elems_v (t.h) (t.x) (t.c) q1 q2 q3
  exact VC.run (fn := Try.f149) (W := [.r [] [], .r [] [.callr (rO oz0)]]) Try.func149 (by kernel_rfl) (.c oz0 <| .n)

set_option maxRecDepth 100000 in
set_option maxHeartbeats 2000000 in
theorem slide_v (t : Shp) (k s p o : Int) (ok : t.Ok) (ho : In64 o) : VC Try.prog 227 ([shp t, i64 k, i64 s, i64 p, i64 o]) (.tup [shp (slideE t k s p o).1, i64 (slideE t k s p o).2]) := by
  have q1 := ok.h
  have q2 := ok.x
  have q3 := ok.c
  have q4 := stepsE_bd t.h k s p
  have q5 := stepsE_bd t.x k s p
  have oz0 := @sRight_v (t) ok
  rcases Bool.eq_false_or_eq_true (!decide (0 < elems t.h t.x t.c)) with hc0 | hc0
  · have gc0 := bnt hc0
    exact (VC.run (fn := Try.f227) (W := [.r [] [], .r [] [.callr (rO oz0)], .br true, .r [] []]) (r := AV.tup [AV.agg [i64 0, i64 0, i64 0], i64 5]) Try.func227 (by kernel_rfl) (.c oz0 <| .c hc0 <| .n)).to (by (simp only [slideE]; rw [if_pos (by omega)]))
  · have gc0 := bnf hc0
    have oz2 := @steps_v (t.h) (k) (s) (p)
    rcases Bool.eq_false_or_eq_true ((stepsE t.h k s p).snd != 0) with hc1 | hc1
    · have gc1 : ¬(stepsE t.h k s p).snd = 0 := bdt hc1
      exact (VC.run (fn := Try.f227) (W := [.r [] [], .r [] [.callr (rO oz0)], .br false, .r [] [.callr (rO oz2)], .r [] [], .br true, .r [] []]) (r := AV.tup [AV.agg [i64 0, i64 0, i64 0], i64 (stepsE t.h k s p).snd]) Try.func227 (by kernel_rfl) (.c oz0 <| .c hc0 <| .c oz2 <| .c hc1 <| .n)).to (by (simp only [slideE]; rw [if_neg (by omega), if_pos (by omega)]))
    · have gc1 : (stepsE t.h k s p).snd = 0 := bdf hc1
      have oz4 := @steps_v (t.x) (k) (s) (p)
      rcases Bool.eq_false_or_eq_true ((stepsE t.x k s p).snd != 0) with hc2 | hc2
      · have gc2 : ¬(stepsE t.x k s p).snd = 0 := bdt hc2
        exact (VC.run (fn := Try.f227) (W := [.r [] [], .r [] [.callr (rO oz0)], .br false, .r [] [.callr (rO oz2)], .r [] [], .br false, .r [] [.callr (rO oz4)], .r [] [], .br true, .r [] []]) (r := AV.tup [AV.agg [i64 0, i64 0, i64 0], i64 (stepsE t.x k s p).snd]) Try.func227 (by kernel_rfl) (.c oz0 <| .c hc0 <| .c oz2 <| .c hc1 <| .c oz4 <| .c hc2 <| .n)).to (by (simp only [slideE]; rw [if_neg (by omega), if_neg (by omega), if_pos (by omega)]))
      · have gc2 : (stepsE t.x k s p).snd = 0 := bdf hc2
        have oz6 := @sRight_v (Shp.mk (stepsE t.h k s p).fst (stepsE t.x k s p).fst o) (by (exact Shp.mk_ok ⟨by omega, by omega⟩ ⟨by omega, by omega⟩ ho))
        rcases Bool.eq_false_or_eq_true (!decide (0 < elems (stepsE t.h k s p).fst (stepsE t.x k s p).fst o)) with hc3 | hc3
        · have gc3 := bnt hc3
          exact (VC.run (fn := Try.f227) (W := [.r [] [], .r [] [.callr (rO oz0)], .br false, .r [] [.callr (rO oz2)], .r [] [], .br false, .r [] [.callr (rO oz4)], .r [] [], .br false, .r [] [], .r [] [.callr (rO oz6)], .br true, .r [] []]) (r := AV.tup [AV.agg [i64 0, i64 0, i64 0], i64 5]) Try.func227 (by kernel_rfl) (.c oz0 <| .c hc0 <| .c oz2 <| .c hc1 <| .c oz4 <| .c hc2 <| .c oz6 <| .c hc3 <| .n)).to (by (simp only [slideE]; rw [if_neg (by omega), if_neg (by omega), if_neg (by omega), if_pos (by omega)]))
        · have gc3 := bnf hc3
          exact (VC.run (fn := Try.f227) (W := [.r [] [], .r [] [.callr (rO oz0)], .br false, .r [] [.callr (rO oz2)], .r [] [], .br false, .r [] [.callr (rO oz4)], .r [] [], .br false, .r [] [], .r [] [.callr (rO oz6)], .br false, .r [] []]) (r := AV.tup [AV.agg [i64 (stepsE t.h k s p).fst, i64 (stepsE t.x k s p).fst, i64 o], i64 0]) Try.func227 (by kernel_rfl) (.c oz0 <| .c hc0 <| .c oz2 <| .c hc1 <| .c oz4 <| .c hc2 <| .c oz6 <| .c hc3 <| .n)).to (by (simp only [slideE]; rw [if_neg (by omega), if_neg (by omega), if_neg (by omega), if_neg (by omega)]))

set_option maxRecDepth 100000 in
set_option maxHeartbeats 2000000 in
theorem refSlide_v (t : Shp) (k s p o : Int) (ok : t.Ok) (ho : In64 o) : VC Try.prog 196 ([shp t, i64 k, i64 s, i64 p, i64 o]) (.tup [shp (slideE t k s p o).1, i64 (slideE t k s p o).2]) := by
  have q1 := ok.h
  have q2 := ok.x
  have q3 := ok.c
  have q4 := stepsE_bd t.h k s p
  have q5 := stepsE_bd t.x k s p
  have q6 := elems_bd t.h t.x t.c
  have q7 := elems_bd (stepsE t.h k s p).1 (stepsE t.x k s p).1 o
  have oz0 := @refElems_v (t.h) (t.x) (t.c) q1 q2 q3
  rcases Bool.eq_false_or_eq_true (elems t.h t.x t.c == 0) with hc0 | hc0
  · have gc0 : elems t.h t.x t.c = 0 := bet hc0
    exact (VC.run (fn := Try.f196) (W := [.r [] [], .r [] [.callr (rO oz0)], .br true, .r [] []]) (r := AV.tup [AV.agg [i64 0, i64 0, i64 0], i64 5]) Try.func196 (by kernel_rfl) (.c oz0 <| .c hc0 <| .n)).to (by (simp only [slideE]; rw [if_pos (by omega)]))
  · have gc0 : ¬elems t.h t.x t.c = 0 := bef hc0
    have oz2 := @refSteps_v (t.h) (k) (s) (p)
    rcases Bool.eq_false_or_eq_true ((stepsE t.h k s p).snd != 0) with hc1 | hc1
    · have gc1 : ¬(stepsE t.h k s p).snd = 0 := bdt hc1
      exact (VC.run (fn := Try.f196) (W := [.r [] [], .r [] [.callr (rO oz0)], .br false, .r [] [.callr (rO oz2)], .r [] [], .br true, .r [] []]) (r := AV.tup [AV.agg [i64 0, i64 0, i64 0], i64 (stepsE t.h k s p).snd]) Try.func196 (by kernel_rfl) (.c oz0 <| .c hc0 <| .c oz2 <| .c hc1 <| .n)).to (by (simp only [slideE]; rw [if_neg (by omega), if_pos (by omega)]))
    · have gc1 : (stepsE t.h k s p).snd = 0 := bdf hc1
      have oz4 := @refSteps_v (t.x) (k) (s) (p)
      rcases Bool.eq_false_or_eq_true ((stepsE t.x k s p).snd != 0) with hc2 | hc2
      · have gc2 : ¬(stepsE t.x k s p).snd = 0 := bdt hc2
        exact (VC.run (fn := Try.f196) (W := [.r [] [], .r [] [.callr (rO oz0)], .br false, .r [] [.callr (rO oz2)], .r [] [], .br false, .r [] [.callr (rO oz4)], .r [] [], .br true, .r [] []]) (r := AV.tup [AV.agg [i64 0, i64 0, i64 0], i64 (stepsE t.x k s p).snd]) Try.func196 (by kernel_rfl) (.c oz0 <| .c hc0 <| .c oz2 <| .c hc1 <| .c oz4 <| .c hc2 <| .n)).to (by (simp only [slideE]; rw [if_neg (by omega), if_neg (by omega), if_pos (by omega)]))
      · have gc2 : (stepsE t.x k s p).snd = 0 := bdf hc2
        have oz6 := @refElems_v ((stepsE t.h k s p).fst) ((stepsE t.x k s p).fst) (o) (by omega) (by omega) ho
        rcases Bool.eq_false_or_eq_true (elems (stepsE t.h k s p).fst (stepsE t.x k s p).fst o == 0) with hc3 | hc3
        · have gc3 : elems (stepsE t.h k s p).fst (stepsE t.x k s p).fst o = 0 := bet hc3
          exact (VC.run (fn := Try.f196) (W := [.r [] [], .r [] [.callr (rO oz0)], .br false, .r [] [.callr (rO oz2)], .r [] [], .br false, .r [] [.callr (rO oz4)], .r [] [], .br false, .r [] [], .r [] [.callr (rO oz6)], .br true, .r [] []]) (r := AV.tup [AV.agg [i64 0, i64 0, i64 0], i64 5]) Try.func196 (by kernel_rfl) (.c oz0 <| .c hc0 <| .c oz2 <| .c hc1 <| .c oz4 <| .c hc2 <| .c oz6 <| .c hc3 <| .n)).to (by (simp only [slideE]; rw [if_neg (by omega), if_neg (by omega), if_neg (by omega), if_pos (by omega)]))
        · have gc3 : ¬elems (stepsE t.h k s p).fst (stepsE t.x k s p).fst o = 0 := bef hc3
          exact (VC.run (fn := Try.f196) (W := [.r [] [], .r [] [.callr (rO oz0)], .br false, .r [] [.callr (rO oz2)], .r [] [], .br false, .r [] [.callr (rO oz4)], .r [] [], .br false, .r [] [], .r [] [.callr (rO oz6)], .br false, .r [] []]) (r := AV.tup [AV.agg [i64 (stepsE t.h k s p).fst, i64 (stepsE t.x k s p).fst, i64 o], i64 0]) Try.func196 (by kernel_rfl) (.c oz0 <| .c hc0 <| .c oz2 <| .c hc1 <| .c oz4 <| .c hc2 <| .c oz6 <| .c hc3 <| .n)).to (by (simp only [slideE]; rw [if_neg (by omega), if_neg (by omega), if_neg (by omega), if_neg (by omega)]))
end Go.Proofs.Ytgecmooedhnenaa

/- Windows over a tensor: shapes and sums, by the program and by the document. No condition. -/
namespace Go.Proofs.Ytgecmooedhnenaa
open Go.RowKit
set_option linter.unusedSimpArgs false
set_option linter.unusedVariables false
set_option linter.unnecessarySimpa false

/-- Sums. -/
def sumN (f : Nat → Int) : Nat → Int
  | 0 => 0
  | n + 1 => sumN f n + f n
theorem sumN_congr {f g : Nat → Int} : ∀ n, (∀ k, k < n → f k = g k) → sumN f n = sumN g n
  | 0, _ => rfl
  | n + 1, h => by rw [sumN, sumN, sumN_congr n fun k hk => h k (by omega), h n (by omega)]
theorem sumN_bd {f : Nat → Int} {B : Int} : ∀ n, (∀ k, k < n → -B ≤ f k ∧ f k ≤ B) → -(n * B) ≤ sumN f n ∧ sumN f n ≤ n * B
  | 0, _ => by simp [sumN]
  | n + 1, h => by
    have h1 := sumN_bd n fun k hk => h k (by omega)
    have h2 := h n (by omega)
    rw [sumN, succ_mul']; omega
theorem sumN_zero {f : Nat → Int} (n : Nat) (h : ∀ k, k < n → f k = 0) : sumN f n = 0 := by
  have := sumN_bd (f := f) (B := 0) n fun k hk => by rw [h k hk]; omega
  omega
theorem idx_bd {a b m n : Int} (a0 : 0 ≤ a) (a1 : a < m) (b0 : 0 ≤ b) (b1 : b < n) : 0 ≤ a * n + b ∧ a * n + b < m * n := by
  have h1 : 0 ≤ a * n := Int.mul_nonneg a0 (by omega)
  have h2 : (a + 1) * n ≤ m * n := Int.mul_le_mul_of_nonneg_right (by omega) (by omega)
  rw [Int.add_mul, Int.one_mul] at h2
  omega
theorem mul_bd {a b A B : Int} (a0 : 0 ≤ a) (a1 : a ≤ A) (b0 : 0 ≤ b) (b1 : b ≤ B) : 0 ≤ a * b ∧ a * b ≤ A * B :=
  ⟨Int.mul_nonneg a0 b0, Int.mul_le_mul a1 b1 b0 (by omega)⟩

theorem slideE_ok {t : Shp} {k s p o : Int} (h : (slideE t k s p o).2 = 0) : 0 < elems t.h t.x t.c ∧ 1 ≤ k ∧ k ≤ 5 ∧ 1 ≤ s ∧ s ≤ 4 ∧ 0 ≤ p ∧ p ≤ 4 ∧ p < k ∧ t.h + 2 * p ≥ k ∧ t.x + 2 * p ≥ k ∧
    (slideE t k s p o).1 = ⟨(t.h + 2 * p - k) / s + 1, (t.x + 2 * p - k) / s + 1, o⟩ ∧ 0 < elems ((t.h + 2 * p - k) / s + 1) ((t.x + 2 * p - k) / s + 1) o := by
  have step : ∀ n, (stepsE n k s p).2 = 0 → (1 ≤ n ∧ 1 ≤ k ∧ k ≤ 5 ∧ 1 ≤ s ∧ s ≤ 4 ∧ 0 ≤ p ∧ p ≤ 4 ∧ p < k ∧ n + 2 * p ≥ k) ∧ (stepsE n k s p).1 = (n + 2 * p - k) / s + 1 := by
    intro n hn
    unfold stepsE at hn ⊢
    split at hn
    · simp at hn
    · split at hn
      · simp at hn
      · rename_i h1 h2
        rw [if_neg h1, if_neg h2]
        exact ⟨by omega, rfl⟩
  unfold slideE at h ⊢
  split at h
  · simp at h
  · split at h
    · rename_i h1 h2; exact absurd h h2
    · split at h
      · rename_i h1 h2 h3; exact absurd h h3
      · split at h
        · simp at h
        · rename_i h1 h2 h3 h4
          have a1 := step t.h (by omega)
          have a2 := step t.x (by omega)
          rw [if_neg h1, if_neg h2, if_neg h3, if_neg h4]
          rw [a1.2, a2.2] at h4 ⊢
          refine ⟨by omega, by omega, by omega, by omega, by omega, by omega, by omega, by omega, by omega, by omega, rfl, by omega⟩
theorem elems_ok {h x c : Int} (q : 0 < elems h x c) : 1 ≤ h ∧ h ≤ 16 ∧ 1 ≤ x ∧ x ≤ 16 ∧ 1 ≤ c ∧ c ≤ 1024 ∧ h * x * c ≤ 1024 ∧ elems h x c = h * x * c := by
  unfold elems at q ⊢
  split at q
  · rename_i g; rw [if_pos g]; obtain ⟨g1, g2, g3, g4, g5, g6, g7⟩ := g; exact ⟨g1, g2, g3, g4, g5, g6, g7, rfl⟩
  · omega
theorem wts_bd {t : Shp} {k s p o : Int} (h : (slideE t k s p o).2 = 0) : (0 ≤ o * k ∧ o * k ≤ 5120) ∧ (0 ≤ o * k * k ∧ o * k * k ≤ 25600) ∧ (0 ≤ o * k * k * t.c ∧ o * k * k * t.c ≤ 26214400) := by
  have h1 := slideE_ok h
  have h2 := elems_ok h1.1
  have h3 := elems_ok h1.2.2.2.2.2.2.2.2.2.2.2
  have a1 := mul_bd (A := 1024) (B := 5) (a := o) (b := k) (by omega) (by omega) (by omega) (by omega)
  have a2 := mul_bd (A := 5120) (B := 5) (a := o * k) (b := k) (by omega) (by omega) (by omega) (by omega)
  have a3 := mul_bd (A := 25600) (B := 1024) (a := o * k * k) (b := t.c) (by omega) (by omega) (by omega) (by omega)
  omega
/-- The shape of what a node makes, or why there is none. -/
def convE (t : Shp) (n : Nod) : Shp × Int :=
  if (slideE t n.nk n.ns n.np n.no).2 ≠ 0 then (⟨0, 0, 0⟩, (slideE t n.nk n.ns n.np n.no).2)
  else if (n.w.length : Int) ≠ n.no * n.nk * n.nk * t.c ∨ 16384 < (n.w.length : Int) ∨ (n.b.length : Int) ≠ n.no then (⟨0, 0, 0⟩, 9) else ((slideE t n.nk n.ns n.np n.no).1, 0)
set_option maxRecDepth 100000 in
set_option maxHeartbeats 2000000 in
theorem convShape_v (t : Shp) (n : Nod) (ok : t.Ok) (okn : n.Ok) : VC Try.prog 224 ([shp t, nod n]) (.tup [shp (convE t n).1, i64 (convE t n).2]) := by
  have q2 := okn.no
  have oz0 := @slide_v (t) (n.nk) (n.ns) (n.np) (n.no) ok q2
  rcases Bool.eq_false_or_eq_true ((slideE t n.nk n.ns n.np n.no).snd != 0) with hc0 | hc0
  · have gc0 : ¬(slideE t n.nk n.ns n.np n.no).snd = 0 := bdt hc0
    exact (VC.run (fn := Try.f224) (W := [.r [] [], .r [] [.callr (rO oz0)], .r [] [], .br true, .r [] []]) (r := AV.tup [AV.agg [i64 0, i64 0, i64 0], i64 (slideE t n.nk n.ns n.np n.no).snd]) Try.func224 (by kernel_rfl) (.c oz0 <| .c hc0 <| .n)).to (by (simp only [convE]; rw [if_pos (by omega)]))
  · have gc0 : (slideE t n.nk n.ns n.np n.no).snd = 0 := bdf hc0
    have oz2 := (show IntKind.i64.wrap (n.no * n.nk) = n.no * n.nk by with_reducible exact IntWalk.i64_in _ (by have := wts_bd (t := t) (k := n.nk) (s := n.ns) (p := n.np) (o := n.no) (by omega); omega))
    have oz3 := (show IntKind.i64.wrap (n.no * n.nk * n.nk) = n.no * n.nk * n.nk by with_reducible exact IntWalk.i64_in _ (by have := wts_bd (t := t) (k := n.nk) (s := n.ns) (p := n.np) (o := n.no) (by omega); omega))
    rcases Bool.eq_false_or_eq_true ((↑(List.map (row1 IntKind.i8) n.w).length : Int) != n.no * n.nk * n.nk * t.c || decide ((↑(List.map (row1 IntKind.i8) n.w).length : Int) > 16384) || (↑(List.map (row1 IntKind.i32) n.b).length : Int) != n.no) with hc1 | hc1
    · have gc1 : (¬(↑(List.map (row1 IntKind.i8) n.w).length : Int) = n.no * n.nk * n.nk * t.c ∨ (↑(List.map (row1 IntKind.i8) n.w).length : Int) > 16384) ∨ ¬(↑(List.map (row1 IntKind.i32) n.b).length : Int) = n.no := by first | (simp only [Bool.or_eq_true, Bool.or_eq_false_iff, Bool.and_eq_true, Bool.and_eq_false_iff, Bool.not_eq_true', Bool.not_eq_false', decide_eq_true_eq, decide_eq_false_iff_not, beq_iff_eq, bne_iff_ne, ne_eq, beq_eq_false_iff_ne, bne_eq_false_iff_eq, eqNums, Bool.and_true] at hc1; first | exact hc1 | omega) | simpa using hc1 | (simp at hc1 ⊢; omega) | (apply Classical.byContradiction; intro hn; simp_all [eqNums]; done) | (apply Classical.byContradiction; intro hn; simp [eqNums] at hc1 hn; omega)
      have oz4 := (show IntKind.i64.wrap (n.no * n.nk * n.nk * t.c) = n.no * n.nk * n.nk * t.c by with_reducible exact IntWalk.i64_in _ (by have := wts_bd (t := t) (k := n.nk) (s := n.ns) (p := n.np) (o := n.no) (by omega); omega))
      exact (VC.run (fn := Try.f224) (W := [.r [] [], .r [] [.callr (rO oz0)], .r [] [], .br false, .r [] [.n (nO oz2), .n (nO oz3), .n (nO oz4), .op false, .op false, .op false, .op false, .sel 1, .op false, .op false, .op false, .op false, .op false, .op false, .sel 1], .br true, .r [] []]) (r := AV.tup [AV.agg [i64 0, i64 0, i64 0], i64 9]) Try.func224 (by kernel_rfl) (.c oz0 <| .c hc0 <| .c oz2 <| .c oz3 <| .c oz4 <| .c hc1 <| .n)).to (by (simp only [convE, List.length_map] at *; rw [if_neg (by omega), if_pos (by omega)]))
    · have gc1 : ((↑(List.map (row1 IntKind.i8) n.w).length : Int) = n.no * n.nk * n.nk * t.c ∧ ¬(↑(List.map (row1 IntKind.i8) n.w).length : Int) > 16384) ∧ (↑(List.map (row1 IntKind.i32) n.b).length : Int) = n.no := by first | (simp only [Bool.or_eq_true, Bool.or_eq_false_iff, Bool.and_eq_true, Bool.and_eq_false_iff, Bool.not_eq_true', Bool.not_eq_false', decide_eq_true_eq, decide_eq_false_iff_not, beq_iff_eq, bne_iff_ne, ne_eq, beq_eq_false_iff_ne, bne_eq_false_iff_eq, eqNums, Bool.and_true] at hc1; first | exact hc1 | omega) | simpa using hc1 | (simp at hc1 ⊢; omega) | (apply Classical.byContradiction; intro hn; simp_all [eqNums]; done) | (apply Classical.byContradiction; intro hn; simp [eqNums] at hc1 hn; omega)
      exact (VC.run (fn := Try.f224) (W := [.r [] [], .r [] [.callr (rO oz0)], .r [] [], .br false, .r [] [.n (nO oz2), .n (nO oz3), .n (n.no * n.nk * n.nk * t.c), .op false, .op false, .op false, .op false, .sel 1, .op false, .op false, .op false, .op false, .op false, .op false, .sel 1], .br false, .r [] []]) (r := AV.tup [AV.agg [i64 (slideE t n.nk n.ns n.np n.no).fst.h, i64 (slideE t n.nk n.ns n.np n.no).fst.x, i64 (slideE t n.nk n.ns n.np n.no).fst.c], i64 0]) Try.func224 (by kernel_rfl) (.c oz0 <| .c hc0 <| .c oz2 <| .c oz3 <| .c (IntWalk.i64_in (n.no * n.nk * n.nk * t.c) (by omega)) <| .c hc1 <| .n)).to (by (simp only [convE, List.length_map] at *; rw [if_neg (by omega), if_neg (by omega)]))

set_option maxRecDepth 100000 in
set_option maxHeartbeats 2000000 in
theorem refConvShape_v (t : Shp) (n : Nod) (ok : t.Ok) (okn : n.Ok) : VC Try.prog 139 ([shp t, nod n]) (.tup [shp (convE t n).1, i64 (convE t n).2]) := by
  have q2 := okn.no
  have oz0 := @refSlide_v (t) (n.nk) (n.ns) (n.np) (n.no) ok q2
  rcases Bool.eq_false_or_eq_true ((slideE t n.nk n.ns n.np n.no).snd != 0) with hc0 | hc0
  · have gc0 : ¬(slideE t n.nk n.ns n.np n.no).snd = 0 := bdt hc0
    exact (VC.run (fn := Try.f139) (W := [.r [] [], .r [] [.callr (rO oz0)], .r [] [], .br true, .r [] []]) (r := AV.tup [AV.agg [i64 0, i64 0, i64 0], i64 (slideE t n.nk n.ns n.np n.no).snd]) Try.func139 (by kernel_rfl) (.c oz0 <| .c hc0 <| .n)).to (by (simp only [convE]; rw [if_pos (by omega)]))
  · have gc0 : (slideE t n.nk n.ns n.np n.no).snd = 0 := bdf hc0
    have oz2 := (show IntKind.i64.wrap (n.no * n.nk) = n.no * n.nk by with_reducible exact IntWalk.i64_in _ (by have := wts_bd (t := t) (k := n.nk) (s := n.ns) (p := n.np) (o := n.no) (by omega); omega))
    have oz3 := (show IntKind.i64.wrap (n.no * n.nk * n.nk) = n.no * n.nk * n.nk by with_reducible exact IntWalk.i64_in _ (by have := wts_bd (t := t) (k := n.nk) (s := n.ns) (p := n.np) (o := n.no) (by omega); omega))
    rcases Bool.eq_false_or_eq_true ((↑(List.map (row1 IntKind.i8) n.w).length : Int) != n.no * n.nk * n.nk * t.c || decide ((↑(List.map (row1 IntKind.i8) n.w).length : Int) > 16384) || (↑(List.map (row1 IntKind.i32) n.b).length : Int) != n.no) with hc1 | hc1
    · have gc1 : (¬(↑(List.map (row1 IntKind.i8) n.w).length : Int) = n.no * n.nk * n.nk * t.c ∨ (↑(List.map (row1 IntKind.i8) n.w).length : Int) > 16384) ∨ ¬(↑(List.map (row1 IntKind.i32) n.b).length : Int) = n.no := by first | (simp only [Bool.or_eq_true, Bool.or_eq_false_iff, Bool.and_eq_true, Bool.and_eq_false_iff, Bool.not_eq_true', Bool.not_eq_false', decide_eq_true_eq, decide_eq_false_iff_not, beq_iff_eq, bne_iff_ne, ne_eq, beq_eq_false_iff_ne, bne_eq_false_iff_eq, eqNums, Bool.and_true] at hc1; first | exact hc1 | omega) | simpa using hc1 | (simp at hc1 ⊢; omega) | (apply Classical.byContradiction; intro hn; simp_all [eqNums]; done) | (apply Classical.byContradiction; intro hn; simp [eqNums] at hc1 hn; omega)
      have oz4 := (show IntKind.i64.wrap (n.no * n.nk * n.nk * t.c) = n.no * n.nk * n.nk * t.c by with_reducible exact IntWalk.i64_in _ (by have := wts_bd (t := t) (k := n.nk) (s := n.ns) (p := n.np) (o := n.no) (by omega); omega))
      exact (VC.run (fn := Try.f139) (W := [.r [] [], .r [] [.callr (rO oz0)], .r [] [], .br false, .r [] [.n (nO oz2), .n (nO oz3), .n (nO oz4), .op false, .op false, .op false, .op false, .sel 1, .op false, .op false, .op false, .op false, .op false, .op false, .sel 1], .br true, .r [] []]) (r := AV.tup [AV.agg [i64 0, i64 0, i64 0], i64 9]) Try.func139 (by kernel_rfl) (.c oz0 <| .c hc0 <| .c oz2 <| .c oz3 <| .c oz4 <| .c hc1 <| .n)).to (by (simp only [convE, List.length_map] at *; rw [if_neg (by omega), if_pos (by omega)]))
    · have gc1 : ((↑(List.map (row1 IntKind.i8) n.w).length : Int) = n.no * n.nk * n.nk * t.c ∧ ¬(↑(List.map (row1 IntKind.i8) n.w).length : Int) > 16384) ∧ (↑(List.map (row1 IntKind.i32) n.b).length : Int) = n.no := by first | (simp only [Bool.or_eq_true, Bool.or_eq_false_iff, Bool.and_eq_true, Bool.and_eq_false_iff, Bool.not_eq_true', Bool.not_eq_false', decide_eq_true_eq, decide_eq_false_iff_not, beq_iff_eq, bne_iff_ne, ne_eq, beq_eq_false_iff_ne, bne_eq_false_iff_eq, eqNums, Bool.and_true] at hc1; first | exact hc1 | omega) | simpa using hc1 | (simp at hc1 ⊢; omega) | (apply Classical.byContradiction; intro hn; simp_all [eqNums]; done) | (apply Classical.byContradiction; intro hn; simp [eqNums] at hc1 hn; omega)
      exact (VC.run (fn := Try.f139) (W := [.r [] [], .r [] [.callr (rO oz0)], .r [] [], .br false, .r [] [.n (nO oz2), .n (nO oz3), .n (n.no * n.nk * n.nk * t.c), .op false, .op false, .op false, .op false, .sel 1, .op false, .op false, .op false, .op false, .op false, .op false, .sel 1], .br false, .r [] []]) (r := AV.tup [AV.agg [i64 (slideE t n.nk n.ns n.np n.no).fst.h, i64 (slideE t n.nk n.ns n.np n.no).fst.x, i64 (slideE t n.nk n.ns n.np n.no).fst.c], i64 0]) Try.func139 (by kernel_rfl) (.c oz0 <| .c hc0 <| .c oz2 <| .c oz3 <| .c (IntWalk.i64_in (n.no * n.nk * n.nk * t.c) (by omega)) <| .c hc1 <| .n)).to (by (simp only [convE, List.length_map] at *; rw [if_neg (by omega), if_neg (by omega)]))
end Go.Proofs.Ytgecmooedhnenaa

/- What a window makes, by the program. No condition. -/
namespace Go.Proofs.Ytgecmooedhnenaa
open Go.RowKit
set_option linter.unusedSimpArgs false
set_option linter.unusedVariables false
set_option linter.unnecessarySimpa false

/-- The number at a place. -/
abbrev gt (l : List Int) (i : Int) : Int := l.getD i.toNat 0
theorem gt_of {P : Int → Prop} {l : List Int} (h : ∀ v ∈ l, P v) (h0 : P 0) (i : Nat) : P (l.getD i 0) := by
  rw [List.getD_eq_getElem?_getD]
  by_cases hi : i < l.length
  · rw [List.getElem?_eq_getElem hi]; exact h _ (List.getElem_mem hi)
  · rw [List.getElem?_eq_none (by omega)]; exact h0
theorem gt8 {l : List Int} (h : ∀ v ∈ l, In8 v) (i : Nat) : -128 ≤ l.getD i 0 ∧ l.getD i 0 ≤ 127 := gt_of h ⟨by decide, by decide⟩ i
theorem gt32 {l : List Int} (h : ∀ v ∈ l, In32 v) (i : Nat) : -2147483648 ≤ l.getD i 0 ∧ l.getD i 0 ≤ 2147483647 := gt_of h ⟨by decide, by decide⟩ i
theorem prod_bd {a b : Int} (h : -128 ≤ a ∧ a ≤ 127) (h' : -255 ≤ b ∧ b ≤ 255) : -32640 ≤ a * b ∧ a * b ≤ 32640 := by
  have h1 : (a + 128) * (255 - b) ≥ 0 := Int.mul_nonneg (by omega) (by omega)
  have h2 : (128 - a) * (255 + b) ≥ 0 := Int.mul_nonneg (by omega) (by omega)
  have h3 : (a + 128) * (255 + b) ≥ 0 := Int.mul_nonneg (by omega) (by omega)
  have h4 : (128 - a) * (255 - b) ≥ 0 := Int.mul_nonneg (by omega) (by omega)
  simp only [Int.add_mul, Int.sub_mul, Int.mul_add, Int.mul_sub] at h1 h2 h3 h4
  omega
/-- One product. -/
def cterm (T : Ten) (n : Nod) (a f : Int) (c : Nat) : Int := gt n.w (a + c) * (gt T.d (f + c) - n.za)
theorem cterm_bd {T : Ten} {n : Nod} (ok : T.Ok) (okn : n.Ok) (a f : Int) (c : Nat) : -32640 ≤ cterm T n a f c ∧ cterm T n a f c ≤ 32640 := by
  have h1 := gt8 okn.w (a + c).toNat
  have h2 := gt8 ok.d (f + c).toNat
  have h3 : -128 ≤ n.za ∧ n.za ≤ 127 := okn.za
  exact prod_bd h1 (b := T.d.getD (f + c).toNat 0 - n.za) (by omega)
/-- Sums of 32 bits. -/
def acc32 (v : Int) (f : Nat → Int) : Nat → Int
  | 0 => v
  | k + 1 => IntKind.i32.wrap (acc32 v f k + f k)
/-- What a row of a window makes. -/
def rowAcc (T : Ten) (n : Nod) (a h w : Int) : Nat → Int
  | 0 => 0
  | j + 1 => if 0 ≤ w + (j : Int) ∧ w + (j : Int) < T.x then acc32 (rowAcc T n a h w j) (cterm T n (a + (j : Int) * T.c) ((h * T.x + (w + (j : Int))) * T.c)) T.c.toNat else rowAcc T n a h w j
end Go.Proofs.Ytgecmooedhnenaa

/- The sums of a window, by the program. No condition. -/
namespace Go.Proofs.Ytgecmooedhnenaa
open Go.RowKit
set_option linter.unusedSimpArgs false
set_option linter.unusedVariables false
set_option linter.unnecessarySimpa false

/-- A tensor and a node that make sums. -/
structure CvOk (T : Ten) (n : Nod) : Prop where
  ok : T.Ok
  okn : n.Ok
  r : tenRight T = true
  e : (convE ⟨T.h, T.x, T.c⟩ n).2 = 0
theorem convE_ok {t : Shp} {n : Nod} (h : (convE t n).2 = 0) : (slideE t n.nk n.ns n.np n.no).2 = 0 ∧ (n.w.length : Int) = n.no * n.nk * n.nk * t.c ∧ n.w.length ≤ 16384 ∧ (n.b.length : Int) = n.no ∧ (convE t n).1 = (slideE t n.nk n.ns n.np n.no).1 := by
  unfold convE at h ⊢
  split at h
  · rename_i h1; exact absurd h h1
  · split at h
    · simp at h
    · rename_i h1 h2
      rw [if_neg h1, if_neg h2]
      exact ⟨by omega, by omega, by omega, by omega, rfl⟩
structure CvN (T : Ten) (n : Nod) : Prop where
  h1 : 1 ≤ T.h
  h16 : T.h ≤ 16
  x1 : 1 ≤ T.x
  x16 : T.x ≤ 16
  c1 : 1 ≤ T.c
  k1 : 1 ≤ n.nk
  k5 : n.nk ≤ 5
  s1 : 1 ≤ n.ns
  s4 : n.ns ≤ 4
  p0 : 0 ≤ n.np
  p4 : n.np ≤ 4
  o1 : 1 ≤ n.no
  o2 : n.no ≤ 1024
  wl : (n.w.length : Int) = n.no * n.nk * n.nk * T.c
  w2 : n.w.length ≤ 16384
  bl : (n.b.length : Int) = n.no
  dl : (T.d.length : Int) = T.h * T.x * T.c
  d2 : T.d.length ≤ 1024
  sh : (convE ⟨T.h, T.x, T.c⟩ n).1.h = (T.h + 2 * n.np - n.nk) / n.ns + 1
  sx : (convE ⟨T.h, T.x, T.c⟩ n).1.x = (T.x + 2 * n.np - n.nk) / n.ns + 1
  sc : (convE ⟨T.h, T.x, T.c⟩ n).1.c = n.no
  he : 1 ≤ (convE ⟨T.h, T.x, T.c⟩ n).1.h ∧ (convE ⟨T.h, T.x, T.c⟩ n).1.h ≤ 16
  xe : 1 ≤ (convE ⟨T.h, T.x, T.c⟩ n).1.x ∧ (convE ⟨T.h, T.x, T.c⟩ n).1.x ≤ 16
  el : (convE ⟨T.h, T.x, T.c⟩ n).1.h * (convE ⟨T.h, T.x, T.c⟩ n).1.x * n.no ≤ 1024
  en : elems (convE ⟨T.h, T.x, T.c⟩ n).1.h (convE ⟨T.h, T.x, T.c⟩ n).1.x (convE ⟨T.h, T.x, T.c⟩ n).1.c = (convE ⟨T.h, T.x, T.c⟩ n).1.h * (convE ⟨T.h, T.x, T.c⟩ n).1.x * n.no
theorem CvOk.n {T : Ten} {n : Nod} (h : CvOk T n) : CvN T n := by
  obtain ⟨ok, okn, r, e⟩ := h
  obtain ⟨e1, e2, e3, e4, e5⟩ := convE_ok e
  obtain ⟨a1, a2, a3, a4, a5, a6, a7, a8, a9, a10, a11, a12⟩ := slideE_ok e1
  have c := elems_ok a12
  unfold tenRight at r
  rw [Bool.and_eq_true, decide_eq_true_eq, decide_eq_true_eq] at r
  have b' := elems_ok r.1
  have e5' : (convE ⟨T.h, T.x, T.c⟩ n).1 = ⟨(T.h + 2 * n.np - n.nk) / n.ns + 1, (T.x + 2 * n.np - n.nk) / n.ns + 1, n.no⟩ := e5.trans a11
  have e2' : (n.w.length : Int) = n.no * n.nk * n.nk * T.c := e2
  clear e5 a11 e2 a9 a10
  have c' : 1 ≤ (T.h + 2 * n.np - n.nk) / n.ns + 1 ∧ (T.h + 2 * n.np - n.nk) / n.ns + 1 ≤ 16 ∧ 1 ≤ (T.x + 2 * n.np - n.nk) / n.ns + 1 ∧ (T.x + 2 * n.np - n.nk) / n.ns + 1 ≤ 16 ∧ 1 ≤ n.no ∧ n.no ≤ 1024 ∧ ((T.h + 2 * n.np - n.nk) / n.ns + 1) * ((T.x + 2 * n.np - n.nk) / n.ns + 1) * n.no ≤ 1024 ∧
    elems ((T.h + 2 * n.np - n.nk) / n.ns + 1) ((T.x + 2 * n.np - n.nk) / n.ns + 1) n.no = ((T.h + 2 * n.np - n.nk) / n.ns + 1) * ((T.x + 2 * n.np - n.nk) / n.ns + 1) * n.no := c
  clear c
  refine ⟨by omega, by omega, by omega, by omega, by omega, by omega, by omega, by omega, by omega, by omega, by omega, by omega, by omega, e2', e3, e4, by omega, by omega, by rw [e5'], by rw [e5'], by rw [e5'], ?_, ?_, ?_, ?_⟩ <;> rw [e5'] <;> simp only <;> omega
/-- The weights of a window's row. -/
theorem wat {T : Ten} {n : Nod} (h : CvN T n) {o i : Int} (o0 : 0 ≤ o) (o1 : o < n.no) (i0 : 0 ≤ i) (i1 : i < n.nk) :
    (0 ≤ o * n.nk ∧ o * n.nk ≤ 16384) ∧ (0 ≤ (o * n.nk + i) * n.nk ∧ (o * n.nk + i) * n.nk ≤ 16384) ∧ 0 ≤ (o * n.nk + i) * n.nk * T.c ∧ (o * n.nk + i) * n.nk * T.c + n.nk * T.c ≤ n.w.length := by
  obtain ⟨h1, h16, x1, x16, c1, k1, k5, s1, s4, p0, p4, n1, n2, wl, w2, bl, dl, d2, sh, sx, sc, he, xe, el, en⟩ := h
  have a := idx_bd (a := o) (m := n.no) (b := i) (n := n.nk) o0 o1 i0 i1
  have a0 : 0 ≤ o * n.nk := Int.mul_nonneg o0 (by omega)
  have b := idx_bd (a := o * n.nk + i) (m := n.no * n.nk) (b := n.nk - 1) (n := n.nk) (by omega) (by omega) (by omega) (by omega)
  have b0 : 0 ≤ (o * n.nk + i) * n.nk := Int.mul_nonneg (by omega) (by omega)
  have c : ((o * n.nk + i) * n.nk + n.nk) * T.c ≤ n.no * n.nk * n.nk * T.c := Int.mul_le_mul_of_nonneg_right (by omega) (by omega)
  have c0 : 0 ≤ (o * n.nk + i) * n.nk * T.c := Int.mul_nonneg b0 (by omega)
  have d := mul_bd (a := n.no) (A := 1024) (b := n.nk) (B := 5) (by omega) (by omega) (by omega) (by omega)
  have e : n.no * n.nk * n.nk * 1 ≤ n.no * n.nk * n.nk * T.c := Int.mul_le_mul_of_nonneg_left (by omega) (Int.mul_nonneg (by omega) (by omega))
  have g : n.no * n.nk * 1 ≤ n.no * n.nk * n.nk := Int.mul_le_mul_of_nonneg_left (by omega) (by omega)
  rw [Int.add_mul] at c
  omega
theorem dat {T : Ten} {n : Nod} (h : CvN T n) {y : Int} (y0 : 0 ≤ y) (y1 : y < T.h) : 0 ≤ y * T.x ∧ (y * T.x + T.x) * T.c ≤ T.d.length := by
  obtain ⟨h1, h16, x1, x16, c1, k1, k5, s1, s4, p0, p4, n1, n2, wl, w2, bl, dl, d2, sh, sx, sc, he, xe, el, en⟩ := h
  have a := idx_bd (a := y) (m := T.h) (b := T.x - 1) (n := T.x) y0 y1 (by omega) (by omega)
  have a0 : 0 ≤ y * T.x := Int.mul_nonneg y0 (by omega)
  have c : (y * T.x + T.x) * T.c ≤ T.h * T.x * T.c := Int.mul_le_mul_of_nonneg_right (by omega) (by omega)
  omega
/-- What a window makes. -/
def sumAcc (T : Ten) (n : Nod) (h w o : Int) : Nat → Int
  | 0 => gt n.b o
  | i + 1 => if 0 ≤ h * n.ns + (i : Int) - n.np ∧ h * n.ns + (i : Int) - n.np < T.h then IntKind.i32.wrap (sumAcc T n h w o i + rowAcc T n ((o * n.nk + (i : Int)) * n.nk * T.c) (h * n.ns + (i : Int) - n.np) (w * n.ns - n.np) n.nk.toNat) else sumAcc T n h w o i

end Go.Proofs.Ytgecmooedhnenaa

/- All sums of a window, by the program and by the document. No condition. -/
namespace Go.Proofs.Ytgecmooedhnenaa
open Go.RowKit
set_option linter.unusedSimpArgs false
set_option linter.unusedVariables false
set_option linter.unnecessarySimpa false

abbrev cvS (T : Ten) (n : Nod) (h w o : Int) : Int := sumAcc T n h w o n.nk.toNat
def outL (T : Ten) (n : Nod) : Nat → List Int
  | 0 => []
  | i + 1 => outL T n i ++ (List.range n.no.toNat).map fun (o : Nat) => cvS T n ((i : Int) / (convE ⟨T.h, T.x, T.c⟩ n).1.x) ((i : Int) % (convE ⟨T.h, T.x, T.c⟩ n).1.x) (o : Int)
theorem outL_len (T : Ten) (n : Nod) : ∀ i, (outL T n i).length = i * n.no.toNat
  | 0 => by simp [outL]
  | i + 1 => by rw [outL, List.length_append, outL_len T n i, Nat.add_mul]; simp
/-- What comes of it, or why nothing. -/
def convOf (T : Ten) (n : Nod) : Ten × Int := if tenRight T = false then (⟨0, 0, 0, []⟩, 5) else if (convE ⟨T.h, T.x, T.c⟩ n).2 ≠ 0 then (⟨0, 0, 0, []⟩, (convE ⟨T.h, T.x, T.c⟩ n).2) else (⟨(convE ⟨T.h, T.x, T.c⟩ n).1.h, (convE ⟨T.h, T.x, T.c⟩ n).1.x, (convE ⟨T.h, T.x, T.c⟩ n).1.c, outL T n ((convE ⟨T.h, T.x, T.c⟩ n).1.h * (convE ⟨T.h, T.x, T.c⟩ n).1.x).toNat⟩, 0)
end Go.Proofs.Ytgecmooedhnenaa

/- The sums of a window, by the document. No condition. -/
namespace Go.Proofs.Ytgecmooedhnenaa
open Go.RowKit
set_option linter.unusedSimpArgs false
set_option linter.unusedVariables false
set_option linter.unnecessarySimpa false

theorem ifn_lt {p : Prop} [Decidable p] {a k : Nat} (h : k < if p then a else 0) : p ∧ k < a := by
  by_cases hp : p
  · rw [if_pos hp] at h; exact ⟨hp, h⟩
  · rw [if_neg hp] at h; omega
/-- Sums that begin with v. -/
def accN (v : Int) (f : Nat → Int) : Nat → Int
  | 0 => v
  | k + 1 => accN v f k + f k
theorem accN_eq (v : Int) (f : Nat → Int) : ∀ k, accN v f k = v + sumN f k
  | 0 => by simp [accN, sumN]
  | k + 1 => by rw [accN, sumN, accN_eq v f k]; omega
set_option maxRecDepth 100000 in
set_option maxHeartbeats 2000000 in
theorem get_v (T : Ten) (h w c : Int) (h0 : 0 ≤ h * T.x) (h1 : h * T.x ≤ 1024) (w0 : 0 ≤ w) (w1 : w ≤ 1024) (g0 : 0 ≤ (h * T.x + w) * T.c) (c0 : 0 ≤ c) (g1 : (h * T.x + w) * T.c + c < T.d.length) (dl : T.d.length ≤ 1024) : VC Try.prog 143 ([ten .i8 T, i64 h, i64 w, i64 c]) (i8 (T.d.getD ((h * T.x + w) * T.c + c).toNat 0)) := by
  have oz5 := (map_at (row1 IntKind.i8) (0) (l := T.d) (i := ((h * T.x + w) * T.c + c).toNat) (by omega))
  exact VC.run (fn := Try.f143) (W := [.r [] [], .r [] [.n (h * T.x), .n (h * T.x + w), .n ((h * T.x + w) * T.c), .n ((h * T.x + w) * T.c + c), .row (sO oz5)]]) Try.func143 (by kernel_rfl) (.c (IntWalk.i64_in (h * T.x) (by omega)) <| .c (IntWalk.i64_in (h * T.x + w) (by omega)) <| .c (IntWalk.i64_in ((h * T.x + w) * T.c) (by omega)) <| .c (IntWalk.i64_in ((h * T.x + w) * T.c + c) (by omega)) <| .c (show 0 ≤ (h * T.x + w) * T.c + c by omega) <| .c oz5 <| .n)
/-- Whether a place lies within. -/
abbrev inT (T : Ten) (y x : Int) : Prop := 0 ≤ y ∧ y < T.h ∧ 0 ≤ x ∧ x < T.x
noncomputable def rcSum_c_I (T : Ten) (n : Nod) (h w o i j y x v : Int) (k : Nat) : VS := stt 118 [(2, i64 h), (3, i64 w), (4, i64 o), (5, .ptr 5 0 0), (6, .ptr 6 0 0), (11, i64 (accN v (cterm T n (((o * n.nk + i) * n.nk + j) * T.c) ((y * T.x + x) * T.c)) k)), (12, i64 i), (13, i64 j), (14, i64 y), (15, i64 x), (16, i64 k)] [(5, .var [i64 T.h, i64 T.x, i64 T.c, ints .i8 T.d]), (6, .var (nodC n))]
noncomputable def rcSum_c_Z (T : Ten) (n : Nod) (h w o i j y x v : Int) : VS := rcSum_c_I T n h w o i j y x v (if inT T y x then T.c.toNat else 0)
set_option maxRecDepth 100000 in
set_option maxHeartbeats 2000000 in
theorem rcSum_c_s (T : Ten) (n : Nod) (h w o i j y x v : Int) (ok : CvOk T n) (o0 : 0 ≤ o) (o1 : o < n.no) (i0 : 0 ≤ i) (i1 : i < n.nk) (j0 : 0 ≤ j) (j1 : j < n.nk) (v0 : -1000000000000 ≤ v) (v1 : v ≤ 1000000000000) (k : Nat) (hk : k < if inT T y x then T.c.toNat else 0) : VT Try.prog (fnC Try.f77 [1, 1, 0, 1, 0, 0, 1, 0, 0, 1, 0, 0, 1, 0, 0, 1, 1, 0, 0]) (rcSum_c_I T n h w o i j y x v k) .normal (rcSum_c_I T n h w o i j y x v (k + 1)) := by
  have nn := ok.n
  obtain ⟨⟨y0, y1, x0, x1⟩, hk'⟩ := ifn_lt hk
  have g1 := wat nn o0 o1 i0 i1
  have g2 := dat nn y0 y1
  have c1 := nn.c1
  have k5 := nn.k5
  have g3 := nn.w2
  have g4 := nn.d2
  have g5 : ((o * n.nk + i) * n.nk + j) * T.c + T.c ≤ (o * n.nk + i) * n.nk * T.c + n.nk * T.c := by
    rw [← Int.add_mul]
    have := Int.mul_le_mul_of_nonneg_right (show (o * n.nk + i) * n.nk + j + 1 ≤ (o * n.nk + i) * n.nk + n.nk by omega) (show 0 ≤ T.c by omega)
    rw [Int.add_mul _ 1, Int.one_mul] at this; exact this
  have g6 : 0 ≤ ((o * n.nk + i) * n.nk + j) * T.c := Int.mul_nonneg (by omega) (by omega)
  have g7 := idx_bd (a := y * T.x + x) (m := y * T.x + T.x) (b := T.c - 1) (n := T.c) (by omega) (by omega) (by omega) (by omega)
  have g8 : 0 ≤ (y * T.x + x) * T.c := Int.mul_nonneg (by omega) (by omega)
  have g11 : (y * T.x + T.x) * 1 ≤ (y * T.x + T.x) * T.c := Int.mul_le_mul_of_nonneg_left (by omega) (by omega)
  have h1 := gt8 ok.okn.w (((o * n.nk + i) * n.nk + j) * T.c + (k : Int)).toNat
  have h2 := gt8 ok.ok.d ((y * T.x + x) * T.c + (k : Int)).toNat
  have h3 : -128 ≤ n.za ∧ n.za ≤ 127 := ok.okn.za
  have h4 := prod_bd h1 (b := T.d.getD ((y * T.x + x) * T.c + (k : Int)).toNat 0 - n.za) (by omega)
  have g9 := sumN_bd (B := 32640) (f := cterm T n (((o * n.nk + i) * n.nk + j) * T.c) ((y * T.x + x) * T.c)) k fun c _ => cterm_bd ok.ok ok.okn _ _ c
  have g10 : (T.c : Int) ≤ 1024 := by omega
  have g12 := accN_eq v (cterm T n (((o * n.nk + i) * n.nk + j) * T.c) ((y * T.x + x) * T.c)) k
  have oz0 := (decide_eq_true (p := ((↑k : Int) < T.c)) (by omega))
  have oz3 := (decide_eq_true (p := (y ≥ 0)) (by omega))
  have oz9 := (decide_eq_true (p := (y < T.h)) (by omega))
  have oz12 := (decide_eq_true (p := (x ≥ 0)) (by omega))
  have oz23 := (IntWalk.i64_in (((o * n.nk + i) * n.nk + j) * T.c) (by omega))
  have oz24 := (IntWalk.i64_in (((o * n.nk + i) * n.nk + j) * T.c + (↑k : Int)) (by omega))
  have oz26 := (map_at (row1 IntKind.i8) (0) (l := n.w) (i := (((o * n.nk + i) * n.nk + j) * T.c + (↑k : Int)).toNat) (by omega))
  have oz27 := (IntWalk.i64_in (n.w.getD (((o * n.nk + i) * n.nk + j) * T.c + (↑k : Int)).toNat 0) (by omega))
  have oz28 := @get_v (T) (y) (x) ((↑k : Int)) (by omega) (by omega) x0 (by omega) g8 (by omega) (by omega) g4
  have oz29 := (IntWalk.i64_in (T.d.getD ((y * T.x + x) * T.c + (↑k : Int)).toNat 0) (by omega))
  have oz31 := (IntWalk.i64_in (T.d.getD ((y * T.x + x) * T.c + (↑k : Int)).toNat 0 - n.za) (by omega))
  have oz32 := (IntWalk.i64_in (n.w.getD (((o * n.nk + i) * n.nk + j) * T.c + (↑k : Int)).toNat 0 * (T.d.getD ((y * T.x + x) * T.c + (↑k : Int)).toNat 0 - n.za)) (by omega))
  have oz33 := (IntWalk.i64_in (accN v (cterm T n (((o * n.nk + i) * n.nk + j) * T.c) ((y * T.x + x) * T.c)) k + n.w.getD (((o * n.nk + i) * n.nk + j) * T.c + (↑k : Int)).toNat 0 * (T.d.getD ((y * T.x + x) * T.c + (↑k : Int)).toNat 0 - n.za)) (by omega))
  have oz35 := (Weak.int (k := .i64) (show ((accN v (cterm T n (((o * n.nk + i) * n.nk + j) * T.c) ((y * T.x + x) * T.c)) k + n.w.getD (((o * n.nk + i) * n.nk + j) * T.c + (↑k : Int)).toNat 0 * (T.d.getD ((y * T.x + x) * T.c + (↑k : Int)).toNat 0 - n.za)) : Int) = (accN v (cterm T n (((o * n.nk + i) * n.nk + j) * T.c) ((y * T.x + x) * T.c)) (k + 1)) from (by rfl)))
  exact VT.run (W := [.r [] [.br true, .br true, .br true, .br true, .br true, .br true, .br true, .br true, .br true, .br true, .br true, .br true, .br true, .br true, .br true, .br true, .br true, .br true], .br true, .r [] [.n (o * n.nk), .n (o * n.nk + i), .n ((o * n.nk + i) * n.nk), .n ((o * n.nk + i) * n.nk + j), .n (nO oz23), .n (nO oz24), .row (sO oz26), .n (nO oz27), .callr (rO oz28), .n (nO oz29), .n n.za, .n (nO oz31), .n (nO oz32), .n (nO oz33)], .r [] [.n ((↑k : Int) + 1)]]) (G := [.any (rg [(53, 64)]), .weak 11 (wO oz35), .weak 16 (i64 (↑(k + 1) : Int)), .sort]) (by kernel_rfl) (.c oz0 <| .c oz0 <| .c oz0 <| .c oz3 <| .c oz3 <| .c oz3 <| .c oz3 <| .c oz3 <| .c oz3 <| .c oz9 <| .c oz9 <| .c oz9 <| .c oz12 <| .c oz12 <| .c oz12 <| .c oz12 <| .c oz12 <| .c oz12 <| .c (decide_eq_true (p := (x < T.x)) (by omega)) <| .c (IntWalk.i64_in (o * n.nk) (by omega)) <| .c (IntWalk.i64_in (o * n.nk + i) (by omega)) <| .c (IntWalk.i64_in ((o * n.nk + i) * n.nk) (by omega)) <| .c (IntWalk.i64_in ((o * n.nk + i) * n.nk + j) (by omega)) <| .c oz23 <| .c oz24 <| .c (show 0 ≤ ((o * n.nk + i) * n.nk + j) * T.c + (↑k : Int) by omega) <| .c oz26 <| .c oz27 <| .c oz28 <| .c oz29 <| .c (IntWalk.i64_in n.za (by omega)) <| .c oz31 <| .c oz32 <| .c oz33 <| .c (IntWalk.i64_in ((↑k : Int) + 1) (by omega)) <| .c oz35 <| .c (Weak.int (k := .i64) (show (((↑k : Int) + 1) : Int) = ((↑(k + 1) : Int)) from (by omega))) <| .n)
set_option maxRecDepth 100000 in
set_option maxHeartbeats 2000000 in
theorem rcSum_c_e (T : Ten) (n : Nod) (h w o i j y x v : Int) (ok : CvOk T n) (o0 : 0 ≤ o) (o1 : o < n.no) (i0 : 0 ≤ i) (i1 : i < n.nk) (j0 : 0 ≤ j) (j1 : j < n.nk) (v0 : -1000000000000 ≤ v) (v1 : v ≤ 1000000000000) : VT Try.prog (fnC Try.f77 [1, 1, 0, 1, 0, 0, 1, 0, 0, 1, 0, 0, 1, 0, 0, 1, 1, 0, 0]) (rcSum_c_I T n h w o i j y x v (if inT T y x then T.c.toNat else 0)) (.exit 4) (rcSum_c_Z T n h w o i j y x v) := by
  have hin : (0 ≤ y ∧ y < T.h ∧ 0 ≤ x ∧ x < T.x) → (if inT T y x then T.c.toNat else 0) = T.c.toNat := fun h => if_pos h
  exact VT.run (W := [.r [] [.op false, .op false, .sel 2, .op false, .op false, .op false, .op false, .op false, .sel 2, .op false, .op false, .sel 2, .op false, .op false, .op false, .op false, .op false, .sel 2], .br false]) (G := [.any (rg [(53, 27)]), .sort]) (by kernel_rfl) (.c (show (decide ((↑(if inT T y x then T.c.toNat else 0) : Int) < T.c) && decide (y ≥ 0) && decide (y < T.h) && decide (x ≥ 0) && decide (x < T.x)) = false by (simp; omega)) <| .n)
theorem rcSum_c (T : Ten) (n : Nod) (h w o i j y x v : Int) (ok : CvOk T n) (o0 : 0 ≤ o) (o1 : o < n.no) (i0 : 0 ≤ i) (i1 : i < n.nk) (j0 : 0 ≤ j) (j1 : j < n.nk) (v0 : -1000000000000 ≤ v) (v1 : v ≤ 1000000000000) : VT Try.prog (fnC Try.f77 [1, 1, 0, 1, 0, 0, 1, 0, 0, 1, 0, 0, 1, 0, 0, 1, 1, 0]) (rcSum_c_I T n h w o i j y x v 0) (.exit 4) (rcSum_c_Z T n h w o i j y x v) :=
  VT.loop (fun k => rcSum_c_I T n h w o i j y x v k) (if inT T y x then T.c.toNat else 0) (fun k hk => rcSum_c_s T n h w o i j y x v ok o0 o1 i0 i1 j0 j1 v0 v1 k hk) (rcSum_c_e T n h w o i j y x v ok o0 o1 i0 i1 j0 j1 v0 v1) (by intro h; cases h)
/-- A column of a window, over whole numbers. -/
def colE (T : Ten) (n : Nod) (o i y x : Int) (j : Nat) : Int := sumN (cterm T n (((o * n.nk + i) * n.nk + (j : Int)) * T.c) ((y * T.x + (x + (j : Int))) * T.c)) (if inT T y (x + (j : Int)) then T.c.toNat else 0)
theorem colE_bd {T : Ten} {n : Nod} (ok : CvOk T n) (o i y x : Int) (j : Nat) : -33423360 ≤ colE T n o i y x j ∧ colE T n o i y x j ≤ 33423360 := by
  have nn := ok.n
  have g9 := sumN_bd (B := 32640) (f := cterm T n (((o * n.nk + i) * n.nk + (j : Int)) * T.c) ((y * T.x + (x + (j : Int))) * T.c)) (if inT T y (x + (j : Int)) then T.c.toNat else 0) fun c _ => cterm_bd ok.ok ok.okn _ _ c
  have g10 := nn.c1
  have g11 := nn.dl
  have g12 := nn.d2
  have a := mul_bd (a := 1) (A := T.h * T.x) (b := T.c) (B := T.c) (by omega) (by have := nn.h1; have := nn.x1; exact Int.mul_le_mul (a := 1) (b := 1) (by omega) (by omega) (by omega) (by omega)) (by omega) (by omega)
  unfold colE
  split at g9
  · rename_i h; rw [if_pos h]; omega
  · rename_i h; rw [if_neg h]; omega
noncomputable def rcSum_j_I (T : Ten) (n : Nod) (h w o i v : Int) (k : Nat) : VS := stt 118 [(2, i64 h), (3, i64 w), (4, i64 o), (5, .ptr 5 0 0), (6, .ptr 6 0 0), (11, i64 (accN v (colE T n o i (h * n.ns + i - n.np) (w * n.ns - n.np)) k)), (12, i64 i), (13, i64 k)] [(5, .var [i64 T.h, i64 T.x, i64 T.c, ints .i8 T.d]), (6, .var (nodC n))]
noncomputable def rcSum_j_Z (T : Ten) (n : Nod) (h w o i v : Int) : VS := rcSum_j_I T n h w o i v (n.nk.toNat)
set_option maxRecDepth 100000 in
set_option maxHeartbeats 2000000 in
theorem rcSum_j_s (T : Ten) (n : Nod) (h w o i v : Int) (ok : CvOk T n) (o0 : 0 ≤ o) (o1 : o < n.no) (h0 : 0 ≤ h) (h1 : h ≤ 1000) (w0 : 0 ≤ w) (w1 : w ≤ 1000) (i0 : 0 ≤ i) (i1 : i < n.nk) (v0 : -100000000000 ≤ v) (v1 : v ≤ 100000000000) (k : Nat) (hk : k < n.nk.toNat) : VT Try.prog (fnC Try.f77 [1, 1, 0, 1, 0, 0, 1, 0, 0, 1, 0, 0]) (rcSum_j_I T n h w o i v k) .normal (rcSum_j_I T n h w o i v (k + 1)) := by
  have nn := ok.n
  have g1 := nn.k1
  have g2 := nn.k5
  have g8 := nn.s1
  have g9 := nn.s4
  have g10 := nn.p0
  have g11 := nn.p4
  have g13 := mul_bd (A := 1000) (B := 4) h0 h1 (show 0 ≤ n.ns by omega) g9
  have g14 := mul_bd (A := 1000) (B := 4) w0 w1 (show 0 ≤ n.ns by omega) g9
  have g15 := sumN_bd (B := 33423360) (f := colE T n o i (h * n.ns + i - n.np) (w * n.ns - n.np)) k fun j _ => colE_bd ok _ _ _ _ j
  have g17 := accN_eq v (colE T n o i (h * n.ns + i - n.np) (w * n.ns - n.np)) k
  have g16 : w * n.ns + (k : Int) - n.np = w * n.ns - n.np + (k : Int) := by omega
  have oz8 := @rcSum_c (T) (n) (h) (w) (o) (i) ((↑k : Int)) (h * n.ns + i - n.np) (w * n.ns + (↑k : Int) - n.np) (accN v (colE T n o i (h * n.ns + i - n.np) (w * n.ns - n.np)) k) ok o0 o1 i0 i1 (by omega) (by omega) (by omega) (by omega)
  have oz10 := (Weak.int (k := .i64) (show ((accN (accN v (colE T n o i (h * n.ns + i - n.np) (w * n.ns - n.np)) k) (cterm T n (((o * n.nk + i) * n.nk + (↑k : Int)) * T.c) (((h * n.ns + i - n.np) * T.x + (w * n.ns + (↑k : Int) - n.np)) * T.c)) (if inT T (h * n.ns + i - n.np) (w * n.ns + (↑k : Int) - n.np) then T.c.toNat else 0)) : Int) = (accN v (colE T n o i (h * n.ns + i - n.np) (w * n.ns - n.np)) (k + 1)) from (by (rw [accN, colE, ← g16, accN_eq]))))
  exact VT.run (W := [.r [] [], .br true, .r [] [.n (h * n.ns), .n (h * n.ns + i), .n (h * n.ns + i - n.np), .n (w * n.ns), .n (w * n.ns + (↑k : Int)), .n (w * n.ns + (↑k : Int) - n.np)], .r [] [], .code [.any (rg [(29, 4), (35, 18)]), .weak 16 (i64 (↑0 : Int)), .sort] (Exit.exit 4) (zO oz8), .r [] [.n ((↑k : Int) + 1)]]) (G := [.any [14, 15, 16, 33, 34], .weak 11 (wO oz10), .weak 13 (i64 (↑(k + 1) : Int)), .sort]) (by kernel_rfl) (.c (decide_eq_true (p := ((↑k : Int) < n.nk)) (by omega)) <| .c (IntWalk.i64_in (h * n.ns) (by omega)) <| .c (IntWalk.i64_in (h * n.ns + i) (by omega)) <| .c (IntWalk.i64_in (h * n.ns + i - n.np) (by omega)) <| .c (IntWalk.i64_in (w * n.ns) (by omega)) <| .c (IntWalk.i64_in (w * n.ns + (↑k : Int)) (by omega)) <| .c (IntWalk.i64_in (w * n.ns + (↑k : Int) - n.np) (by omega)) <| .c (Weak.int (k := .i64) (show ((0) : Int) = ((↑0 : Int)) from (by omega))) <| .c oz8 <| .c (IntWalk.i64_in ((↑k : Int) + 1) (by omega)) <| .c oz10 <| .c (Weak.int (k := .i64) (show (((↑k : Int) + 1) : Int) = ((↑(k + 1) : Int)) from (by omega))) <| .n)
set_option maxRecDepth 100000 in
set_option maxHeartbeats 2000000 in
theorem rcSum_j_e (T : Ten) (n : Nod) (h w o i v : Int) (ok : CvOk T n) (o0 : 0 ≤ o) (o1 : o < n.no) (h0 : 0 ≤ h) (h1 : h ≤ 1000) (w0 : 0 ≤ w) (w1 : w ≤ 1000) (i0 : 0 ≤ i) (i1 : i < n.nk) (v0 : -100000000000 ≤ v) (v1 : v ≤ 100000000000) : VT Try.prog (fnC Try.f77 [1, 1, 0, 1, 0, 0, 1, 0, 0, 1, 0, 0]) (rcSum_j_I T n h w o i v (n.nk.toNat)) (.exit 2) (rcSum_j_Z T n h w o i v) := by
  have nn := ok.n
  have g1 := nn.k1
  exact VT.run (W := [.r [] [], .br false]) (G := [.any (rg [(29, 4)]), .sort]) (by kernel_rfl) (.c (decide_eq_false (p := ((↑n.nk.toNat : Int) < n.nk)) (by omega)) <| .n)
theorem rcSum_j (T : Ten) (n : Nod) (h w o i v : Int) (ok : CvOk T n) (o0 : 0 ≤ o) (o1 : o < n.no) (h0 : 0 ≤ h) (h1 : h ≤ 1000) (w0 : 0 ≤ w) (w1 : w ≤ 1000) (i0 : 0 ≤ i) (i1 : i < n.nk) (v0 : -100000000000 ≤ v) (v1 : v ≤ 100000000000) : VT Try.prog (fnC Try.f77 [1, 1, 0, 1, 0, 0, 1, 0, 0, 1, 0]) (rcSum_j_I T n h w o i v 0) (.exit 2) (rcSum_j_Z T n h w o i v) :=
  VT.loop (fun k => rcSum_j_I T n h w o i v k) (n.nk.toNat) (fun k hk => rcSum_j_s T n h w o i v ok o0 o1 h0 h1 w0 w1 i0 i1 v0 v1 k hk) (rcSum_j_e T n h w o i v ok o0 o1 h0 h1 w0 w1 i0 i1 v0 v1) (by intro h; cases h)
end Go.Proofs.Ytgecmooedhnenaa

/- All sums of a window, by the document. No condition. -/
namespace Go.Proofs.Ytgecmooedhnenaa
open Go.RowKit
set_option linter.unusedSimpArgs false
set_option linter.unusedVariables false
set_option linter.unnecessarySimpa false

/-- A row of a window, over whole numbers. -/
def rowE (T : Ten) (n : Nod) (h w o : Int) (i : Nat) : Int := sumN (colE T n o i (h * n.ns + (i : Int) - n.np) (w * n.ns - n.np)) n.nk.toNat
theorem rowE_bd {T : Ten} {n : Nod} (ok : CvOk T n) (h w o : Int) (i : Nat) : -167116800 ≤ rowE T n h w o i ∧ rowE T n h w o i ≤ 167116800 := by
  have g15 := sumN_bd (B := 33423360) (f := colE T n o i (h * n.ns + i - n.np) (w * n.ns - n.np)) n.nk.toNat fun j _ => colE_bd ok _ _ _ _ j
  have g1 := ok.n.k5
  have g2 := ok.n.k1
  unfold rowE
  omega
/-- A window's sum, over whole numbers. -/
def sumE (T : Ten) (n : Nod) (h w o : Int) : Int := accN (n.b.getD o.toNat 0) (rowE T n h w o) n.nk.toNat
noncomputable def rcSum_i_I (T : Ten) (n : Nod) (h w o : Int) (k : Nat) : VS := stt 118 [(2, i64 h), (3, i64 w), (4, i64 o), (5, .ptr 5 0 0), (6, .ptr 6 0 0), (11, i64 (accN (n.b.getD o.toNat 0) (rowE T n h w o) k)), (12, i64 k)] [(5, .var [i64 T.h, i64 T.x, i64 T.c, ints .i8 T.d]), (6, .var (nodC n))]
noncomputable def rcSum_i_Z (T : Ten) (n : Nod) (h w o : Int) : VS := rcSum_i_I T n h w o (n.nk.toNat)
set_option maxRecDepth 100000 in
set_option maxHeartbeats 2000000 in
theorem rcSum_i_s (T : Ten) (n : Nod) (h w o : Int) (ok : CvOk T n) (o0 : 0 ≤ o) (o1 : o < n.no) (h0 : 0 ≤ h) (h1 : h ≤ 1000) (w0 : 0 ≤ w) (w1 : w ≤ 1000) (k : Nat) (hk : k < n.nk.toNat) : VT Try.prog (fnC Try.f77 [1, 1, 0, 1, 0, 0]) (rcSum_i_I T n h w o k) .normal (rcSum_i_I T n h w o (k + 1)) := by
  have nn := ok.n
  have g1 := nn.k1
  have g2 := nn.k5
  have g3 := gt32 ok.okn.b o.toNat
  have g4 := accN_eq (n.b.getD o.toNat 0) (rowE T n h w o) k
  have g5 := sumN_bd (B := 167116800) (f := rowE T n h w o) k fun i _ => rowE_bd ok _ _ _ i
  have oz2 := @rcSum_j (T) (n) (h) (w) (o) ((↑k : Int)) (accN (n.b.getD o.toNat 0) (rowE T n h w o) k) ok o0 o1 h0 h1 w0 w1 (by omega) (by omega) (by omega) (by omega)
  have oz4 := (Weak.int (k := .i64) (show ((accN (accN (n.b.getD o.toNat 0) (rowE T n h w o) k) (colE T n o (↑k : Int) (h * n.ns + (↑k : Int) - n.np) (w * n.ns - n.np)) n.nk.toNat) : Int) = (accN (n.b.getD o.toNat 0) (rowE T n h w o) (k + 1)) from (by (rw [accN, rowE, accN_eq]))))
  exact VT.run (W := [.r [] [], .br true, .r [] [], .code [.any (rg [(23, 4)]), .weak 13 (i64 (↑0 : Int)), .sort] (Exit.exit 2) (zO oz2), .r [] [.n ((↑k : Int) + 1)]]) (G := [.any [13, 27, 28], .weak 11 (wO oz4), .weak 12 (i64 (↑(k + 1) : Int)), .sort]) (by kernel_rfl) (.c (decide_eq_true (p := ((↑k : Int) < n.nk)) (by omega)) <| .c (Weak.int (k := .i64) (show ((0) : Int) = ((↑0 : Int)) from (by omega))) <| .c oz2 <| .c (IntWalk.i64_in ((↑k : Int) + 1) (by omega)) <| .c oz4 <| .c (Weak.int (k := .i64) (show (((↑k : Int) + 1) : Int) = ((↑(k + 1) : Int)) from (by omega))) <| .n)
set_option maxRecDepth 100000 in
set_option maxHeartbeats 2000000 in
theorem rcSum_i_e (T : Ten) (n : Nod) (h w o : Int) (ok : CvOk T n) (o0 : 0 ≤ o) (o1 : o < n.no) (h0 : 0 ≤ h) (h1 : h ≤ 1000) (w0 : 0 ≤ w) (w1 : w ≤ 1000) : VT Try.prog (fnC Try.f77 [1, 1, 0, 1, 0, 0]) (rcSum_i_I T n h w o (n.nk.toNat)) (.exit 0) (rcSum_i_Z T n h w o) := by
  have nn := ok.n
  have g1 := nn.k1
  exact VT.run (W := [.r [] [], .br false]) (G := [.any (rg [(23, 4)]), .sort]) (by kernel_rfl) (.c (decide_eq_false (p := ((↑n.nk.toNat : Int) < n.nk)) (by omega)) <| .n)
theorem rcSum_i (T : Ten) (n : Nod) (h w o : Int) (ok : CvOk T n) (o0 : 0 ≤ o) (o1 : o < n.no) (h0 : 0 ≤ h) (h1 : h ≤ 1000) (w0 : 0 ≤ w) (w1 : w ≤ 1000) : VT Try.prog (fnC Try.f77 [1, 1, 0, 1, 0]) (rcSum_i_I T n h w o 0) (.exit 0) (rcSum_i_Z T n h w o) :=
  VT.loop (fun k => rcSum_i_I T n h w o k) (n.nk.toNat) (fun k hk => rcSum_i_s T n h w o ok o0 o1 h0 h1 w0 w1 k hk) (rcSum_i_e T n h w o ok o0 o1 h0 h1 w0 w1) (by intro h; cases h)

set_option maxRecDepth 100000 in
set_option maxHeartbeats 2000000 in
theorem rcSum_v (T : Ten) (n : Nod) (h w o : Int) (ok : CvOk T n) (o0 : 0 ≤ o) (o1 : o < n.no) (h0 : 0 ≤ h) (h1 : h ≤ 1000) (w0 : 0 ≤ w) (w1 : w ≤ 1000) : VC Try.prog 77 ([ten .i8 T, nod n, i64 h, i64 w, i64 o]) (i64 (sumE T n h w o)) := by
  have g1 := ok.n.bl
  have g3 := gt32 ok.okn.b o.toNat
  have oz3 := (Weak.int (k := .i64) (show ((n.b.getD o.toNat 0) : Int) = (accN (n.b.getD o.toNat 0) (rowE T n h w o) 0) from (by rfl)))
  have oz5 := @rcSum_i (T) (n) (h) (w) (o) ok o0 o1 h0 h1 w0 w1
  exact (VC.run (fn := Try.f77) (W := [.r [] [], .r [] [.row [i32 (n.b.getD o.toNat 0)], .n (n.b.getD o.toNat 0)], .r [] [], .code [.any (rg [(0, 2), (10, 1), (17, 6)]), .weak 11 (wO oz3), .weak 12 (i64 (↑0 : Int)), .sort] (Exit.exit 0) (zO oz5), .r [] []]) (r := i64 (accN (n.b.getD o.toNat 0) (rowE T n h w o) n.nk.toNat)) Try.func77 (by kernel_rfl) (.c o0 <| .c (map_at (row1 IntKind.i32) (0) (l := n.b) (i := o.toNat) (by omega)) <| .c (IntWalk.i64_in (n.b.getD o.toNat 0) (by omega)) <| .c oz3 <| .c (Weak.int (k := .i64) (show ((0) : Int) = ((↑0 : Int)) from (by omega))) <| .c oz5 <| .n)).weak (WeakL.refl _) (Weak.int (show ((accN (n.b.getD o.toNat 0) (rowE T n h w o) n.nk.toNat) : Int) = (sumE T n h w o) from (by rfl)))
def refO (T : Ten) (n : Nod) (h w : Nat) (o : Nat) : List Int := (List.range o).map fun (o : Nat) => IntKind.i32.wrap (sumE T n h w o)
def refW (T : Ten) (n : Nod) (h : Nat) : Nat → List Int
  | 0 => []
  | w + 1 => refW T n h w ++ refO T n h w n.no.toNat
def refH (T : Ten) (n : Nod) : Nat → List Int
  | 0 => []
  | h + 1 => refH T n h ++ refW T n h (convE ⟨T.h, T.x, T.c⟩ n).1.x.toNat
theorem refW_len (T : Ten) (n : Nod) (h : Nat) : ∀ w, (refW T n h w).length = w * n.no.toNat
  | 0 => by simp [refW]
  | w + 1 => by rw [refW, List.length_append, refW_len T n h w, Nat.add_mul]; simp [refO]
theorem refH_len (T : Ten) (n : Nod) : ∀ h, (refH T n h).length = h * ((convE ⟨T.h, T.x, T.c⟩ n).1.x.toNat * n.no.toNat)
  | 0 => by simp [refH]
  | h + 1 => by rw [refH, List.length_append, refH_len T n h, refW_len, Nat.add_mul]; simp
theorem ref_bd {T : Ten} {n : Nod} (nn : CvN T n) {h w : Nat} (hh : h < (convE ⟨T.h, T.x, T.c⟩ n).1.h.toNat) (hw : w < (convE ⟨T.h, T.x, T.c⟩ n).1.x.toNat) : (refH T n h).length + (refW T n h w).length + n.no.toNat ≤ 40000 := by
  rw [refH_len, refW_len]
  have h1 := nn.he
  have h2 := nn.xe
  have h3 := nn.o1
  have h4 := nn.o2
  have a1 : (convE ⟨T.h, T.x, T.c⟩ n).1.x.toNat * n.no.toNat ≤ 16 * 1024 := Nat.mul_le_mul (by omega) (by omega)
  have h5 := nn.el
  have hx : ((convE ⟨T.h, T.x, T.c⟩ n).1.h.toNat * ((convE ⟨T.h, T.x, T.c⟩ n).1.x.toNat * n.no.toNat) : Nat) ≤ 1024 := by
    have : (((convE ⟨T.h, T.x, T.c⟩ n).1.h.toNat * ((convE ⟨T.h, T.x, T.c⟩ n).1.x.toNat * n.no.toNat) : Nat) : Int) = (convE ⟨T.h, T.x, T.c⟩ n).1.h * (convE ⟨T.h, T.x, T.c⟩ n).1.x * n.no := by
      rw [Int.natCast_mul, Int.natCast_mul, Int.toNat_of_nonneg (by omega), Int.toNat_of_nonneg (by omega), Int.toNat_of_nonneg (by omega), Int.mul_assoc]
    omega
  have a2 : h * ((convE ⟨T.h, T.x, T.c⟩ n).1.x.toNat * n.no.toNat) ≤ (convE ⟨T.h, T.x, T.c⟩ n).1.h.toNat * ((convE ⟨T.h, T.x, T.c⟩ n).1.x.toNat * n.no.toNat) := Nat.mul_le_mul_right _ (by omega)
  have a3 : w * n.no.toNat ≤ 16 * 1024 := Nat.mul_le_mul (by omega) (by omega)
  omega
noncomputable def rcOf_o_I (T : Ten) (n : Nod) (h w : Nat) (k : Nat) : VS := stt 60 [(2, .ptr 2 0 0), (3, .ptr 3 0 0), (4, .ptr 4 0 0), (6, .ptr 6 0 0), (8, .ptr 8 0 0), (9, i64 h), (10, i64 w), (11, i64 k)] [(2, .var [i64 T.h, i64 T.x, i64 T.c, ints .i8 T.d]), (3, .var (nodC n)), (4, .var [i64 0, i64 0, i64 0, nilv]), (6, .var [i64 (convE ⟨T.h, T.x, T.c⟩ n).1.h, i64 (convE ⟨T.h, T.x, T.c⟩ n).1.x, i64 (convE ⟨T.h, T.x, T.c⟩ n).1.c]), (8, .var [i64 (convE ⟨T.h, T.x, T.c⟩ n).1.h, i64 (convE ⟨T.h, T.x, T.c⟩ n).1.x, i64 (convE ⟨T.h, T.x, T.c⟩ n).1.c, .own 900]), (900, .slc 21 1 ((refH T n h ++ (refW T n h w ++ refO T n h w k)).map (row1 .i32)))]
noncomputable def rcOf_o_Z (T : Ten) (n : Nod) (h w : Nat) : VS := rcOf_o_I T n h w (n.no.toNat)
set_option maxRecDepth 100000 in
set_option maxHeartbeats 2000000 in
theorem rcOf_o_s (T : Ten) (n : Nod) (h w : Nat) (ok : CvOk T n) (h1 : h < (convE ⟨T.h, T.x, T.c⟩ n).1.h.toNat) (w1 : w < (convE ⟨T.h, T.x, T.c⟩ n).1.x.toNat) (k : Nat) (hk : k < n.no.toNat) : VT Try.prog (fnC Try.f74 [1, 1, 1, 1, 1, 0, 1, 0, 0, 1, 0, 0, 1, 0, 0, 1, 0, 0, 1, 0, 0]) (rcOf_o_I T n h w k) .normal (rcOf_o_I T n h w (k + 1)) := by
  have nn := ok.n
  have g1 := nn.he
  have g2 := nn.xe
  have g3 := nn.sc
  have g4 := nn.o1
  have g5 := nn.o2
  have g6 := ref_bd nn h1 w1
  have g7 : (refO T n h w k).length = k := by simp [refO]
  have oz1 := @rcSum_v (T) (n) ((↑h : Int)) ((↑w : Int)) ((↑k : Int)) ok (by omega) (by omega) (by omega) (by omega) (by omega) (by omega)
  exact VT.run (W := [.r [] [], .br true, .r [] [.callr (rO oz1), .w], .r [] [.n ((↑k : Int) + 1)]]) (G := [.any (rg [(41, 18)]), .drop [56], .ren 57 900, .weak 11 (i64 (↑(k + 1) : Int)), .blk 900 (Blk.slc 21 1 (List.map (row1 IntKind.i32) (refH T n h ++ (refW T n h w ++ refO T n h w (k + 1))))), .sort]) (by kernel_rfl) (.c (decide_eq_true (p := ((↑k : Int) < (convE (Shp.mk T.h T.x T.c) n).fst.c)) (by omega)) <| .c oz1 <| .c (show ((List.map (row1 IntKind.i32) (refH T n h ++ (refW T n h w ++ refO T n h w k))).length + 1) * 4 ≤ 140737488355328 by (simp; omega)) <| .c (show (List.map (row1 IntKind.i32) (refH T n h ++ (refW T n h w ++ refO T n h w k))).length + 1 ≤ 9223372036854775807 by (simp; omega)) <| .c (IntWalk.i64_in ((↑k : Int) + 1) (by omega)) <| .c (Weak.int (k := .i64) (show (((↑k : Int) + 1) : Int) = ((↑(k + 1) : Int)) from (by omega))) <| .c (show BlkW (Blk.slc 21 1 (List.map (row1 IntKind.i32) (refH T n h ++ (refW T n h w ++ refO T n h w k)) ++ [[i32 (IntKind.i32.wrap (sumE T n (↑h : Int) (↑w : Int) (↑k : Int)))]])) (Blk.slc 21 1 (List.map (row1 IntKind.i32) (refH T n h ++ (refW T n h w ++ refO T n h w (k + 1))))) from (BlkW.rows (rows_to (row1 IntKind.i32) (r := List.map (row1 IntKind.i32) (refH T n h ++ (refW T n h w ++ refO T n h w k)) ++ [[i32 (IntKind.i32.wrap (sumE T n (↑h : Int) (↑w : Int) (↑k : Int)))]]) (l := refH T n h ++ (refW T n h w ++ refO T n h w k) ++ [IntKind.i32.wrap (sumE T n (↑h : Int) (↑w : Int) (↑k : Int))]) (m := refH T n h ++ (refW T n h w ++ refO T n h w (k + 1))) (by first | (simp only [List.map_append, List.map_cons, List.map_nil, List.map_set, List.map_replicate, List.map_take, List.map_drop]; done) | rfl | (simp only [List.map_append, List.map_cons, List.map_nil, List.map_set, List.map_replicate, List.map_take, List.map_drop]; rfl)) (show (refH T n h ++ (refW T n h w ++ refO T n h w k) ++ [IntKind.i32.wrap (sumE T n (↑h : Int) (↑w : Int) (↑k : Int))]) = (refH T n h ++ (refW T n h w ++ refO T n h w (k + 1))) from (by (rw [refO, refO, List.range_succ, List.map_append]; simp)))))) <| .n)
set_option maxRecDepth 100000 in
set_option maxHeartbeats 2000000 in
theorem rcOf_o_e (T : Ten) (n : Nod) (h w : Nat) (ok : CvOk T n) (h1 : h < (convE ⟨T.h, T.x, T.c⟩ n).1.h.toNat) (w1 : w < (convE ⟨T.h, T.x, T.c⟩ n).1.x.toNat) : VT Try.prog (fnC Try.f74 [1, 1, 1, 1, 1, 0, 1, 0, 0, 1, 0, 0, 1, 0, 0, 1, 0, 0, 1, 0, 0]) (rcOf_o_I T n h w (n.no.toNat)) (.exit 4) (rcOf_o_Z T n h w) := by
  have nn := ok.n
  have g1 := nn.he
  have g2 := nn.xe
  have g3 := nn.sc
  have g4 := nn.o1
  have g5 := nn.o2
  exact VT.run (W := [.r [] [], .br false]) (G := [.any (rg [(41, 4)]), .sort]) (by kernel_rfl) (.c (decide_eq_false (p := ((↑n.no.toNat : Int) < (convE (Shp.mk T.h T.x T.c) n).fst.c)) (by omega)) <| .n)
theorem rcOf_o (T : Ten) (n : Nod) (h w : Nat) (ok : CvOk T n) (h1 : h < (convE ⟨T.h, T.x, T.c⟩ n).1.h.toNat) (w1 : w < (convE ⟨T.h, T.x, T.c⟩ n).1.x.toNat) : VT Try.prog (fnC Try.f74 [1, 1, 1, 1, 1, 0, 1, 0, 0, 1, 0, 0, 1, 0, 0, 1, 0, 0, 1, 0]) (rcOf_o_I T n h w 0) (.exit 4) (rcOf_o_Z T n h w) :=
  VT.loop (fun k => rcOf_o_I T n h w k) (n.no.toNat) (fun k hk => rcOf_o_s T n h w ok h1 w1 k hk) (rcOf_o_e T n h w ok h1 w1) (by intro h; cases h)

noncomputable def rcOf_w_I (T : Ten) (n : Nod) (h : Nat) (k : Nat) : VS := stt 60 [(2, .ptr 2 0 0), (3, .ptr 3 0 0), (4, .ptr 4 0 0), (6, .ptr 6 0 0), (8, .ptr 8 0 0), (9, i64 h), (10, i64 k)] [(2, .var [i64 T.h, i64 T.x, i64 T.c, ints .i8 T.d]), (3, .var (nodC n)), (4, .var [i64 0, i64 0, i64 0, nilv]), (6, .var [i64 (convE ⟨T.h, T.x, T.c⟩ n).1.h, i64 (convE ⟨T.h, T.x, T.c⟩ n).1.x, i64 (convE ⟨T.h, T.x, T.c⟩ n).1.c]), (8, .var [i64 (convE ⟨T.h, T.x, T.c⟩ n).1.h, i64 (convE ⟨T.h, T.x, T.c⟩ n).1.x, i64 (convE ⟨T.h, T.x, T.c⟩ n).1.c, .own 900]), (900, .slc 21 1 ((refH T n h ++ refW T n h k).map (row1 .i32)))]
noncomputable def rcOf_w_Z (T : Ten) (n : Nod) (h : Nat) : VS := rcOf_w_I T n h ((convE ⟨T.h, T.x, T.c⟩ n).1.x.toNat)
set_option maxRecDepth 100000 in
set_option maxHeartbeats 2000000 in
theorem rcOf_w_s (T : Ten) (n : Nod) (h : Nat) (ok : CvOk T n) (h1 : h < (convE ⟨T.h, T.x, T.c⟩ n).1.h.toNat) (k : Nat) (hk : k < (convE ⟨T.h, T.x, T.c⟩ n).1.x.toNat) : VT Try.prog (fnC Try.f74 [1, 1, 1, 1, 1, 0, 1, 0, 0, 1, 0, 0, 1, 0, 0]) (rcOf_w_I T n h k) .normal (rcOf_w_I T n h (k + 1)) := by
  have nn := ok.n
  have g1 := nn.he
  have g2 := nn.xe
  have g3 := nn.sc
  have g4 := nn.o1
  have g5 := nn.o2
  have oz3 := @rcOf_o (T) (n) (h) (k) ok h1 hk
  exact VT.run (W := [.r [] [], .br true, .r [] [], .code [.any (rg [(35, 4)]), .weak 11 (i64 (↑0 : Int)), .blk 900 (Blk.slc 21 1 (List.map (row1 IntKind.i32) (refH T n h ++ (refW T n h k ++ refO T n h k 0)))), .sort] (Exit.exit 4) (zO oz3), .r [] [.n ((↑k : Int) + 1)]]) (G := [.any [11, 39, 40], .weak 10 (i64 (↑(k + 1) : Int)), .blk 900 (Blk.slc 21 1 (List.map (row1 IntKind.i32) (refH T n h ++ refW T n h (k + 1)))), .sort]) (by kernel_rfl) (.c (decide_eq_true (p := ((↑k : Int) < (convE (Shp.mk T.h T.x T.c) n).fst.x)) (by omega)) <| .c (Weak.int (k := .i64) (show ((0) : Int) = ((↑0 : Int)) from (by omega))) <| .c (show BlkW (Blk.slc 21 1 (List.map (row1 IntKind.i32) (refH T n h ++ refW T n h k))) (Blk.slc 21 1 (List.map (row1 IntKind.i32) (refH T n h ++ (refW T n h k ++ refO T n h k 0)))) from (BlkW.rows (rows_to (row1 IntKind.i32) (r := List.map (row1 IntKind.i32) (refH T n h ++ refW T n h k)) (l := refH T n h ++ refW T n h k) (m := refH T n h ++ (refW T n h k ++ refO T n h k 0)) rfl (show (refH T n h ++ refW T n h k) = (refH T n h ++ (refW T n h k ++ refO T n h k 0)) from (by (simp [refO]; done)))))) <| .c oz3 <| .c (IntWalk.i64_in ((↑k : Int) + 1) (by omega)) <| .c (Weak.int (k := .i64) (show (((↑k : Int) + 1) : Int) = ((↑(k + 1) : Int)) from (by omega))) <| .c (show BlkW (Blk.slc 21 1 (List.map (row1 IntKind.i32) (refH T n h ++ (refW T n h k ++ refO T n h k n.no.toNat)))) (Blk.slc 21 1 (List.map (row1 IntKind.i32) (refH T n h ++ refW T n h (k + 1)))) from (BlkW.rows (rows_to (row1 IntKind.i32) (r := List.map (row1 IntKind.i32) (refH T n h ++ (refW T n h k ++ refO T n h k n.no.toNat))) (l := refH T n h ++ (refW T n h k ++ refO T n h k n.no.toNat)) (m := refH T n h ++ refW T n h (k + 1)) rfl (show (refH T n h ++ (refW T n h k ++ refO T n h k n.no.toNat)) = (refH T n h ++ refW T n h (k + 1)) from (by rfl))))) <| .n)
set_option maxRecDepth 100000 in
set_option maxHeartbeats 2000000 in
theorem rcOf_w_e (T : Ten) (n : Nod) (h : Nat) (ok : CvOk T n) (h1 : h < (convE ⟨T.h, T.x, T.c⟩ n).1.h.toNat) : VT Try.prog (fnC Try.f74 [1, 1, 1, 1, 1, 0, 1, 0, 0, 1, 0, 0, 1, 0, 0]) (rcOf_w_I T n h ((convE ⟨T.h, T.x, T.c⟩ n).1.x.toNat)) (.exit 2) (rcOf_w_Z T n h) := by
  have nn := ok.n
  have g1 := nn.he
  have g2 := nn.xe
  have g3 := nn.sc
  have g4 := nn.o1
  have g5 := nn.o2
  exact VT.run (W := [.r [] [], .br false]) (G := [.any (rg [(35, 4)]), .sort]) (by kernel_rfl) (.c (decide_eq_false (p := ((↑(convE (Shp.mk T.h T.x T.c) n).fst.x.toNat : Int) < (convE (Shp.mk T.h T.x T.c) n).fst.x)) (by omega)) <| .n)
theorem rcOf_w (T : Ten) (n : Nod) (h : Nat) (ok : CvOk T n) (h1 : h < (convE ⟨T.h, T.x, T.c⟩ n).1.h.toNat) : VT Try.prog (fnC Try.f74 [1, 1, 1, 1, 1, 0, 1, 0, 0, 1, 0, 0, 1, 0]) (rcOf_w_I T n h 0) (.exit 2) (rcOf_w_Z T n h) :=
  VT.loop (fun k => rcOf_w_I T n h k) ((convE ⟨T.h, T.x, T.c⟩ n).1.x.toNat) (fun k hk => rcOf_w_s T n h ok h1 k hk) (rcOf_w_e T n h ok h1) (by intro h; cases h)

noncomputable def rcOf_h_I (T : Ten) (n : Nod) (k : Nat) : VS := stt 60 [(2, .ptr 2 0 0), (3, .ptr 3 0 0), (4, .ptr 4 0 0), (6, .ptr 6 0 0), (8, .ptr 8 0 0), (9, i64 k)] [(2, .var [i64 T.h, i64 T.x, i64 T.c, ints .i8 T.d]), (3, .var (nodC n)), (4, .var [i64 0, i64 0, i64 0, nilv]), (6, .var [i64 (convE ⟨T.h, T.x, T.c⟩ n).1.h, i64 (convE ⟨T.h, T.x, T.c⟩ n).1.x, i64 (convE ⟨T.h, T.x, T.c⟩ n).1.c]), (8, .var [i64 (convE ⟨T.h, T.x, T.c⟩ n).1.h, i64 (convE ⟨T.h, T.x, T.c⟩ n).1.x, i64 (convE ⟨T.h, T.x, T.c⟩ n).1.c, .own 900]), (900, .slc 21 1 ((refH T n k).map (row1 .i32)))]
noncomputable def rcOf_h_Z (T : Ten) (n : Nod) : VS := rcOf_h_I T n ((convE ⟨T.h, T.x, T.c⟩ n).1.h.toNat)
set_option maxRecDepth 100000 in
set_option maxHeartbeats 2000000 in
theorem rcOf_h_s (T : Ten) (n : Nod) (ok : CvOk T n) (k : Nat) (hk : k < (convE ⟨T.h, T.x, T.c⟩ n).1.h.toNat) : VT Try.prog (fnC Try.f74 [1, 1, 1, 1, 1, 0, 1, 0, 0]) (rcOf_h_I T n k) .normal (rcOf_h_I T n (k + 1)) := by
  have nn := ok.n
  have g1 := nn.he
  have g2 := nn.xe
  have g3 := nn.sc
  have g4 := nn.o1
  have g5 := nn.o2
  have oz3 := @rcOf_w (T) (n) (k) ok hk
  exact VT.run (W := [.r [] [], .br true, .r [] [], .code [.any (rg [(29, 4)]), .weak 10 (i64 (↑0 : Int)), .blk 900 (Blk.slc 21 1 (List.map (row1 IntKind.i32) (refH T n k ++ refW T n k 0))), .sort] (Exit.exit 2) (zO oz3), .r [] [.n ((↑k : Int) + 1)]]) (G := [.any [10, 33, 34], .weak 9 (i64 (↑(k + 1) : Int)), .blk 900 (Blk.slc 21 1 (List.map (row1 IntKind.i32) (refH T n (k + 1)))), .sort]) (by kernel_rfl) (.c (decide_eq_true (p := ((↑k : Int) < (convE (Shp.mk T.h T.x T.c) n).fst.h)) (by omega)) <| .c (Weak.int (k := .i64) (show ((0) : Int) = ((↑0 : Int)) from (by omega))) <| .c (show BlkW (Blk.slc 21 1 (List.map (row1 IntKind.i32) (refH T n k))) (Blk.slc 21 1 (List.map (row1 IntKind.i32) (refH T n k ++ refW T n k 0))) from (BlkW.rows (rows_to (row1 IntKind.i32) (r := List.map (row1 IntKind.i32) (refH T n k)) (l := refH T n k) (m := refH T n k ++ refW T n k 0) rfl (show (refH T n k) = (refH T n k ++ refW T n k 0) from (by (simp [refW]; done)))))) <| .c oz3 <| .c (IntWalk.i64_in ((↑k : Int) + 1) (by omega)) <| .c (Weak.int (k := .i64) (show (((↑k : Int) + 1) : Int) = ((↑(k + 1) : Int)) from (by omega))) <| .c (show BlkW (Blk.slc 21 1 (List.map (row1 IntKind.i32) (refH T n k ++ refW T n k (convE (Shp.mk T.h T.x T.c) n).fst.x.toNat))) (Blk.slc 21 1 (List.map (row1 IntKind.i32) (refH T n (k + 1)))) from (BlkW.rows (rows_to (row1 IntKind.i32) (r := List.map (row1 IntKind.i32) (refH T n k ++ refW T n k (convE (Shp.mk T.h T.x T.c) n).fst.x.toNat)) (l := refH T n k ++ refW T n k (convE (Shp.mk T.h T.x T.c) n).fst.x.toNat) (m := refH T n (k + 1)) rfl (show (refH T n k ++ refW T n k (convE (Shp.mk T.h T.x T.c) n).fst.x.toNat) = (refH T n (k + 1)) from (by rfl))))) <| .n)
set_option maxRecDepth 100000 in
set_option maxHeartbeats 2000000 in
theorem rcOf_h_e (T : Ten) (n : Nod) (ok : CvOk T n) : VT Try.prog (fnC Try.f74 [1, 1, 1, 1, 1, 0, 1, 0, 0]) (rcOf_h_I T n ((convE ⟨T.h, T.x, T.c⟩ n).1.h.toNat)) (.exit 0) (rcOf_h_Z T n) := by
  have nn := ok.n
  have g1 := nn.he
  have g2 := nn.xe
  have g3 := nn.sc
  have g4 := nn.o1
  have g5 := nn.o2
  exact VT.run (W := [.r [] [], .br false]) (G := [.any (rg [(29, 4)]), .sort]) (by kernel_rfl) (.c (decide_eq_false (p := ((↑(convE (Shp.mk T.h T.x T.c) n).fst.h.toNat : Int) < (convE (Shp.mk T.h T.x T.c) n).fst.h)) (by omega)) <| .n)
theorem rcOf_h (T : Ten) (n : Nod) (ok : CvOk T n) : VT Try.prog (fnC Try.f74 [1, 1, 1, 1, 1, 0, 1, 0]) (rcOf_h_I T n 0) (.exit 0) (rcOf_h_Z T n) :=
  VT.loop (fun k => rcOf_h_I T n k) ((convE ⟨T.h, T.x, T.c⟩ n).1.h.toNat) (fun k hk => rcOf_h_s T n ok k hk) (rcOf_h_e T n ok) (by intro h; cases h)

set_option maxRecDepth 100000 in
set_option maxHeartbeats 2000000 in
theorem rcOf_x (T : Ten) (n : Nod) (ok : CvOk T n) : VC Try.prog 74 ([ten .i8 T, nod n]) (.tup [ten .i32 ⟨(convE ⟨T.h, T.x, T.c⟩ n).1.h, (convE ⟨T.h, T.x, T.c⟩ n).1.x, (convE ⟨T.h, T.x, T.c⟩ n).1.c, refH T n (convE ⟨T.h, T.x, T.c⟩ n).1.h.toNat⟩, i64 0]) := by
  have ok1 := ok.ok
  have okn := ok.okn
  have q2 := ok.r
  have q3 := ok.e
  have oz0 := @refTRight_v (T) ok1
  have oz2 := @refConvShape_v (Shp.mk T.h T.x T.c) (n) (by (exact Shp.mk_ok ok1.h ok1.x ok1.c)) okn
  have oz5 := @rcOf_h (T) (n) ok
  exact VC.run (fn := Try.f74) (W := [.r [] [], .r [] [.callr (rO oz0)], .br false, .r [] [.callr (rO oz2)], .r [] [], .br false, .r [] [], .r [] [], .code [.any (rg [(0, 2), (5, 1), (7, 1), (12, 3), (16, 9), (27, 2)]), .weak 9 (i64 (↑0 : Int)), .nilc 900 21 1 8 3, .sort] (Exit.exit 0) (zO oz5), .r [] []]) Try.func74 (by kernel_rfl) (.c oz0 <| .c (show (!tenRight T) = false by (simp; omega)) <| .c oz2 <| .c (show ((convE (Shp.mk T.h T.x T.c) n).snd != 0) = false by (simp; omega)) <| .c (Weak.int (k := .i64) (show ((0) : Int) = ((↑0 : Int)) from (by omega))) <| .c oz5 <| .n)
end Go.Proofs.Ytgecmooedhnenaa

/- The sums of the program are those of the document. No condition. -/
namespace Go.Proofs.Ytgecmooedhnenaa
open Go.RowKit
set_option linter.unusedSimpArgs false
set_option linter.unusedVariables false
set_option linter.unnecessarySimpa false

theorem w32_add (a b : Int) : IntKind.i32.wrap (IntKind.i32.wrap a + b) = IntKind.i32.wrap (a + b) := by
  simp only [IntKind.wrap_i32]; omega
theorem w32_add2 (a b : Int) : IntKind.i32.wrap (IntKind.i32.wrap a + IntKind.i32.wrap b) = IntKind.i32.wrap (a + b) := by
  simp only [IntKind.wrap_i32]; omega
theorem acc32_eq (v : Int) (f : Nat → Int) : ∀ k, acc32 (IntKind.i32.wrap v) f k = IntKind.i32.wrap (v + sumN f k)
  | 0 => by simp [acc32, sumN]
  | k + 1 => by rw [acc32, acc32_eq v f k, w32_add, sumN, Int.add_assoc]
theorem rowAcc_eq {T : Ten} {n : Nod} (o i h w : Int) (h0 : 0 ≤ h) (h1 : h < T.h) : ∀ j, rowAcc T n ((o * n.nk + i) * n.nk * T.c) h w j = IntKind.i32.wrap (sumN (colE T n o i h w) j)
  | 0 => by simp only [rowAcc, sumN]; rfl
  | j + 1 => by
    rw [rowAcc, sumN, rowAcc_eq o i h w h0 h1 j, colE]
    by_cases hx : 0 ≤ w + (j : Int) ∧ w + (j : Int) < T.x
    · rw [if_pos hx, if_pos ⟨h0, h1, hx.1, hx.2⟩, acc32_eq, ← Int.add_mul]
    · rw [if_neg hx, if_neg (fun q => hx ⟨q.2.2.1, q.2.2.2⟩)]
      simp [sumN]
theorem sumAcc_eq {T : Ten} {n : Nod} (ok : CvOk T n) (h w o : Int) : ∀ i, sumAcc T n h w o i = IntKind.i32.wrap (accN (n.b.getD o.toNat 0) (rowE T n h w o) i)
  | 0 => by
    rw [sumAcc, accN, IntWalk.i32_in _ (gt32 ok.okn.b _)]
  | i + 1 => by
    rw [sumAcc, accN, sumAcc_eq ok h w o i]
    by_cases hy : 0 ≤ h * n.ns + (i : Int) - n.np ∧ h * n.ns + (i : Int) - n.np < T.h
    · rw [if_pos hy, rowAcc_eq o i _ _ hy.1 hy.2, w32_add2]; rfl
    · rw [if_neg hy]
      have : rowE T n h w o i = 0 := by
        unfold rowE
        refine sumN_zero _ fun j _ => ?_
        unfold colE
        rw [if_neg (fun q => hy ⟨q.1, q.2.1⟩)]; rfl
      rw [this, Int.add_zero]
theorem cvS_eq {T : Ten} {n : Nod} (ok : CvOk T n) (h w o : Int) : cvS T n h w o = IntKind.i32.wrap (sumE T n h w o) := sumAcc_eq ok h w o _
theorem outL_ref {T : Ten} {n : Nod} (ok : CvOk T n) (h : Nat) : ∀ w, w ≤ (convE ⟨T.h, T.x, T.c⟩ n).1.x.toNat → outL T n (h * (convE ⟨T.h, T.x, T.c⟩ n).1.x.toNat) = refH T n h → outL T n (h * (convE ⟨T.h, T.x, T.c⟩ n).1.x.toNat + w) = refH T n h ++ refW T n h w
  | 0, _, h0 => by rw [Nat.add_zero, h0]; simp [refW]
  | w + 1, hw, h0 => by
    have hx := ok.n.xe
    rw [← Nat.add_assoc, outL, outL_ref ok h w (by omega) h0, refW, List.append_assoc]
    congr 2
    unfold refO
    apply List.map_congr_left
    intro o _
    have e1 : ((h * (convE ⟨T.h, T.x, T.c⟩ n).1.x.toNat + w : Nat) : Int) = (h : Int) * (convE ⟨T.h, T.x, T.c⟩ n).1.x + (w : Int) := by
      rw [Int.natCast_add, Int.natCast_mul, Int.toNat_of_nonneg (by omega)]
    have e2 : ((h : Int) * (convE ⟨T.h, T.x, T.c⟩ n).1.x + (w : Int)) / (convE ⟨T.h, T.x, T.c⟩ n).1.x = h := by
      rw [Int.add_comm, Int.add_mul_ediv_right _ _ (by omega), Int.ediv_eq_zero_of_lt (by omega) (by omega)]; omega
    have e3 : ((h : Int) * (convE ⟨T.h, T.x, T.c⟩ n).1.x + (w : Int)) % (convE ⟨T.h, T.x, T.c⟩ n).1.x = w := by
      rw [Int.add_comm, Int.add_mul_emod_self_right, Int.emod_eq_of_lt (by omega) (by omega)]
    rw [e1, e2, e3, cvS_eq ok]
theorem outL_all {T : Ten} {n : Nod} (ok : CvOk T n) : ∀ h, outL T n (h * (convE ⟨T.h, T.x, T.c⟩ n).1.x.toNat) = refH T n h
  | 0 => by simp [outL, refH]
  | h + 1 => by rw [Nat.add_mul, Nat.one_mul, outL_ref ok h _ (Nat.le_refl _) (outL_all ok h), refH]
theorem outL_fin {T : Ten} {n : Nod} (ok : CvOk T n) : outL T n ((convE ⟨T.h, T.x, T.c⟩ n).1.h * (convE ⟨T.h, T.x, T.c⟩ n).1.x).toNat = refH T n (convE ⟨T.h, T.x, T.c⟩ n).1.h.toNat := by
  have h1 := ok.n.he
  have h2 := ok.n.xe
  rw [← outL_all ok]
  congr 1
  apply Int.ofNat_inj.1
  rw [Int.natCast_mul, Int.toNat_of_nonneg (Int.mul_nonneg (by omega) (by omega)), Int.toNat_of_nonneg (by omega), Int.toNat_of_nonneg (by omega)]
set_option maxRecDepth 100000 in
set_option maxHeartbeats 2000000 in
theorem rcOf_n (T : Ten) (n : Nod) (ok : T.Ok) (okn : n.Ok) (hn : tenRight T = false ∨ (convE ⟨T.h, T.x, T.c⟩ n).2 ≠ 0) : VC Try.prog 74 ([ten .i8 T, nod n]) (.tup [ten .i32 (convOf T n).1, i64 (convOf T n).2]) := by
  have oz0 := @refTRight_v (T) ok
  rcases Bool.eq_false_or_eq_true (!tenRight T) with hc0 | hc0
  · have gc0 : tenRight T = false := by first | exact hc0 | exact of_decide_eq_true hc0 | exact of_decide_eq_false hc0 | simpa [eqNums] using hc0 | (simp [eqNums] at hc0 ⊢; first | done | assumption | omega)
    exact (VC.run (fn := Try.f74) (W := [.r [] [], .r [] [.callr (rO oz0)], .br true, .r [] []]) (r := AV.tup [AV.agg [i64 0, i64 0, i64 0, AV.lit (Value.slice none 0 0)], i64 5]) Try.func74 (by kernel_rfl) (.c oz0 <| .c hc0 <| .n)).weak (WeakL.refl _) (Weak.tup (.cons (Weak.agg (.cons (Weak.int (show ((0) : Int) = ((convOf T n).fst.h) from (by (simp only [convOf]; rw [if_pos (by simp_all)]; first | done | rfl)))) (.cons (Weak.int (show ((0) : Int) = ((convOf T n).fst.x) from (by (simp only [convOf]; rw [if_pos (by simp_all)]; first | done | rfl)))) (.cons (Weak.int (show ((0) : Int) = ((convOf T n).fst.c) from (by (simp only [convOf]; rw [if_pos (by simp_all)]; first | done | rfl)))) (.cons (Weak.nilr (show [] = (List.map (row1 IntKind.i32) (convOf T n).fst.d) from (by (simp only [convOf]; rw [if_pos (by simp_all)]; first | done | rfl)))) .nil))))) (.cons (Weak.int (show ((5) : Int) = ((convOf T n).snd) from (by (simp only [convOf]; rw [if_pos (by simp_all)]; first | done | rfl)))) .nil)))
  · have gc0 : tenRight T = true := by first | exact hc0 | exact of_decide_eq_true hc0 | exact of_decide_eq_false hc0 | simpa [eqNums] using hc0 | (simp [eqNums] at hc0 ⊢; first | done | assumption | omega)
    have oz2 := @refConvShape_v (Shp.mk T.h T.x T.c) (n) (by (exact Shp.mk_ok ok.h ok.x ok.c)) okn
    exact (VC.run (fn := Try.f74) (W := [.r [] [], .r [] [.callr (rO oz0)], .br false, .r [] [.callr (rO oz2)], .r [] [], .br true, .r [] []]) (r := AV.tup [AV.agg [i64 0, i64 0, i64 0, AV.lit (Value.slice none 0 0)], i64 (convE (Shp.mk T.h T.x T.c) n).snd]) Try.func74 (by kernel_rfl) (.c oz0 <| .c hc0 <| .c oz2 <| .c (show ((convE (Shp.mk T.h T.x T.c) n).snd != 0) = true by (rcases hn with hn | hn <;> simp_all; done)) <| .n)).weak (WeakL.refl _) (Weak.tup (.cons (Weak.agg (.cons (Weak.int (show ((0) : Int) = ((convOf T n).fst.h) from (by (simp only [convOf]; rw [if_neg (by simp_all), if_pos (by rcases hn with hn | hn <;> simp_all)]; first | done | rfl)))) (.cons (Weak.int (show ((0) : Int) = ((convOf T n).fst.x) from (by (simp only [convOf]; rw [if_neg (by simp_all), if_pos (by rcases hn with hn | hn <;> simp_all)]; first | done | rfl)))) (.cons (Weak.int (show ((0) : Int) = ((convOf T n).fst.c) from (by (simp only [convOf]; rw [if_neg (by simp_all), if_pos (by rcases hn with hn | hn <;> simp_all)]; first | done | rfl)))) (.cons (Weak.nilr (show [] = (List.map (row1 IntKind.i32) (convOf T n).fst.d) from (by (simp only [convOf]; rw [if_neg (by simp_all), if_pos (by rcases hn with hn | hn <;> simp_all)]; first | done | rfl)))) .nil))))) (.cons (Weak.int (show (((convE (Shp.mk T.h T.x T.c) n).snd) : Int) = ((convOf T n).snd) from (by (simp only [convOf]; rw [if_neg (by simp_all), if_pos (by rcases hn with hn | hn <;> simp_all)]; first | done | rfl)))) .nil)))
theorem rcOf_v (T : Ten) (n : Nod) (ok : T.Ok) (okn : n.Ok) : VC Try.prog 74 [ten .i8 T, nod n] (.tup [ten .i32 (convOf T n).1, i64 (convOf T n).2]) := by
  cases hr : tenRight T with
  | false => exact rcOf_n T n ok okn (.inl hr)
  | true =>
    by_cases he : (convE ⟨T.h, T.x, T.c⟩ n).2 = 0
    · have h := rcOf_x T n ⟨ok, okn, hr, he⟩
      have e : convOf T n = (⟨(convE ⟨T.h, T.x, T.c⟩ n).1.h, (convE ⟨T.h, T.x, T.c⟩ n).1.x, (convE ⟨T.h, T.x, T.c⟩ n).1.c, refH T n (convE ⟨T.h, T.x, T.c⟩ n).1.h.toNat⟩, 0) := by
        unfold convOf
        rw [if_neg (by simp [hr]), if_neg (by simpa using he), outL_fin ⟨ok, okn, hr, he⟩]
      rw [e]; exact h
    · exact rcOf_n T n ok okn (.inr he)
end Go.Proofs.Ytgecmooedhnenaa

/- Shapes of what nodes make that sum. No condition. -/
namespace Go.Proofs.Ytgecmooedhnenaa
open Go.RowKit
set_option linter.unusedSimpArgs false
set_option linter.unusedVariables false
set_option linter.unnecessarySimpa false

/-- The shape of what a node makes, or why there is none. -/
def depthE (t : Shp) (n : Nod) : Shp × Int :=
  if (slideE t n.nk n.ns n.np t.c).2 ≠ 0 then (⟨0, 0, 0⟩, (slideE t n.nk n.ns n.np t.c).2)
  else if (n.w.length : Int) ≠ t.c * n.nk * n.nk ∨ 16384 < (n.w.length : Int) ∨ (n.b.length : Int) ≠ t.c then (⟨0, 0, 0⟩, 9) else ((slideE t n.nk n.ns n.np t.c).1, 0)
set_option maxRecDepth 100000 in
set_option maxHeartbeats 2000000 in
theorem depthShape_v (t : Shp) (n : Nod) (ok : t.Ok) (okn : n.Ok) : VC Try.prog 225 ([shp t, nod n]) (.tup [shp (depthE t n).1, i64 (depthE t n).2]) := by
  have q2 := ok.c
  have q3 := fun h => wts_bd (t := t) (k := n.nk) (s := n.ns) (p := n.np) (o := t.c) h
  have oz0 := @slide_v (t) (n.nk) (n.ns) (n.np) (t.c) ok q2
  rcases Bool.eq_false_or_eq_true ((slideE t n.nk n.ns n.np t.c).snd != 0) with hc0 | hc0
  · have gc0 : ¬(slideE t n.nk n.ns n.np t.c).snd = 0 := bdt hc0
    exact (VC.run (fn := Try.f225) (W := [.r [] [], .r [] [.callr (rO oz0)], .r [] [], .br true, .r [] []]) (r := AV.tup [AV.agg [i64 0, i64 0, i64 0], i64 (slideE t n.nk n.ns n.np t.c).snd]) Try.func225 (by kernel_rfl) (.c oz0 <| .c hc0 <| .n)).to (by (simp only [depthE]; rw [if_pos (by omega)]))
  · have gc0 : (slideE t n.nk n.ns n.np t.c).snd = 0 := bdf hc0
    have oz2 := (IntWalk.i64_in (t.c * n.nk) (by omega))
    have oz3 := (IntWalk.i64_in (t.c * n.nk * n.nk) (by omega))
    rcases Bool.eq_false_or_eq_true ((↑(List.map (row1 IntKind.i8) n.w).length : Int) != t.c * n.nk * n.nk || decide ((↑(List.map (row1 IntKind.i8) n.w).length : Int) > 16384) || (↑(List.map (row1 IntKind.i32) n.b).length : Int) != t.c) with hc1 | hc1
    · have gc1 : (¬(↑(List.map (row1 IntKind.i8) n.w).length : Int) = t.c * n.nk * n.nk ∨ (↑(List.map (row1 IntKind.i8) n.w).length : Int) > 16384) ∨ ¬(↑(List.map (row1 IntKind.i32) n.b).length : Int) = t.c := by first | (simp only [Bool.or_eq_true, Bool.or_eq_false_iff, Bool.and_eq_true, Bool.and_eq_false_iff, Bool.not_eq_true', Bool.not_eq_false', decide_eq_true_eq, decide_eq_false_iff_not, beq_iff_eq, bne_iff_ne, ne_eq, beq_eq_false_iff_ne, bne_eq_false_iff_eq, eqNums, Bool.and_true] at hc1; first | exact hc1 | omega) | simpa using hc1 | (simp at hc1 ⊢; omega) | (apply Classical.byContradiction; intro hn; simp_all [eqNums]; done) | (apply Classical.byContradiction; intro hn; simp [eqNums] at hc1 hn; omega)
      exact (VC.run (fn := Try.f225) (W := [.r [] [], .r [] [.callr (rO oz0)], .r [] [], .br false, .r [] [.n (nO oz2), .n (nO oz3), .op false, .op false, .op false, .op false, .sel 1, .op false, .op false, .op false, .op false, .op false, .op false, .sel 1], .br true, .r [] []]) (r := AV.tup [AV.agg [i64 0, i64 0, i64 0], i64 9]) Try.func225 (by kernel_rfl) (.c oz0 <| .c hc0 <| .c oz2 <| .c oz3 <| .c hc1 <| .n)).to (by (simp only [depthE, List.length_map] at *; rw [if_neg (by omega), if_pos (by omega)]))
    · have gc1 : ((↑(List.map (row1 IntKind.i8) n.w).length : Int) = t.c * n.nk * n.nk ∧ ¬(↑(List.map (row1 IntKind.i8) n.w).length : Int) > 16384) ∧ (↑(List.map (row1 IntKind.i32) n.b).length : Int) = t.c := by first | (simp only [Bool.or_eq_true, Bool.or_eq_false_iff, Bool.and_eq_true, Bool.and_eq_false_iff, Bool.not_eq_true', Bool.not_eq_false', decide_eq_true_eq, decide_eq_false_iff_not, beq_iff_eq, bne_iff_ne, ne_eq, beq_eq_false_iff_ne, bne_eq_false_iff_eq, eqNums, Bool.and_true] at hc1; first | exact hc1 | omega) | simpa using hc1 | (simp at hc1 ⊢; omega) | (apply Classical.byContradiction; intro hn; simp_all [eqNums]; done) | (apply Classical.byContradiction; intro hn; simp [eqNums] at hc1 hn; omega)
      exact (VC.run (fn := Try.f225) (W := [.r [] [], .r [] [.callr (rO oz0)], .r [] [], .br false, .r [] [.n (nO oz2), .n (nO oz3), .op false, .op false, .op false, .op false, .sel 1, .op false, .op false, .op false, .op false, .op false, .op false, .sel 1], .br false, .r [] []]) (r := AV.tup [AV.agg [i64 (slideE t n.nk n.ns n.np t.c).fst.h, i64 (slideE t n.nk n.ns n.np t.c).fst.x, i64 (slideE t n.nk n.ns n.np t.c).fst.c], i64 0]) Try.func225 (by kernel_rfl) (.c oz0 <| .c hc0 <| .c oz2 <| .c oz3 <| .c hc1 <| .n)).to (by (simp only [depthE, List.length_map] at *; rw [if_neg (by omega), if_neg (by omega)]))

set_option maxRecDepth 100000 in
set_option maxHeartbeats 2000000 in
theorem refDepthShape_v (t : Shp) (n : Nod) (ok : t.Ok) (okn : n.Ok) : VC Try.prog 140 ([shp t, nod n]) (.tup [shp (depthE t n).1, i64 (depthE t n).2]) := by
  have q2 := ok.c
  have q3 := fun h => wts_bd (t := t) (k := n.nk) (s := n.ns) (p := n.np) (o := t.c) h
  have oz0 := @refSlide_v (t) (n.nk) (n.ns) (n.np) (t.c) ok q2
  rcases Bool.eq_false_or_eq_true ((slideE t n.nk n.ns n.np t.c).snd != 0) with hc0 | hc0
  · have gc0 : ¬(slideE t n.nk n.ns n.np t.c).snd = 0 := bdt hc0
    exact (VC.run (fn := Try.f140) (W := [.r [] [], .r [] [.callr (rO oz0)], .r [] [], .br true, .r [] []]) (r := AV.tup [AV.agg [i64 0, i64 0, i64 0], i64 (slideE t n.nk n.ns n.np t.c).snd]) Try.func140 (by kernel_rfl) (.c oz0 <| .c hc0 <| .n)).to (by (simp only [depthE]; rw [if_pos (by omega)]))
  · have gc0 : (slideE t n.nk n.ns n.np t.c).snd = 0 := bdf hc0
    have oz2 := (IntWalk.i64_in (t.c * n.nk) (by omega))
    have oz3 := (IntWalk.i64_in (t.c * n.nk * n.nk) (by omega))
    rcases Bool.eq_false_or_eq_true ((↑(List.map (row1 IntKind.i8) n.w).length : Int) != t.c * n.nk * n.nk || decide ((↑(List.map (row1 IntKind.i8) n.w).length : Int) > 16384) || (↑(List.map (row1 IntKind.i32) n.b).length : Int) != t.c) with hc1 | hc1
    · have gc1 : (¬(↑(List.map (row1 IntKind.i8) n.w).length : Int) = t.c * n.nk * n.nk ∨ (↑(List.map (row1 IntKind.i8) n.w).length : Int) > 16384) ∨ ¬(↑(List.map (row1 IntKind.i32) n.b).length : Int) = t.c := by first | (simp only [Bool.or_eq_true, Bool.or_eq_false_iff, Bool.and_eq_true, Bool.and_eq_false_iff, Bool.not_eq_true', Bool.not_eq_false', decide_eq_true_eq, decide_eq_false_iff_not, beq_iff_eq, bne_iff_ne, ne_eq, beq_eq_false_iff_ne, bne_eq_false_iff_eq, eqNums, Bool.and_true] at hc1; first | exact hc1 | omega) | simpa using hc1 | (simp at hc1 ⊢; omega) | (apply Classical.byContradiction; intro hn; simp_all [eqNums]; done) | (apply Classical.byContradiction; intro hn; simp [eqNums] at hc1 hn; omega)
      exact (VC.run (fn := Try.f140) (W := [.r [] [], .r [] [.callr (rO oz0)], .r [] [], .br false, .r [] [.n (nO oz2), .n (nO oz3), .op false, .op false, .op false, .op false, .sel 1, .op false, .op false, .op false, .op false, .op false, .op false, .sel 1], .br true, .r [] []]) (r := AV.tup [AV.agg [i64 0, i64 0, i64 0], i64 9]) Try.func140 (by kernel_rfl) (.c oz0 <| .c hc0 <| .c oz2 <| .c oz3 <| .c hc1 <| .n)).to (by (simp only [depthE, List.length_map] at *; rw [if_neg (by omega), if_pos (by omega)]))
    · have gc1 : ((↑(List.map (row1 IntKind.i8) n.w).length : Int) = t.c * n.nk * n.nk ∧ ¬(↑(List.map (row1 IntKind.i8) n.w).length : Int) > 16384) ∧ (↑(List.map (row1 IntKind.i32) n.b).length : Int) = t.c := by first | (simp only [Bool.or_eq_true, Bool.or_eq_false_iff, Bool.and_eq_true, Bool.and_eq_false_iff, Bool.not_eq_true', Bool.not_eq_false', decide_eq_true_eq, decide_eq_false_iff_not, beq_iff_eq, bne_iff_ne, ne_eq, beq_eq_false_iff_ne, bne_eq_false_iff_eq, eqNums, Bool.and_true] at hc1; first | exact hc1 | omega) | simpa using hc1 | (simp at hc1 ⊢; omega) | (apply Classical.byContradiction; intro hn; simp_all [eqNums]; done) | (apply Classical.byContradiction; intro hn; simp [eqNums] at hc1 hn; omega)
      exact (VC.run (fn := Try.f140) (W := [.r [] [], .r [] [.callr (rO oz0)], .r [] [], .br false, .r [] [.n (nO oz2), .n (nO oz3), .op false, .op false, .op false, .op false, .sel 1, .op false, .op false, .op false, .op false, .op false, .op false, .sel 1], .br false, .r [] []]) (r := AV.tup [AV.agg [i64 (slideE t n.nk n.ns n.np t.c).fst.h, i64 (slideE t n.nk n.ns n.np t.c).fst.x, i64 (slideE t n.nk n.ns n.np t.c).fst.c], i64 0]) Try.func140 (by kernel_rfl) (.c oz0 <| .c hc0 <| .c oz2 <| .c oz3 <| .c hc1 <| .n)).to (by (simp only [depthE, List.length_map] at *; rw [if_neg (by omega), if_neg (by omega)]))
theorem elems_in (h x c : Int) : 0 ≤ elems h x c ∧ elems h x c ≤ 1024 := by
  unfold elems; split
  · rename_i g
    have := Int.mul_nonneg (Int.mul_nonneg (show 0 ≤ h by omega) (show 0 ≤ x by omega)) (show 0 ≤ c by omega)
    omega
  · omega
def denseE (t : Shp) (n : Nod) : Shp × Int :=
  if elems t.h t.x t.c = 0 ∨ elems 1 1 n.no = 0 then (⟨0, 0, 0⟩, 5)
  else if (n.w.length : Int) ≠ n.no * elems t.h t.x t.c ∨ 16384 < (n.w.length : Int) ∨ (n.b.length : Int) ≠ n.no then (⟨0, 0, 0⟩, 9) else (⟨1, 1, n.no⟩, 0)
set_option maxRecDepth 100000 in
set_option maxHeartbeats 2000000 in
theorem denseShape_v (t : Shp) (n : Nod) (ok : t.Ok) (okn : n.Ok) : VC Try.prog 226 ([shp t, nod n]) (.tup [shp (denseE t n).1, i64 (denseE t n).2]) := by
  obtain ⟨p1, p2, p3⟩ := id ok
  have q2 := elems_in t.h t.x t.c
  have q3 := elems_in 1 1 n.no
  have q4 : 0 < elems 1 1 n.no → 1 ≤ n.no ∧ n.no ≤ 1024 := fun h => by have := elems_ok h; omega
  have q5 : 0 < elems 1 1 n.no → 0 ≤ n.no * elems t.h t.x t.c ∧ n.no * elems t.h t.x t.c ≤ 1024 * 1024 := fun h => mul_bd (by have := q4 h; omega) (q4 h).2 q2.1 q2.2
  have oz0 := @sRight_v (t) ok
  have oz1 := @sRight_v (Shp.mk 1 1 n.no) (by (exact Shp.mk_ok ⟨by decide, by decide⟩ ⟨by decide, by decide⟩ okn.no))
  rcases Bool.eq_false_or_eq_true (!decide (0 < elems t.h t.x t.c) || !decide (0 < elems 1 1 n.no)) with hc0 | hc0
  · have gc0 : ¬0 < elems t.h t.x t.c ∨ ¬0 < elems 1 1 n.no := by first | (simp only [Bool.or_eq_true, Bool.or_eq_false_iff, Bool.and_eq_true, Bool.and_eq_false_iff, Bool.not_eq_true', Bool.not_eq_false', decide_eq_true_eq, decide_eq_false_iff_not, beq_iff_eq, bne_iff_ne, ne_eq, beq_eq_false_iff_ne, bne_eq_false_iff_eq, eqNums, Bool.and_true] at hc0; first | exact hc0 | omega) | simpa using hc0 | (simp at hc0 ⊢; omega) | (apply Classical.byContradiction; intro hn; simp_all [eqNums]; done) | (apply Classical.byContradiction; intro hn; simp [eqNums] at hc0 hn; omega)
    exact (VC.run (fn := Try.f226) (W := [.r [] [], .r [] [], .r [] [.callr (rO oz0), .op false, .op false, .callr (rO oz1), .op false, .sel 1], .br true, .r [] []]) (r := AV.tup [AV.agg [i64 0, i64 0, i64 0], i64 5]) Try.func226 (by kernel_rfl) (.c oz0 <| .c oz1 <| .c hc0 <| .n)).to (by (simp only [denseE]; rw [if_pos (by omega)]))
  · have gc0 : 0 < elems t.h t.x t.c ∧ 0 < elems 1 1 n.no := by first | (simp only [Bool.or_eq_true, Bool.or_eq_false_iff, Bool.and_eq_true, Bool.and_eq_false_iff, Bool.not_eq_true', Bool.not_eq_false', decide_eq_true_eq, decide_eq_false_iff_not, beq_iff_eq, bne_iff_ne, ne_eq, beq_eq_false_iff_ne, bne_eq_false_iff_eq, eqNums, Bool.and_true] at hc0; first | exact hc0 | omega) | simpa using hc0 | (simp at hc0 ⊢; omega) | (apply Classical.byContradiction; intro hn; simp_all [eqNums]; done) | (apply Classical.byContradiction; intro hn; simp [eqNums] at hc0 hn; omega)
    have oz3 := @elems_v (t.h) (t.x) (t.c) p1 p2 p3
    have oz4 := (IntWalk.i64_in (n.no * elems t.h t.x t.c) (by omega))
    rcases Bool.eq_false_or_eq_true ((↑(List.map (row1 IntKind.i8) n.w).length : Int) != n.no * elems t.h t.x t.c || decide ((↑(List.map (row1 IntKind.i8) n.w).length : Int) > 16384) || (↑(List.map (row1 IntKind.i32) n.b).length : Int) != n.no) with hc1 | hc1
    · have gc1 : (¬(↑(List.map (row1 IntKind.i8) n.w).length : Int) = n.no * elems t.h t.x t.c ∨ (↑(List.map (row1 IntKind.i8) n.w).length : Int) > 16384) ∨ ¬(↑(List.map (row1 IntKind.i32) n.b).length : Int) = n.no := by first | (simp only [Bool.or_eq_true, Bool.or_eq_false_iff, Bool.and_eq_true, Bool.and_eq_false_iff, Bool.not_eq_true', Bool.not_eq_false', decide_eq_true_eq, decide_eq_false_iff_not, beq_iff_eq, bne_iff_ne, ne_eq, beq_eq_false_iff_ne, bne_eq_false_iff_eq, eqNums, Bool.and_true] at hc1; first | exact hc1 | omega) | simpa using hc1 | (simp at hc1 ⊢; omega) | (apply Classical.byContradiction; intro hn; simp_all [eqNums]; done) | (apply Classical.byContradiction; intro hn; simp [eqNums] at hc1 hn; omega)
      exact (VC.run (fn := Try.f226) (W := [.r [] [], .r [] [], .r [] [.callr (rO oz0), .op false, .op false, .callr (rO oz1), .op false, .sel 1], .br false, .r [] [.callr (rO oz3), .n (nO oz4), .op false, .op false, .op false, .op false, .sel 1, .op false, .op false, .op false, .op false, .op false, .op false, .sel 1], .br true, .r [] []]) (r := AV.tup [AV.agg [i64 0, i64 0, i64 0], i64 9]) Try.func226 (by kernel_rfl) (.c oz0 <| .c oz1 <| .c hc0 <| .c oz3 <| .c oz4 <| .c hc1 <| .n)).to (by (simp only [denseE, List.length_map] at *; rw [if_neg (by omega), if_pos (by omega)]))
    · have gc1 : ((↑(List.map (row1 IntKind.i8) n.w).length : Int) = n.no * elems t.h t.x t.c ∧ ¬(↑(List.map (row1 IntKind.i8) n.w).length : Int) > 16384) ∧ (↑(List.map (row1 IntKind.i32) n.b).length : Int) = n.no := by first | (simp only [Bool.or_eq_true, Bool.or_eq_false_iff, Bool.and_eq_true, Bool.and_eq_false_iff, Bool.not_eq_true', Bool.not_eq_false', decide_eq_true_eq, decide_eq_false_iff_not, beq_iff_eq, bne_iff_ne, ne_eq, beq_eq_false_iff_ne, bne_eq_false_iff_eq, eqNums, Bool.and_true] at hc1; first | exact hc1 | omega) | simpa using hc1 | (simp at hc1 ⊢; omega) | (apply Classical.byContradiction; intro hn; simp_all [eqNums]; done) | (apply Classical.byContradiction; intro hn; simp [eqNums] at hc1 hn; omega)
      exact (VC.run (fn := Try.f226) (W := [.r [] [], .r [] [], .r [] [.callr (rO oz0), .op false, .op false, .callr (rO oz1), .op false, .sel 1], .br false, .r [] [.callr (rO oz3), .n (nO oz4), .op false, .op false, .op false, .op false, .sel 1, .op false, .op false, .op false, .op false, .op false, .op false, .sel 1], .br false, .r [] []]) (r := AV.tup [AV.agg [i64 1, i64 1, i64 n.no], i64 0]) Try.func226 (by kernel_rfl) (.c oz0 <| .c oz1 <| .c hc0 <| .c oz3 <| .c oz4 <| .c hc1 <| .n)).to (by (simp only [denseE, List.length_map] at *; rw [if_neg (by omega), if_neg (by omega)]))

set_option maxRecDepth 100000 in
set_option maxHeartbeats 2000000 in
theorem refDenseShape_v (t : Shp) (n : Nod) (ok : t.Ok) (okn : n.Ok) : VC Try.prog 141 ([shp t, nod n]) (.tup [shp (denseE t n).1, i64 (denseE t n).2]) := by
  obtain ⟨p1, p2, p3⟩ := id ok
  have p4 := okn.no
  have p5 : In64 1 := ⟨by decide, by decide⟩
  have q2 := elems_in t.h t.x t.c
  have q3 := elems_in 1 1 n.no
  have q4 : 0 < elems 1 1 n.no → 1 ≤ n.no ∧ n.no ≤ 1024 := fun h => by have := elems_ok h; omega
  have q5 : 0 < elems 1 1 n.no → 0 ≤ n.no * elems t.h t.x t.c ∧ n.no * elems t.h t.x t.c ≤ 1024 * 1024 := fun h => mul_bd (by have := q4 h; omega) (q4 h).2 q2.1 q2.2
  have oz0 := @refElems_v (t.h) (t.x) (t.c) p1 p2 p3
  have oz1 := @refElems_v (1) (1) (n.no) p5 p5 p4
  rcases Bool.eq_false_or_eq_true (elems t.h t.x t.c == 0 || elems 1 1 n.no == 0) with hc0 | hc0
  · have gc0 : elems t.h t.x t.c = 0 ∨ elems 1 1 n.no = 0 := by first | (simp only [Bool.or_eq_true, Bool.or_eq_false_iff, Bool.and_eq_true, Bool.and_eq_false_iff, Bool.not_eq_true', Bool.not_eq_false', decide_eq_true_eq, decide_eq_false_iff_not, beq_iff_eq, bne_iff_ne, ne_eq, beq_eq_false_iff_ne, bne_eq_false_iff_eq, eqNums, Bool.and_true] at hc0; first | exact hc0 | omega) | simpa using hc0 | (simp at hc0 ⊢; omega) | (apply Classical.byContradiction; intro hn; simp_all [eqNums]; done) | (apply Classical.byContradiction; intro hn; simp [eqNums] at hc0 hn; omega)
    exact (VC.run (fn := Try.f141) (W := [.r [] [], .r [] [], .r [] [.callr (rO oz0), .op false, .op false, .callr (rO oz1), .op false, .sel 1], .br true, .r [] []]) (r := AV.tup [AV.agg [i64 0, i64 0, i64 0], i64 5]) Try.func141 (by kernel_rfl) (.c oz0 <| .c oz1 <| .c hc0 <| .n)).to (by (simp only [denseE]; rw [if_pos (by omega)]))
  · have gc0 : ¬elems t.h t.x t.c = 0 ∧ ¬elems 1 1 n.no = 0 := by first | (simp only [Bool.or_eq_true, Bool.or_eq_false_iff, Bool.and_eq_true, Bool.and_eq_false_iff, Bool.not_eq_true', Bool.not_eq_false', decide_eq_true_eq, decide_eq_false_iff_not, beq_iff_eq, bne_iff_ne, ne_eq, beq_eq_false_iff_ne, bne_eq_false_iff_eq, eqNums, Bool.and_true] at hc0; first | exact hc0 | omega) | simpa using hc0 | (simp at hc0 ⊢; omega) | (apply Classical.byContradiction; intro hn; simp_all [eqNums]; done) | (apply Classical.byContradiction; intro hn; simp [eqNums] at hc0 hn; omega)
    have oz4 := (IntWalk.i64_in (n.no * elems t.h t.x t.c) (by omega))
    rcases Bool.eq_false_or_eq_true ((↑(List.map (row1 IntKind.i8) n.w).length : Int) != n.no * elems t.h t.x t.c || decide ((↑(List.map (row1 IntKind.i8) n.w).length : Int) > 16384) || (↑(List.map (row1 IntKind.i32) n.b).length : Int) != n.no) with hc1 | hc1
    · have gc1 : (¬(↑(List.map (row1 IntKind.i8) n.w).length : Int) = n.no * elems t.h t.x t.c ∨ (↑(List.map (row1 IntKind.i8) n.w).length : Int) > 16384) ∨ ¬(↑(List.map (row1 IntKind.i32) n.b).length : Int) = n.no := by first | (simp only [Bool.or_eq_true, Bool.or_eq_false_iff, Bool.and_eq_true, Bool.and_eq_false_iff, Bool.not_eq_true', Bool.not_eq_false', decide_eq_true_eq, decide_eq_false_iff_not, beq_iff_eq, bne_iff_ne, ne_eq, beq_eq_false_iff_ne, bne_eq_false_iff_eq, eqNums, Bool.and_true] at hc1; first | exact hc1 | omega) | simpa using hc1 | (simp at hc1 ⊢; omega) | (apply Classical.byContradiction; intro hn; simp_all [eqNums]; done) | (apply Classical.byContradiction; intro hn; simp [eqNums] at hc1 hn; omega)
      exact (VC.run (fn := Try.f141) (W := [.r [] [], .r [] [], .r [] [.callr (rO oz0), .op false, .op false, .callr (rO oz1), .op false, .sel 1], .br false, .r [] [.callr (rO oz0), .n (nO oz4), .op false, .op false, .op false, .op false, .sel 1, .op false, .op false, .op false, .op false, .op false, .op false, .sel 1], .br true, .r [] []]) (r := AV.tup [AV.agg [i64 0, i64 0, i64 0], i64 9]) Try.func141 (by kernel_rfl) (.c oz0 <| .c oz1 <| .c hc0 <| .c oz0 <| .c oz4 <| .c hc1 <| .n)).to (by (simp only [denseE, List.length_map] at *; rw [if_neg (by omega), if_pos (by omega)]))
    · have gc1 : ((↑(List.map (row1 IntKind.i8) n.w).length : Int) = n.no * elems t.h t.x t.c ∧ ¬(↑(List.map (row1 IntKind.i8) n.w).length : Int) > 16384) ∧ (↑(List.map (row1 IntKind.i32) n.b).length : Int) = n.no := by first | (simp only [Bool.or_eq_true, Bool.or_eq_false_iff, Bool.and_eq_true, Bool.and_eq_false_iff, Bool.not_eq_true', Bool.not_eq_false', decide_eq_true_eq, decide_eq_false_iff_not, beq_iff_eq, bne_iff_ne, ne_eq, beq_eq_false_iff_ne, bne_eq_false_iff_eq, eqNums, Bool.and_true] at hc1; first | exact hc1 | omega) | simpa using hc1 | (simp at hc1 ⊢; omega) | (apply Classical.byContradiction; intro hn; simp_all [eqNums]; done) | (apply Classical.byContradiction; intro hn; simp [eqNums] at hc1 hn; omega)
      exact (VC.run (fn := Try.f141) (W := [.r [] [], .r [] [], .r [] [.callr (rO oz0), .op false, .op false, .callr (rO oz1), .op false, .sel 1], .br false, .r [] [.callr (rO oz0), .n (nO oz4), .op false, .op false, .op false, .op false, .sel 1, .op false, .op false, .op false, .op false, .op false, .op false, .sel 1], .br false, .r [] []]) (r := AV.tup [AV.agg [i64 1, i64 1, i64 n.no], i64 0]) Try.func141 (by kernel_rfl) (.c oz0 <| .c oz1 <| .c hc0 <| .c oz0 <| .c oz4 <| .c hc1 <| .n)).to (by (simp only [denseE, List.length_map] at *; rw [if_neg (by omega), if_neg (by omega)]))
end Go.Proofs.Ytgecmooedhnenaa

/- Windows of one channel each: shapes, places and sums, by the program. No condition. -/
namespace Go.Proofs.Ytgecmooedhnenaa
open Go.RowKit
set_option linter.unusedSimpArgs false
set_option linter.unusedVariables false
set_option linter.unnecessarySimpa false

theorem place_bd {t : Shp} (q : 0 < elems t.h t.x t.c) {h w c : Int} (h0 : 0 ≤ h) (h1 : h < t.h) (w0 : 0 ≤ w) (w1 : w < t.x) (c0 : 0 ≤ c) (c1 : c < t.c) :
    (0 ≤ h * t.x ∧ h * t.x ≤ 1024) ∧ (0 ≤ (h * t.x + w) * t.c ∧ (h * t.x + w) * t.c ≤ 1024) ∧ (0 ≤ (h * t.x + w) * t.c + c ∧ (h * t.x + w) * t.c + c < elems t.h t.x t.c) := by
  obtain ⟨q1, q2, q3, q4, q5, q6, q7, q8⟩ := elems_ok q
  have a := idx_bd (a := h) (m := t.h) (b := w) (n := t.x) h0 h1 w0 w1
  have a0 : 0 ≤ h * t.x := Int.mul_nonneg h0 (by omega)
  have b := idx_bd (a := h * t.x + w) (m := t.h * t.x) (b := c) (n := t.c) (by omega) (by omega) c0 c1
  have b0 : 0 ≤ (h * t.x + w) * t.c := Int.mul_nonneg (by omega) (by omega)
  have d := mul_bd (a := t.h) (A := 16) (b := t.x) (B := 16) (by omega) (by omega) (by omega) (by omega)
  omega
theorem in8x {a : Int} (h : -128 ≤ a ∧ a ≤ 127) : -9223372036854775808 ≤ a ∧ a ≤ 9223372036854775807 := by omega
theorem sub8 {a z : Int} (h : -128 ≤ a ∧ a ≤ 127) (h' : -128 ≤ z ∧ z ≤ 127) : -255 ≤ a - z ∧ a - z ≤ 255 := by omega
theorem prod8w {a b z : Int} (h : -128 ≤ a ∧ a ≤ 127) (h' : -128 ≤ b ∧ b ≤ 127) (hz : -128 ≤ z ∧ z ≤ 127) : -2147483648 ≤ a * (b - z) ∧ a * (b - z) ≤ 2147483647 := by
  have := prod_bd h (sub8 h' hz); omega
structure DpOk (T : Ten) (n : Nod) : Prop where
  ok : T.Ok
  okn : n.Ok
  r : tenRight T = true
  e : (depthE ⟨T.h, T.x, T.c⟩ n).2 = 0
theorem depthE_ok {t : Shp} {n : Nod} (h : (depthE t n).2 = 0) : (slideE t n.nk n.ns n.np t.c).2 = 0 ∧ (n.w.length : Int) = t.c * n.nk * n.nk ∧ n.w.length ≤ 16384 ∧ (n.b.length : Int) = t.c ∧ (depthE t n).1 = (slideE t n.nk n.ns n.np t.c).1 := by
  unfold depthE at h ⊢
  split at h
  · rename_i h1; exact absurd h h1
  · split at h
    · simp at h
    · rename_i h1 h2
      rw [if_neg h1, if_neg h2]
      exact ⟨by omega, by omega, by omega, by omega, rfl⟩
structure DpN (T : Ten) (n : Nod) : Prop where
  q : 0 < elems T.h T.x T.c
  h1 : 1 ≤ T.h
  h16 : T.h ≤ 16
  x1 : 1 ≤ T.x
  x16 : T.x ≤ 16
  c1 : 1 ≤ T.c
  c2 : T.c ≤ 1024
  k1 : 1 ≤ n.nk
  k5 : n.nk ≤ 5
  s1 : 1 ≤ n.ns
  s4 : n.ns ≤ 4
  p0 : 0 ≤ n.np
  p4 : n.np ≤ 4
  wl : (n.w.length : Int) = T.c * n.nk * n.nk
  w2 : n.w.length ≤ 16384
  bl : (n.b.length : Int) = T.c
  dl : (T.d.length : Int) = elems T.h T.x T.c
  d2 : T.d.length ≤ 1024
  sc : (depthE ⟨T.h, T.x, T.c⟩ n).1.c = T.c
  he : 1 ≤ (depthE ⟨T.h, T.x, T.c⟩ n).1.h ∧ (depthE ⟨T.h, T.x, T.c⟩ n).1.h ≤ 16
  xe : 1 ≤ (depthE ⟨T.h, T.x, T.c⟩ n).1.x ∧ (depthE ⟨T.h, T.x, T.c⟩ n).1.x ≤ 16
  el : (depthE ⟨T.h, T.x, T.c⟩ n).1.h * (depthE ⟨T.h, T.x, T.c⟩ n).1.x * T.c ≤ 1024
  en : elems (depthE ⟨T.h, T.x, T.c⟩ n).1.h (depthE ⟨T.h, T.x, T.c⟩ n).1.x (depthE ⟨T.h, T.x, T.c⟩ n).1.c = (depthE ⟨T.h, T.x, T.c⟩ n).1.h * (depthE ⟨T.h, T.x, T.c⟩ n).1.x * T.c
theorem DpOk.n {T : Ten} {n : Nod} (h : DpOk T n) : DpN T n := by
  obtain ⟨ok, okn, r, e⟩ := h
  obtain ⟨e1, e2, e3, e4, e5⟩ := depthE_ok e
  obtain ⟨a1, a2, a3, a4, a5, a6, a7, a8, a9, a10, a11, a12⟩ := slideE_ok e1
  have c := elems_ok a12
  unfold tenRight at r
  rw [Bool.and_eq_true, decide_eq_true_eq, decide_eq_true_eq] at r
  have b' := elems_ok r.1
  have e5' : (depthE ⟨T.h, T.x, T.c⟩ n).1 = ⟨(T.h + 2 * n.np - n.nk) / n.ns + 1, (T.x + 2 * n.np - n.nk) / n.ns + 1, T.c⟩ := e5.trans a11
  have e2' : (n.w.length : Int) = T.c * n.nk * n.nk := e2
  have e4' : (n.b.length : Int) = T.c := e4
  clear e5 a11 e2 a9 a10 e4
  have c' : 1 ≤ (T.h + 2 * n.np - n.nk) / n.ns + 1 ∧ (T.h + 2 * n.np - n.nk) / n.ns + 1 ≤ 16 ∧ 1 ≤ (T.x + 2 * n.np - n.nk) / n.ns + 1 ∧ (T.x + 2 * n.np - n.nk) / n.ns + 1 ≤ 16 ∧ 1 ≤ T.c ∧ T.c ≤ 1024 ∧ ((T.h + 2 * n.np - n.nk) / n.ns + 1) * ((T.x + 2 * n.np - n.nk) / n.ns + 1) * T.c ≤ 1024 ∧
    elems ((T.h + 2 * n.np - n.nk) / n.ns + 1) ((T.x + 2 * n.np - n.nk) / n.ns + 1) T.c = ((T.h + 2 * n.np - n.nk) / n.ns + 1) * ((T.x + 2 * n.np - n.nk) / n.ns + 1) * T.c := c
  clear c
  refine ⟨r.1, by omega, by omega, by omega, by omega, by omega, by omega, by omega, by omega, by omega, by omega, by omega, by omega, e2', e3, e4', by omega, by omega, by rw [e5'], ?_, ?_, ?_, ?_⟩ <;> rw [e5'] <;> simp only <;> omega
/-- One product. -/
def dterm (T : Ten) (n : Nod) (c y x : Int) (i : Int) : Int := n.w.getD (c * n.nk * n.nk + i).toNat 0 * (T.d.getD ((y * T.x + x) * T.c + c).toNat 0 - n.za)
theorem dterm_bd {T : Ten} {n : Nod} (ok : DpOk T n) (c y x i : Int) : -32640 ≤ dterm T n c y x i ∧ dterm T n c y x i ≤ 32640 := by
  have h1 := gt8 ok.okn.w (c * n.nk * n.nk + i).toNat
  have h2 := gt8 ok.ok.d ((y * T.x + x) * T.c + c).toNat
  have h3 : -128 ≤ n.za ∧ n.za ≤ 127 := ok.okn.za
  exact prod_bd h1 (b := T.d.getD ((y * T.x + x) * T.c + c).toNat 0 - n.za) (by omega)
/-- What a window makes of a channel. -/
def dAcc (T : Ten) (n : Nod) (h w c : Int) : Nat → Int
  | 0 => n.b.getD c.toNat 0
  | i + 1 => if inT T (h * n.ns + (i : Int) / n.nk - n.np) (w * n.ns + (i : Int) % n.nk - n.np) then IntKind.i32.wrap (dAcc T n h w c i + dterm T n c (h * n.ns + (i : Int) / n.nk - n.np) (w * n.ns + (i : Int) % n.nk - n.np) i) else dAcc T n h w c i
theorem dw_bd {T : Ten} {n : Nod} (nn : DpN T n) {c i : Int} (c0 : 0 ≤ c) (c1 : c < T.c) (i0 : 0 ≤ i) (i1 : i < n.nk * n.nk) : (0 ≤ c * n.nk ∧ c * n.nk ≤ 5120) ∧ (0 ≤ c * n.nk * n.nk ∧ c * n.nk * n.nk + i < n.w.length) := by
  have k1 := nn.k1
  have k5 := nn.k5
  have c2 := nn.c2
  have a := mul_bd (a := c) (A := 1024) (b := n.nk) (B := 5) c0 (by omega) (by omega) k5
  have b := idx_bd (a := c) (m := T.c) (b := i) (n := n.nk * n.nk) c0 c1 i0 i1
  have e := nn.wl
  have d : 0 ≤ c * n.nk * n.nk := Int.mul_nonneg (by omega) (by omega)
  rw [Int.mul_assoc] at e
  rw [Int.mul_assoc c n.nk n.nk] at d ⊢
  omega
end Go.Proofs.Ytgecmooedhnenaa

/- All sums of windows of one channel each, by the program. No condition. -/
namespace Go.Proofs.Ytgecmooedhnenaa
open Go.RowKit
set_option linter.unusedSimpArgs false
set_option linter.unusedVariables false
set_option linter.unnecessarySimpa false

/-- How many there are. -/
def dN (T : Ten) (n : Nod) : Nat := ((depthE ⟨T.h, T.x, T.c⟩ n).1.h * (depthE ⟨T.h, T.x, T.c⟩ n).1.x * T.c).toNat
def dL (T : Ten) (n : Nod) : List Int := (List.range (dN T n)).map fun (i : Nat) => dAcc T n ((i : Int) / T.c / (depthE ⟨T.h, T.x, T.c⟩ n).1.x) ((i : Int) / T.c % (depthE ⟨T.h, T.x, T.c⟩ n).1.x) ((i : Int) % T.c) (n.nk * n.nk).toNat
theorem dL_len (T : Ten) (n : Nod) : (dL T n).length = dN T n := by simp [dL]
theorem dL_get {T : Ten} {n : Nod} {k : Nat} (hk : k < dN T n) : (dL T n)[k]? = some (dAcc T n ((k : Int) / T.c / (depthE ⟨T.h, T.x, T.c⟩ n).1.x) ((k : Int) / T.c % (depthE ⟨T.h, T.x, T.c⟩ n).1.x) ((k : Int) % T.c) (n.nk * n.nk).toNat) := by
  unfold dL; rw [List.getElem?_map, List.getElem?_range hk]; rfl
end Go.Proofs.Ytgecmooedhnenaa

/- All sums of windows of one channel each, by the document. No condition. -/
namespace Go.Proofs.Ytgecmooedhnenaa
open Go.RowKit
set_option linter.unusedSimpArgs false
set_option linter.unusedVariables false
set_option linter.unnecessarySimpa false

theorem place_bdT {a x m : Int} (q : 0 < elems a x m) {h w c : Int} (h0 : 0 ≤ h) (h1 : h < a) (w0 : 0 ≤ w) (w1 : w < x) (c0 : 0 ≤ c) (c1 : c < m) :
    (0 ≤ h * x ∧ h * x ≤ 1024) ∧ (0 ≤ (h * x + w) * m ∧ (h * x + w) * m ≤ 1024) ∧ (0 ≤ (h * x + w) * m + c ∧ (h * x + w) * m + c < elems a x m) := place_bd (t := ⟨a, x, m⟩) q h0 h1 w0 w1 c0 c1
/-- One cell of a window, over whole numbers. -/
def dcell (T : Ten) (n : Nod) (h w c i : Int) (j : Nat) : Int := if inT T (h * n.ns + i - n.np) (w * n.ns + (j : Int) - n.np) then dterm T n c (h * n.ns + i - n.np) (w * n.ns + (j : Int) - n.np) (i * n.nk + (j : Int)) else 0
theorem dcell_bd {T : Ten} {n : Nod} (ok : DpOk T n) (h w c i : Int) (j : Nat) : -32640 ≤ dcell T n h w c i j ∧ dcell T n h w c i j ≤ 32640 := by
  unfold dcell; split
  · exact dterm_bd ok _ _ _ _
  · omega
def drow (T : Ten) (n : Nod) (h w c : Int) (i : Nat) : Int := sumN (dcell T n h w c i) n.nk.toNat
theorem drow_bd {T : Ten} {n : Nod} (ok : DpOk T n) (h w c : Int) (i : Nat) : -163200 ≤ drow T n h w c i ∧ drow T n h w c i ≤ 163200 := by
  have g := sumN_bd (B := 32640) (f := dcell T n h w c i) n.nk.toNat fun j _ => dcell_bd ok _ _ _ _ j
  have k1 := ok.n.k1
  have k5 := ok.n.k5
  unfold drow
  omega
/-- A window's sum, over whole numbers. -/
def dE (T : Ten) (n : Nod) (h w c : Int) : Int := accN (n.b.getD c.toNat 0) (drow T n h w c) n.nk.toNat
noncomputable def rdSum_j_I (T : Ten) (n : Nod) (h w c i v : Int) (k : Nat) : VS := stt 102 [(2, i64 h), (3, i64 w), (4, i64 c), (5, .ptr 5 0 0), (6, .ptr 6 0 0), (11, i64 (accN v (dcell T n h w c i) k)), (12, i64 i), (13, i64 k)] [(5, .var [i64 T.h, i64 T.x, i64 T.c, ints .i8 T.d]), (6, .var (nodC n))]
noncomputable def rdSum_j_Z (T : Ten) (n : Nod) (h w c i v : Int) : VS := rdSum_j_I T n h w c i v (n.nk.toNat)
set_option maxRecDepth 100000 in
set_option maxHeartbeats 2000000 in
theorem rdSum_j_s (T : Ten) (n : Nod) (h w c i v : Int) (ok : DpOk T n) (h0 : 0 ≤ h) (h1 : h ≤ 1000) (w0 : 0 ≤ w) (w1 : w ≤ 1000) (c0 : 0 ≤ c) (c1 : c < T.c) (i0 : 0 ≤ i) (i1 : i < n.nk) (v0 : -100000000000 ≤ v) (v1 : v ≤ 100000000000) (k : Nat) (hk : k < n.nk.toNat) : VT Try.prog (fnC Try.f78 [1, 1, 0, 1, 0, 0, 1, 0, 0, 1, 0, 0]) (rdSum_j_I T n h w c i v k) .normal (rdSum_j_I T n h w c i v (k + 1)) := by
  have nn := ok.n
  have g1 := nn.k1
  have g2 := nn.k5
  have g4 := idx_bd (a := i) (m := n.nk) (b := k) (n := n.nk) i0 i1 (by omega) (by omega)
  have g5 := dw_bd nn c0 c1 (i := i * n.nk + k) (by omega) (by omega)
  have g6 : (c * n.nk + i) * n.nk + (k : Int) = c * n.nk * n.nk + (i * n.nk + (k : Int)) := by rw [Int.add_mul]; omega
  have g7 : 0 ≤ i * n.nk := Int.mul_nonneg i0 (by omega)
  have g17 : (c * n.nk + i) * n.nk = c * n.nk * n.nk + i * n.nk := by rw [Int.add_mul]
  have g8 := nn.s1
  have g9 := nn.s4
  have g10 := nn.p0
  have g11 := nn.p4
  have g12 := nn.w2
  have g13 := mul_bd (A := 1000) (B := 4) h0 h1 (show 0 ≤ n.ns by omega) g9
  have g14 := mul_bd (A := 1000) (B := 4) w0 w1 (show 0 ≤ n.ns by omega) g9
  have g15 := nn.d2
  have g16 := nn.dl
  have g18 := accN_eq v (dcell T n h w c i) k
  have g19 := sumN_bd (B := 32640) (f := dcell T n h w c i) k fun j _ => dcell_bd ok _ _ _ _ j
  have h3 : -128 ≤ n.za ∧ n.za ≤ 127 := ok.okn.za
  have oz0 := (decide_eq_true (p := ((↑k : Int) < n.nk)) (by omega))
  have oz1 := (IntWalk.i64_in (h * n.ns) (by omega))
  have oz2 := (IntWalk.i64_in (h * n.ns + i) (by omega))
  have oz3 := (IntWalk.i64_in (h * n.ns + i - n.np) (by omega))
  have oz4 := (IntWalk.i64_in (w * n.ns) (by omega))
  have oz5 := (IntWalk.i64_in (w * n.ns + (↑k : Int)) (by omega))
  have oz6 := (IntWalk.i64_in (w * n.ns + (↑k : Int) - n.np) (by omega))
  rcases Bool.eq_false_or_eq_true (decide (h * n.ns + i - n.np ≥ 0) && decide (h * n.ns + i - n.np < T.h) && decide (w * n.ns + (↑k : Int) - n.np ≥ 0) && decide (w * n.ns + (↑k : Int) - n.np < T.x)) with hc0 | hc0
  · have gc0 : ((h * n.ns + i - n.np ≥ 0 ∧ h * n.ns + i - n.np < T.h) ∧ w * n.ns + (↑k : Int) - n.np ≥ 0) ∧ w * n.ns + (↑k : Int) - n.np < T.x := by first | (simp only [Bool.or_eq_true, Bool.or_eq_false_iff, Bool.and_eq_true, Bool.and_eq_false_iff, Bool.not_eq_true', Bool.not_eq_false', decide_eq_true_eq, decide_eq_false_iff_not, beq_iff_eq, bne_iff_ne, ne_eq, beq_eq_false_iff_ne, bne_eq_false_iff_eq, eqNums, Bool.and_true] at hc0; first | exact hc0 | omega) | simpa using hc0 | (simp at hc0 ⊢; omega) | (apply Classical.byContradiction; intro hn; simp_all [eqNums]; done) | (apply Classical.byContradiction; intro hn; simp [eqNums] at hc0 hn; omega)
    have oz11 := (IntWalk.i64_in ((c * n.nk + i) * n.nk + (↑k : Int)) (by omega))
    have oz13 := (map_at (row1 IntKind.i8) (0) (l := n.w) (i := ((c * n.nk + i) * n.nk + (↑k : Int)).toNat) (by omega))
    have oz14 := (show IntKind.i64.wrap (n.w.getD ((c * n.nk + i) * n.nk + (↑k : Int)).toNat 0) = n.w.getD ((c * n.nk + i) * n.nk + (↑k : Int)).toNat 0 by with_reducible exact IntWalk.i64_in _ (in8x (gt8 ok.okn.w _)))
    have oz15 := @get_v (T) (h * n.ns + i - n.np) (w * n.ns + (↑k : Int) - n.np) (c) (by (have q2 := place_bdT nn.q (h := h * n.ns + i - n.np) (w := w * n.ns + (k : Int) - n.np) (c := c) (by omega) (by omega) (by omega) (by omega) c0 c1; have q3 := nn.x16; omega)) (by (have q2 := place_bdT nn.q (h := h * n.ns + i - n.np) (w := w * n.ns + (k : Int) - n.np) (c := c) (by omega) (by omega) (by omega) (by omega) c0 c1; have q3 := nn.x16; omega)) (by omega) (by (have q2 := place_bdT nn.q (h := h * n.ns + i - n.np) (w := w * n.ns + (k : Int) - n.np) (c := c) (by omega) (by omega) (by omega) (by omega) c0 c1; have q3 := nn.x16; omega)) (by (have q2 := place_bdT nn.q (h := h * n.ns + i - n.np) (w := w * n.ns + (k : Int) - n.np) (c := c) (by omega) (by omega) (by omega) (by omega) c0 c1; have q3 := nn.x16; omega)) c0 (by (have q2 := place_bdT nn.q (h := h * n.ns + i - n.np) (w := w * n.ns + (k : Int) - n.np) (c := c) (by omega) (by omega) (by omega) (by omega) c0 c1; have q3 := nn.x16; omega)) g15
    have oz16 := (show IntKind.i64.wrap (T.d.getD (((h * n.ns + i - n.np) * T.x + (w * n.ns + (↑k : Int) - n.np)) * T.c + c).toNat 0) = T.d.getD (((h * n.ns + i - n.np) * T.x + (w * n.ns + (↑k : Int) - n.np)) * T.c + c).toNat 0 by with_reducible exact IntWalk.i64_in _ (in8x (gt8 ok.ok.d _)))
    have oz18 := (show IntKind.i64.wrap (T.d.getD (((h * n.ns + i - n.np) * T.x + (w * n.ns + (↑k : Int) - n.np)) * T.c + c).toNat 0 - n.za) = T.d.getD (((h * n.ns + i - n.np) * T.x + (w * n.ns + (↑k : Int) - n.np)) * T.c + c).toNat 0 - n.za by with_reducible exact IntWalk.i64_in _ (by have := sub8 (gt8 ok.ok.d (((h * n.ns + i - n.np) * T.x + (w * n.ns + (k : Int) - n.np)) * T.c + c).toNat) h3; omega))
    have oz19 := (show IntKind.i64.wrap (n.w.getD ((c * n.nk + i) * n.nk + (↑k : Int)).toNat 0 * (T.d.getD (((h * n.ns + i - n.np) * T.x + (w * n.ns + (↑k : Int) - n.np)) * T.c + c).toNat 0 - n.za)) = n.w.getD ((c * n.nk + i) * n.nk + (↑k : Int)).toNat 0 * (T.d.getD (((h * n.ns + i - n.np) * T.x + (w * n.ns + (↑k : Int) - n.np)) * T.c + c).toNat 0 - n.za) by with_reducible exact IntWalk.i64_in _ (by have := prod8w (gt8 ok.okn.w ((c * n.nk + i) * n.nk + (k : Int)).toNat) (gt8 ok.ok.d (((h * n.ns + i - n.np) * T.x + (w * n.ns + (k : Int) - n.np)) * T.c + c).toNat) h3; omega))
    have oz20 := (show IntKind.i64.wrap (accN v (dcell T n h w c i) k + n.w.getD ((c * n.nk + i) * n.nk + (↑k : Int)).toNat 0 * (T.d.getD (((h * n.ns + i - n.np) * T.x + (w * n.ns + (↑k : Int) - n.np)) * T.c + c).toNat 0 - n.za)) = accN v (dcell T n h w c i) k + n.w.getD ((c * n.nk + i) * n.nk + (↑k : Int)).toNat 0 * (T.d.getD (((h * n.ns + i - n.np) * T.x + (w * n.ns + (↑k : Int) - n.np)) * T.c + c).toNat 0 - n.za) by with_reducible exact IntWalk.i64_in _ (by have := prod8w (gt8 ok.okn.w ((c * n.nk + i) * n.nk + (k : Int)).toNat) (gt8 ok.ok.d (((h * n.ns + i - n.np) * T.x + (w * n.ns + (k : Int) - n.np)) * T.c + c).toNat) h3; omega))
    have oz22 := (Weak.int (k := .i64) (show ((accN v (dcell T n h w c i) k + n.w.getD ((c * n.nk + i) * n.nk + (↑k : Int)).toNat 0 * (T.d.getD (((h * n.ns + i - n.np) * T.x + (w * n.ns + (↑k : Int) - n.np)) * T.c + c).toNat 0 - n.za)) : Int) = (accN v (dcell T n h w c i) (k + 1)) from (by (rw [accN, dcell, if_pos ⟨by omega, by omega, by omega, by omega⟩, dterm, g6]))))
    exact VT.run (W := [.r [] [], .br true, .r [] [.n (nO oz1), .n (nO oz2), .n (nO oz3), .n (nO oz4), .n (nO oz5), .n (nO oz6)], .r [] [.op false, .op false, .op false, .op false, .op false, .sel 2, .op false, .op false, .sel 2, .op false, .op false, .op false, .op false, .op false, .sel 2], .br true, .r [] [.n (c * n.nk), .n (c * n.nk + i), .n ((c * n.nk + i) * n.nk), .n (nO oz11), .row (sO oz13), .n (nO oz14), .callr (rO oz15), .n (nO oz16), .n n.za, .n (nO oz18), .n (nO oz19), .n (nO oz20)], .r [] [.n ((↑k : Int) + 1)]]) (G := [.any (rg [(14, 2), (28, 27), (60, 2), (64, 2), (71, 30)]), .weak 11 (wO oz22), .weak 13 (i64 (↑(k + 1) : Int)), .sort]) (by kernel_rfl) (.c oz0 <| .c oz1 <| .c oz2 <| .c oz3 <| .c oz4 <| .c oz5 <| .c oz6 <| .c hc0 <| .c (IntWalk.i64_in (c * n.nk) (by omega)) <| .c (IntWalk.i64_in (c * n.nk + i) (by omega)) <| .c (IntWalk.i64_in ((c * n.nk + i) * n.nk) (by omega)) <| .c oz11 <| .c (show 0 ≤ (c * n.nk + i) * n.nk + (↑k : Int) by omega) <| .c oz13 <| .c oz14 <| .c oz15 <| .c oz16 <| .c (IntWalk.i64_in n.za (by omega)) <| .c oz18 <| .c oz19 <| .c oz20 <| .c (IntWalk.i64_in ((↑k : Int) + 1) (by omega)) <| .c oz22 <| .c (Weak.int (k := .i64) (show (((↑k : Int) + 1) : Int) = ((↑(k + 1) : Int)) from (by omega))) <| .n)
  · have gc0 : ((¬h * n.ns + i - n.np ≥ 0 ∨ ¬h * n.ns + i - n.np < T.h) ∨ ¬w * n.ns + (↑k : Int) - n.np ≥ 0) ∨ ¬w * n.ns + (↑k : Int) - n.np < T.x := by first | (simp only [Bool.or_eq_true, Bool.or_eq_false_iff, Bool.and_eq_true, Bool.and_eq_false_iff, Bool.not_eq_true', Bool.not_eq_false', decide_eq_true_eq, decide_eq_false_iff_not, beq_iff_eq, bne_iff_ne, ne_eq, beq_eq_false_iff_ne, bne_eq_false_iff_eq, eqNums, Bool.and_true] at hc0; first | exact hc0 | omega) | simpa using hc0 | (simp at hc0 ⊢; omega) | (apply Classical.byContradiction; intro hn; simp_all [eqNums]; done) | (apply Classical.byContradiction; intro hn; simp [eqNums] at hc0 hn; omega)
    have oz9 := (Weak.int (k := .i64) (show ((accN v (dcell T n h w c i) k) : Int) = (accN v (dcell T n h w c i) (k + 1)) from (by (rw [accN, dcell, if_neg (by omega)]; omega))))
    exact VT.run (W := [.r [] [], .br true, .r [] [.n (nO oz1), .n (nO oz2), .n (nO oz3), .n (nO oz4), .n (nO oz5), .n (nO oz6)], .r [] [.op false, .op false, .op false, .op false, .op false, .sel 2, .op false, .op false, .sel 2, .op false, .op false, .op false, .op false, .op false, .sel 2], .br false, .r [] [.n ((↑k : Int) + 1)]]) (G := [.any (rg [(14, 2), (28, 27), (60, 2), (64, 2), (71, 1)]), .weak 11 (wO oz9), .weak 13 (i64 (↑(k + 1) : Int)), .sort]) (by kernel_rfl) (.c oz0 <| .c oz1 <| .c oz2 <| .c oz3 <| .c oz4 <| .c oz5 <| .c oz6 <| .c hc0 <| .c (IntWalk.i64_in ((↑k : Int) + 1) (by omega)) <| .c oz9 <| .c (Weak.int (k := .i64) (show (((↑k : Int) + 1) : Int) = ((↑(k + 1) : Int)) from (by omega))) <| .n)
set_option maxRecDepth 100000 in
set_option maxHeartbeats 2000000 in
theorem rdSum_j_e (T : Ten) (n : Nod) (h w c i v : Int) (ok : DpOk T n) (h0 : 0 ≤ h) (h1 : h ≤ 1000) (w0 : 0 ≤ w) (w1 : w ≤ 1000) (c0 : 0 ≤ c) (c1 : c < T.c) (i0 : 0 ≤ i) (i1 : i < n.nk) (v0 : -100000000000 ≤ v) (v1 : v ≤ 100000000000) : VT Try.prog (fnC Try.f78 [1, 1, 0, 1, 0, 0, 1, 0, 0, 1, 0, 0]) (rdSum_j_I T n h w c i v (n.nk.toNat)) (.exit 2) (rdSum_j_Z T n h w c i v) := by
  have g1 := ok.n.k1
  exact VT.run (W := [.r [] [], .br false]) (G := [.any (rg [(28, 4)]), .sort]) (by kernel_rfl) (.c (decide_eq_false (p := ((↑n.nk.toNat : Int) < n.nk)) (by omega)) <| .n)
theorem rdSum_j (T : Ten) (n : Nod) (h w c i v : Int) (ok : DpOk T n) (h0 : 0 ≤ h) (h1 : h ≤ 1000) (w0 : 0 ≤ w) (w1 : w ≤ 1000) (c0 : 0 ≤ c) (c1 : c < T.c) (i0 : 0 ≤ i) (i1 : i < n.nk) (v0 : -100000000000 ≤ v) (v1 : v ≤ 100000000000) : VT Try.prog (fnC Try.f78 [1, 1, 0, 1, 0, 0, 1, 0, 0, 1, 0]) (rdSum_j_I T n h w c i v 0) (.exit 2) (rdSum_j_Z T n h w c i v) :=
  VT.loop (fun k => rdSum_j_I T n h w c i v k) (n.nk.toNat) (fun k hk => rdSum_j_s T n h w c i v ok h0 h1 w0 w1 c0 c1 i0 i1 v0 v1 k hk) (rdSum_j_e T n h w c i v ok h0 h1 w0 w1 c0 c1 i0 i1 v0 v1) (by intro h; cases h)

noncomputable def rdSum_i_I (T : Ten) (n : Nod) (h w c : Int) (k : Nat) : VS := stt 102 [(2, i64 h), (3, i64 w), (4, i64 c), (5, .ptr 5 0 0), (6, .ptr 6 0 0), (11, i64 (accN (n.b.getD c.toNat 0) (drow T n h w c) k)), (12, i64 k)] [(5, .var [i64 T.h, i64 T.x, i64 T.c, ints .i8 T.d]), (6, .var (nodC n))]
noncomputable def rdSum_i_Z (T : Ten) (n : Nod) (h w c : Int) : VS := rdSum_i_I T n h w c (n.nk.toNat)
set_option maxRecDepth 100000 in
set_option maxHeartbeats 2000000 in
theorem rdSum_i_s (T : Ten) (n : Nod) (h w c : Int) (ok : DpOk T n) (h0 : 0 ≤ h) (h1 : h ≤ 1000) (w0 : 0 ≤ w) (w1 : w ≤ 1000) (c0 : 0 ≤ c) (c1 : c < T.c) (k : Nat) (hk : k < n.nk.toNat) : VT Try.prog (fnC Try.f78 [1, 1, 0, 1, 0, 0]) (rdSum_i_I T n h w c k) .normal (rdSum_i_I T n h w c (k + 1)) := by
  have nn := ok.n
  have g1 := nn.k1
  have g2 := nn.k5
  have g3 := gt32 ok.okn.b c.toNat
  have g4 := accN_eq (n.b.getD c.toNat 0) (drow T n h w c) k
  have g5 := sumN_bd (B := 163200) (f := drow T n h w c) k fun i _ => drow_bd ok _ _ _ i
  have oz2 := @rdSum_j (T) (n) (h) (w) (c) ((↑k : Int)) (accN (n.b.getD c.toNat 0) (drow T n h w c) k) ok h0 h1 w0 w1 c0 c1 (by omega) (by omega) (by omega) (by omega)
  have oz4 := (Weak.int (k := .i64) (show ((accN (accN (n.b.getD c.toNat 0) (drow T n h w c) k) (dcell T n h w c (↑k : Int)) n.nk.toNat) : Int) = (accN (n.b.getD c.toNat 0) (drow T n h w c) (k + 1)) from (by (rw [accN, drow, accN_eq]))))
  exact VT.run (W := [.r [] [], .br true, .r [] [], .code [.any (rg [(22, 4)]), .weak 13 (i64 (↑0 : Int)), .sort] (Exit.exit 2) (zO oz2), .r [] [.n ((↑k : Int) + 1)]]) (G := [.any [13, 26, 27], .weak 11 (wO oz4), .weak 12 (i64 (↑(k + 1) : Int)), .sort]) (by kernel_rfl) (.c (decide_eq_true (p := ((↑k : Int) < n.nk)) (by omega)) <| .c (Weak.int (k := .i64) (show ((0) : Int) = ((↑0 : Int)) from (by omega))) <| .c oz2 <| .c (IntWalk.i64_in ((↑k : Int) + 1) (by omega)) <| .c oz4 <| .c (Weak.int (k := .i64) (show (((↑k : Int) + 1) : Int) = ((↑(k + 1) : Int)) from (by omega))) <| .n)
set_option maxRecDepth 100000 in
set_option maxHeartbeats 2000000 in
theorem rdSum_i_e (T : Ten) (n : Nod) (h w c : Int) (ok : DpOk T n) (h0 : 0 ≤ h) (h1 : h ≤ 1000) (w0 : 0 ≤ w) (w1 : w ≤ 1000) (c0 : 0 ≤ c) (c1 : c < T.c) : VT Try.prog (fnC Try.f78 [1, 1, 0, 1, 0, 0]) (rdSum_i_I T n h w c (n.nk.toNat)) (.exit 0) (rdSum_i_Z T n h w c) := by
  have nn := ok.n
  have g1 := nn.k1
  exact VT.run (W := [.r [] [], .br false]) (G := [.any (rg [(22, 4)]), .sort]) (by kernel_rfl) (.c (decide_eq_false (p := ((↑n.nk.toNat : Int) < n.nk)) (by omega)) <| .n)
theorem rdSum_i (T : Ten) (n : Nod) (h w c : Int) (ok : DpOk T n) (h0 : 0 ≤ h) (h1 : h ≤ 1000) (w0 : 0 ≤ w) (w1 : w ≤ 1000) (c0 : 0 ≤ c) (c1 : c < T.c) : VT Try.prog (fnC Try.f78 [1, 1, 0, 1, 0]) (rdSum_i_I T n h w c 0) (.exit 0) (rdSum_i_Z T n h w c) :=
  VT.loop (fun k => rdSum_i_I T n h w c k) (n.nk.toNat) (fun k hk => rdSum_i_s T n h w c ok h0 h1 w0 w1 c0 c1 k hk) (rdSum_i_e T n h w c ok h0 h1 w0 w1 c0 c1) (by intro h; cases h)

set_option maxRecDepth 100000 in
set_option maxHeartbeats 2000000 in
theorem rdSum_v (T : Ten) (n : Nod) (h w c : Int) (ok : DpOk T n) (h0 : 0 ≤ h) (h1 : h ≤ 1000) (w0 : 0 ≤ w) (w1 : w ≤ 1000) (c0 : 0 ≤ c) (c1 : c < T.c) : VC Try.prog 78 ([ten .i8 T, nod n, i64 h, i64 w, i64 c]) (i64 (dE T n h w c)) := by
  have g1 := ok.n.bl
  have g3 := gt32 ok.okn.b c.toNat
  have oz3 := (Weak.int (k := .i64) (show ((n.b.getD c.toNat 0) : Int) = (accN (n.b.getD c.toNat 0) (drow T n h w c) 0) from (by rfl)))
  have oz5 := @rdSum_i (T) (n) (h) (w) (c) ok h0 h1 w0 w1 c0 c1
  exact (VC.run (fn := Try.f78) (W := [.r [] [], .r [] [.row [i32 (n.b.getD c.toNat 0)], .n (n.b.getD c.toNat 0)], .r [] [], .code [.any (rg [(0, 2), (10, 1), (16, 6)]), .weak 11 (wO oz3), .weak 12 (i64 (↑0 : Int)), .sort] (Exit.exit 0) (zO oz5), .r [] []]) (r := i64 (accN (n.b.getD c.toNat 0) (drow T n h w c) n.nk.toNat)) Try.func78 (by kernel_rfl) (.c c0 <| .c (map_at (row1 IntKind.i32) (0) (l := n.b) (i := c.toNat) (by omega)) <| .c (IntWalk.i64_in (n.b.getD c.toNat 0) (by omega)) <| .c oz3 <| .c (Weak.int (k := .i64) (show ((0) : Int) = ((↑0 : Int)) from (by omega))) <| .c oz5 <| .n)).weak (WeakL.refl _) (Weak.int (show ((accN (n.b.getD c.toNat 0) (drow T n h w c) n.nk.toNat) : Int) = (dE T n h w c) from (by rfl)))
/-- Lists that are laid by three loops. -/
def gO (f : Nat → Nat → Nat → Int) (h w o : Nat) : List Int := (List.range o).map (f h w)
def gW (f : Nat → Nat → Nat → Int) (m h : Nat) : Nat → List Int
  | 0 => []
  | w + 1 => gW f m h w ++ gO f h w m
def gH (f : Nat → Nat → Nat → Int) (m x : Nat) : Nat → List Int
  | 0 => []
  | h + 1 => gH f m x h ++ gW f m h x
theorem gO_len (f : Nat → Nat → Nat → Int) (h w o : Nat) : (gO f h w o).length = o := by simp [gO]
theorem gO_succ (f : Nat → Nat → Nat → Int) (h w o : Nat) : gO f h w (o + 1) = gO f h w o ++ [f h w o] := by simp [gO, List.range_succ]
theorem gW_len (f : Nat → Nat → Nat → Int) (m h : Nat) : ∀ w, (gW f m h w).length = w * m
  | 0 => by simp [gW]
  | w + 1 => by rw [gW, List.length_append, gW_len f m h w, gO_len, Nat.add_mul]; omega
theorem gH_len (f : Nat → Nat → Nat → Int) (m x : Nat) : ∀ h, (gH f m x h).length = h * (x * m)
  | 0 => by simp [gH]
  | h + 1 => by rw [gH, List.length_append, gH_len f m x h, gW_len, Nat.add_mul]; omega
theorem g_len {f : Nat → Nat → Nat → Int} {m x y h w : Nat} (hh : h < y) (hw : w < x) (b : y * (x * m) ≤ 2000) : (gH f m x h).length + (gW f m h w).length + m ≤ 4000 := by
  rw [gH_len, gW_len]
  have a2 : h * (x * m) ≤ y * (x * m) := Nat.mul_le_mul_right _ (by omega)
  have a3 : (w + 1) * m ≤ x * m := Nat.mul_le_mul_right _ (by omega)
  have a4 : 1 * (x * m) ≤ y * (x * m) := Nat.mul_le_mul_right _ (by omega)
  rw [Nat.add_mul] at a3
  omega
def dF (T : Ten) (n : Nod) (h w c : Nat) : Int := IntKind.i32.wrap (dE T n h w c)
theorem dN_bd {T : Ten} {n : Nod} (nn : DpN T n) : (depthE ⟨T.h, T.x, T.c⟩ n).1.h.toNat * ((depthE ⟨T.h, T.x, T.c⟩ n).1.x.toNat * T.c.toNat) ≤ 2000 := by
  have h1 := nn.he
  have h2 := nn.xe
  have h3 := nn.c1
  have h5 := nn.el
  have : (((depthE ⟨T.h, T.x, T.c⟩ n).1.h.toNat * ((depthE ⟨T.h, T.x, T.c⟩ n).1.x.toNat * T.c.toNat) : Nat) : Int) = (depthE ⟨T.h, T.x, T.c⟩ n).1.h * (depthE ⟨T.h, T.x, T.c⟩ n).1.x * T.c := by
    rw [Int.natCast_mul, Int.natCast_mul, Int.toNat_of_nonneg (by omega), Int.toNat_of_nonneg (by omega), Int.toNat_of_nonneg (by omega), Int.mul_assoc]
  omega
noncomputable def rdOf_o_I (T : Ten) (n : Nod) (h w : Nat) (k : Nat) : VS := stt 60 [(2, .ptr 2 0 0), (3, .ptr 3 0 0), (4, .ptr 4 0 0), (6, .ptr 6 0 0), (8, .ptr 8 0 0), (9, i64 h), (10, i64 w), (11, i64 k)] [(2, .var [i64 T.h, i64 T.x, i64 T.c, ints .i8 T.d]), (3, .var (nodC n)), (4, .var [i64 0, i64 0, i64 0, nilv]), (6, .var [i64 (depthE ⟨T.h, T.x, T.c⟩ n).1.h, i64 (depthE ⟨T.h, T.x, T.c⟩ n).1.x, i64 T.c]), (8, .var [i64 (depthE ⟨T.h, T.x, T.c⟩ n).1.h, i64 (depthE ⟨T.h, T.x, T.c⟩ n).1.x, i64 T.c, .own 900]), (900, .slc 21 1 ((gH (dF T n) T.c.toNat (depthE ⟨T.h, T.x, T.c⟩ n).1.x.toNat h ++ (gW (dF T n) T.c.toNat h w ++ gO (dF T n) h w k)).map (row1 .i32)))]
noncomputable def rdOf_o_Z (T : Ten) (n : Nod) (h w : Nat) : VS := rdOf_o_I T n h w (T.c.toNat)
set_option maxRecDepth 100000 in
set_option maxHeartbeats 2000000 in
theorem rdOf_o_s (T : Ten) (n : Nod) (h w : Nat) (ok : DpOk T n) (h1 : h < (depthE ⟨T.h, T.x, T.c⟩ n).1.h.toNat) (w1 : w < (depthE ⟨T.h, T.x, T.c⟩ n).1.x.toNat) (k : Nat) (hk : k < T.c.toNat) : VT Try.prog (fnC Try.f75 [1, 1, 1, 1, 1, 0, 1, 0, 0, 1, 0, 0, 1, 0, 0, 1, 0, 0, 1, 0, 0]) (rdOf_o_I T n h w k) .normal (rdOf_o_I T n h w (k + 1)) := by
  have nn := ok.n
  have g1 := nn.he
  have g2 := nn.xe
  have g3 := nn.sc
  have g4 := nn.c1
  have g5 := nn.c2
  have g6 := g_len (f := dF T n) h1 w1 (dN_bd nn)
  have g7 := gO_len (dF T n) h w k
  have oz1 := @rdSum_v (T) (n) ((↑h : Int)) ((↑w : Int)) ((↑k : Int)) ok (by omega) (by omega) (by omega) (by omega) (by omega) (by omega)
  exact VT.run (W := [.r [] [], .br true, .r [] [.callr (rO oz1), .w], .r [] [.n ((↑k : Int) + 1)]]) (G := [.any (rg [(41, 18)]), .drop [56], .ren 57 900, .weak 11 (i64 (↑(k + 1) : Int)), .blk 900 (Blk.slc 21 1 (List.map (row1 IntKind.i32) (gH (dF T n) T.c.toNat (depthE (Shp.mk T.h T.x T.c) n).fst.x.toNat h ++ (gW (dF T n) T.c.toNat h w ++ gO (dF T n) h w (k + 1))))), .sort]) (by kernel_rfl) (.c (decide_eq_true (p := ((↑k : Int) < T.c)) (by omega)) <| .c oz1 <| .c (show ((List.map (row1 IntKind.i32) (gH (dF T n) T.c.toNat (depthE (Shp.mk T.h T.x T.c) n).fst.x.toNat h ++ (gW (dF T n) T.c.toNat h w ++ gO (dF T n) h w k))).length + 1) * 4 ≤ 140737488355328 by (simp; omega)) <| .c (show (List.map (row1 IntKind.i32) (gH (dF T n) T.c.toNat (depthE (Shp.mk T.h T.x T.c) n).fst.x.toNat h ++ (gW (dF T n) T.c.toNat h w ++ gO (dF T n) h w k))).length + 1 ≤ 9223372036854775807 by (simp; omega)) <| .c (IntWalk.i64_in ((↑k : Int) + 1) (by omega)) <| .c (Weak.int (k := .i64) (show (((↑k : Int) + 1) : Int) = ((↑(k + 1) : Int)) from (by omega))) <| .c (show BlkW (Blk.slc 21 1 (List.map (row1 IntKind.i32) (gH (dF T n) T.c.toNat (depthE (Shp.mk T.h T.x T.c) n).fst.x.toNat h ++ (gW (dF T n) T.c.toNat h w ++ gO (dF T n) h w k)) ++ [[i32 (IntKind.i32.wrap (dE T n (↑h : Int) (↑w : Int) (↑k : Int)))]])) (Blk.slc 21 1 (List.map (row1 IntKind.i32) (gH (dF T n) T.c.toNat (depthE (Shp.mk T.h T.x T.c) n).fst.x.toNat h ++ (gW (dF T n) T.c.toNat h w ++ gO (dF T n) h w (k + 1))))) from (BlkW.rows (rows_to (row1 IntKind.i32) (r := List.map (row1 IntKind.i32) (gH (dF T n) T.c.toNat (depthE (Shp.mk T.h T.x T.c) n).fst.x.toNat h ++ (gW (dF T n) T.c.toNat h w ++ gO (dF T n) h w k)) ++ [[i32 (IntKind.i32.wrap (dE T n (↑h : Int) (↑w : Int) (↑k : Int)))]]) (l := gH (dF T n) T.c.toNat (depthE (Shp.mk T.h T.x T.c) n).fst.x.toNat h ++ (gW (dF T n) T.c.toNat h w ++ gO (dF T n) h w k) ++ [IntKind.i32.wrap (dE T n (↑h : Int) (↑w : Int) (↑k : Int))]) (m := gH (dF T n) T.c.toNat (depthE (Shp.mk T.h T.x T.c) n).fst.x.toNat h ++ (gW (dF T n) T.c.toNat h w ++ gO (dF T n) h w (k + 1))) (by first | (simp only [List.map_append, List.map_cons, List.map_nil, List.map_set, List.map_replicate, List.map_take, List.map_drop]; done) | rfl | (simp only [List.map_append, List.map_cons, List.map_nil, List.map_set, List.map_replicate, List.map_take, List.map_drop]; rfl)) (show (gH (dF T n) T.c.toNat (depthE (Shp.mk T.h T.x T.c) n).fst.x.toNat h ++ (gW (dF T n) T.c.toNat h w ++ gO (dF T n) h w k) ++ [IntKind.i32.wrap (dE T n (↑h : Int) (↑w : Int) (↑k : Int))]) = (gH (dF T n) T.c.toNat (depthE (Shp.mk T.h T.x T.c) n).fst.x.toNat h ++ (gW (dF T n) T.c.toNat h w ++ gO (dF T n) h w (k + 1))) from (by (rw [gO_succ]; simp [dF])))))) <| .n)
set_option maxRecDepth 100000 in
set_option maxHeartbeats 2000000 in
theorem rdOf_o_e (T : Ten) (n : Nod) (h w : Nat) (ok : DpOk T n) (h1 : h < (depthE ⟨T.h, T.x, T.c⟩ n).1.h.toNat) (w1 : w < (depthE ⟨T.h, T.x, T.c⟩ n).1.x.toNat) : VT Try.prog (fnC Try.f75 [1, 1, 1, 1, 1, 0, 1, 0, 0, 1, 0, 0, 1, 0, 0, 1, 0, 0, 1, 0, 0]) (rdOf_o_I T n h w (T.c.toNat)) (.exit 4) (rdOf_o_Z T n h w) := by
  have nn := ok.n
  have g1 := nn.he
  have g2 := nn.xe
  have g3 := nn.sc
  have g4 := nn.c1
  have g5 := nn.c2
  exact VT.run (W := [.r [] [], .br false]) (G := [.any (rg [(41, 4)]), .sort]) (by kernel_rfl) (.c (decide_eq_false (p := ((↑T.c.toNat : Int) < T.c)) (by omega)) <| .n)
theorem rdOf_o (T : Ten) (n : Nod) (h w : Nat) (ok : DpOk T n) (h1 : h < (depthE ⟨T.h, T.x, T.c⟩ n).1.h.toNat) (w1 : w < (depthE ⟨T.h, T.x, T.c⟩ n).1.x.toNat) : VT Try.prog (fnC Try.f75 [1, 1, 1, 1, 1, 0, 1, 0, 0, 1, 0, 0, 1, 0, 0, 1, 0, 0, 1, 0]) (rdOf_o_I T n h w 0) (.exit 4) (rdOf_o_Z T n h w) :=
  VT.loop (fun k => rdOf_o_I T n h w k) (T.c.toNat) (fun k hk => rdOf_o_s T n h w ok h1 w1 k hk) (rdOf_o_e T n h w ok h1 w1) (by intro h; cases h)

noncomputable def rdOf_w_I (T : Ten) (n : Nod) (h : Nat) (k : Nat) : VS := stt 60 [(2, .ptr 2 0 0), (3, .ptr 3 0 0), (4, .ptr 4 0 0), (6, .ptr 6 0 0), (8, .ptr 8 0 0), (9, i64 h), (10, i64 k)] [(2, .var [i64 T.h, i64 T.x, i64 T.c, ints .i8 T.d]), (3, .var (nodC n)), (4, .var [i64 0, i64 0, i64 0, nilv]), (6, .var [i64 (depthE ⟨T.h, T.x, T.c⟩ n).1.h, i64 (depthE ⟨T.h, T.x, T.c⟩ n).1.x, i64 T.c]), (8, .var [i64 (depthE ⟨T.h, T.x, T.c⟩ n).1.h, i64 (depthE ⟨T.h, T.x, T.c⟩ n).1.x, i64 T.c, .own 900]), (900, .slc 21 1 ((gH (dF T n) T.c.toNat (depthE ⟨T.h, T.x, T.c⟩ n).1.x.toNat h ++ gW (dF T n) T.c.toNat h k).map (row1 .i32)))]
noncomputable def rdOf_w_Z (T : Ten) (n : Nod) (h : Nat) : VS := rdOf_w_I T n h ((depthE ⟨T.h, T.x, T.c⟩ n).1.x.toNat)
set_option maxRecDepth 100000 in
set_option maxHeartbeats 2000000 in
theorem rdOf_w_s (T : Ten) (n : Nod) (h : Nat) (ok : DpOk T n) (h1 : h < (depthE ⟨T.h, T.x, T.c⟩ n).1.h.toNat) (k : Nat) (hk : k < (depthE ⟨T.h, T.x, T.c⟩ n).1.x.toNat) : VT Try.prog (fnC Try.f75 [1, 1, 1, 1, 1, 0, 1, 0, 0, 1, 0, 0, 1, 0, 0]) (rdOf_w_I T n h k) .normal (rdOf_w_I T n h (k + 1)) := by
  have nn := ok.n
  have g1 := nn.he
  have g2 := nn.xe
  have g3 := nn.sc
  have g4 := nn.c1
  have g5 := nn.c2
  have oz3 := @rdOf_o (T) (n) (h) (k) ok h1 hk
  exact VT.run (W := [.r [] [], .br true, .r [] [], .code [.any (rg [(35, 4)]), .weak 11 (i64 (↑0 : Int)), .blk 900 (Blk.slc 21 1 (List.map (row1 IntKind.i32) (gH (dF T n) T.c.toNat (depthE (Shp.mk T.h T.x T.c) n).fst.x.toNat h ++ (gW (dF T n) T.c.toNat h k ++ gO (dF T n) h k 0)))), .sort] (Exit.exit 4) (zO oz3), .r [] [.n ((↑k : Int) + 1)]]) (G := [.any [11, 39, 40], .weak 10 (i64 (↑(k + 1) : Int)), .blk 900 (Blk.slc 21 1 (List.map (row1 IntKind.i32) (gH (dF T n) T.c.toNat (depthE (Shp.mk T.h T.x T.c) n).fst.x.toNat h ++ gW (dF T n) T.c.toNat h (k + 1)))), .sort]) (by kernel_rfl) (.c (decide_eq_true (p := ((↑k : Int) < (depthE (Shp.mk T.h T.x T.c) n).fst.x)) (by omega)) <| .c (Weak.int (k := .i64) (show ((0) : Int) = ((↑0 : Int)) from (by omega))) <| .c (show BlkW (Blk.slc 21 1 (List.map (row1 IntKind.i32) (gH (dF T n) T.c.toNat (depthE (Shp.mk T.h T.x T.c) n).fst.x.toNat h ++ gW (dF T n) T.c.toNat h k))) (Blk.slc 21 1 (List.map (row1 IntKind.i32) (gH (dF T n) T.c.toNat (depthE (Shp.mk T.h T.x T.c) n).fst.x.toNat h ++ (gW (dF T n) T.c.toNat h k ++ gO (dF T n) h k 0)))) from (BlkW.rows (rows_to (row1 IntKind.i32) (r := List.map (row1 IntKind.i32) (gH (dF T n) T.c.toNat (depthE (Shp.mk T.h T.x T.c) n).fst.x.toNat h ++ gW (dF T n) T.c.toNat h k)) (l := gH (dF T n) T.c.toNat (depthE (Shp.mk T.h T.x T.c) n).fst.x.toNat h ++ gW (dF T n) T.c.toNat h k) (m := gH (dF T n) T.c.toNat (depthE (Shp.mk T.h T.x T.c) n).fst.x.toNat h ++ (gW (dF T n) T.c.toNat h k ++ gO (dF T n) h k 0)) rfl (show (gH (dF T n) T.c.toNat (depthE (Shp.mk T.h T.x T.c) n).fst.x.toNat h ++ gW (dF T n) T.c.toNat h k) = (gH (dF T n) T.c.toNat (depthE (Shp.mk T.h T.x T.c) n).fst.x.toNat h ++ (gW (dF T n) T.c.toNat h k ++ gO (dF T n) h k 0)) from (by (simp [gO]; done)))))) <| .c oz3 <| .c (IntWalk.i64_in ((↑k : Int) + 1) (by omega)) <| .c (Weak.int (k := .i64) (show (((↑k : Int) + 1) : Int) = ((↑(k + 1) : Int)) from (by omega))) <| .c (show BlkW (Blk.slc 21 1 (List.map (row1 IntKind.i32) (gH (dF T n) T.c.toNat (depthE (Shp.mk T.h T.x T.c) n).fst.x.toNat h ++ (gW (dF T n) T.c.toNat h k ++ gO (dF T n) h k T.c.toNat)))) (Blk.slc 21 1 (List.map (row1 IntKind.i32) (gH (dF T n) T.c.toNat (depthE (Shp.mk T.h T.x T.c) n).fst.x.toNat h ++ gW (dF T n) T.c.toNat h (k + 1)))) from (BlkW.rows (rows_to (row1 IntKind.i32) (r := List.map (row1 IntKind.i32) (gH (dF T n) T.c.toNat (depthE (Shp.mk T.h T.x T.c) n).fst.x.toNat h ++ (gW (dF T n) T.c.toNat h k ++ gO (dF T n) h k T.c.toNat))) (l := gH (dF T n) T.c.toNat (depthE (Shp.mk T.h T.x T.c) n).fst.x.toNat h ++ (gW (dF T n) T.c.toNat h k ++ gO (dF T n) h k T.c.toNat)) (m := gH (dF T n) T.c.toNat (depthE (Shp.mk T.h T.x T.c) n).fst.x.toNat h ++ gW (dF T n) T.c.toNat h (k + 1)) rfl (show (gH (dF T n) T.c.toNat (depthE (Shp.mk T.h T.x T.c) n).fst.x.toNat h ++ (gW (dF T n) T.c.toNat h k ++ gO (dF T n) h k T.c.toNat)) = (gH (dF T n) T.c.toNat (depthE (Shp.mk T.h T.x T.c) n).fst.x.toNat h ++ gW (dF T n) T.c.toNat h (k + 1)) from (by rfl))))) <| .n)
set_option maxRecDepth 100000 in
set_option maxHeartbeats 2000000 in
theorem rdOf_w_e (T : Ten) (n : Nod) (h : Nat) (ok : DpOk T n) (h1 : h < (depthE ⟨T.h, T.x, T.c⟩ n).1.h.toNat) : VT Try.prog (fnC Try.f75 [1, 1, 1, 1, 1, 0, 1, 0, 0, 1, 0, 0, 1, 0, 0]) (rdOf_w_I T n h ((depthE ⟨T.h, T.x, T.c⟩ n).1.x.toNat)) (.exit 2) (rdOf_w_Z T n h) := by
  have nn := ok.n
  have g1 := nn.he
  have g2 := nn.xe
  have g3 := nn.sc
  have g4 := nn.c1
  have g5 := nn.c2
  exact VT.run (W := [.r [] [], .br false]) (G := [.any (rg [(35, 4)]), .sort]) (by kernel_rfl) (.c (decide_eq_false (p := ((↑(depthE (Shp.mk T.h T.x T.c) n).fst.x.toNat : Int) < (depthE (Shp.mk T.h T.x T.c) n).fst.x)) (by omega)) <| .n)
theorem rdOf_w (T : Ten) (n : Nod) (h : Nat) (ok : DpOk T n) (h1 : h < (depthE ⟨T.h, T.x, T.c⟩ n).1.h.toNat) : VT Try.prog (fnC Try.f75 [1, 1, 1, 1, 1, 0, 1, 0, 0, 1, 0, 0, 1, 0]) (rdOf_w_I T n h 0) (.exit 2) (rdOf_w_Z T n h) :=
  VT.loop (fun k => rdOf_w_I T n h k) ((depthE ⟨T.h, T.x, T.c⟩ n).1.x.toNat) (fun k hk => rdOf_w_s T n h ok h1 k hk) (rdOf_w_e T n h ok h1) (by intro h; cases h)

noncomputable def rdOf_h_I (T : Ten) (n : Nod) (k : Nat) : VS := stt 60 [(2, .ptr 2 0 0), (3, .ptr 3 0 0), (4, .ptr 4 0 0), (6, .ptr 6 0 0), (8, .ptr 8 0 0), (9, i64 k)] [(2, .var [i64 T.h, i64 T.x, i64 T.c, ints .i8 T.d]), (3, .var (nodC n)), (4, .var [i64 0, i64 0, i64 0, nilv]), (6, .var [i64 (depthE ⟨T.h, T.x, T.c⟩ n).1.h, i64 (depthE ⟨T.h, T.x, T.c⟩ n).1.x, i64 T.c]), (8, .var [i64 (depthE ⟨T.h, T.x, T.c⟩ n).1.h, i64 (depthE ⟨T.h, T.x, T.c⟩ n).1.x, i64 T.c, .own 900]), (900, .slc 21 1 ((gH (dF T n) T.c.toNat (depthE ⟨T.h, T.x, T.c⟩ n).1.x.toNat k).map (row1 .i32)))]
noncomputable def rdOf_h_Z (T : Ten) (n : Nod) : VS := rdOf_h_I T n ((depthE ⟨T.h, T.x, T.c⟩ n).1.h.toNat)
set_option maxRecDepth 100000 in
set_option maxHeartbeats 2000000 in
theorem rdOf_h_s (T : Ten) (n : Nod) (ok : DpOk T n) (k : Nat) (hk : k < (depthE ⟨T.h, T.x, T.c⟩ n).1.h.toNat) : VT Try.prog (fnC Try.f75 [1, 1, 1, 1, 1, 0, 1, 0, 0]) (rdOf_h_I T n k) .normal (rdOf_h_I T n (k + 1)) := by
  have nn := ok.n
  have g1 := nn.he
  have g2 := nn.xe
  have g3 := nn.sc
  have g4 := nn.c1
  have g5 := nn.c2
  have oz3 := @rdOf_w (T) (n) (k) ok hk
  exact VT.run (W := [.r [] [], .br true, .r [] [], .code [.any (rg [(29, 4)]), .weak 10 (i64 (↑0 : Int)), .blk 900 (Blk.slc 21 1 (List.map (row1 IntKind.i32) (gH (dF T n) T.c.toNat (depthE (Shp.mk T.h T.x T.c) n).fst.x.toNat k ++ gW (dF T n) T.c.toNat k 0))), .sort] (Exit.exit 2) (zO oz3), .r [] [.n ((↑k : Int) + 1)]]) (G := [.any [10, 33, 34], .weak 9 (i64 (↑(k + 1) : Int)), .blk 900 (Blk.slc 21 1 (List.map (row1 IntKind.i32) (gH (dF T n) T.c.toNat (depthE (Shp.mk T.h T.x T.c) n).fst.x.toNat (k + 1)))), .sort]) (by kernel_rfl) (.c (decide_eq_true (p := ((↑k : Int) < (depthE (Shp.mk T.h T.x T.c) n).fst.h)) (by omega)) <| .c (Weak.int (k := .i64) (show ((0) : Int) = ((↑0 : Int)) from (by omega))) <| .c (show BlkW (Blk.slc 21 1 (List.map (row1 IntKind.i32) (gH (dF T n) T.c.toNat (depthE (Shp.mk T.h T.x T.c) n).fst.x.toNat k))) (Blk.slc 21 1 (List.map (row1 IntKind.i32) (gH (dF T n) T.c.toNat (depthE (Shp.mk T.h T.x T.c) n).fst.x.toNat k ++ gW (dF T n) T.c.toNat k 0))) from (BlkW.rows (rows_to (row1 IntKind.i32) (r := List.map (row1 IntKind.i32) (gH (dF T n) T.c.toNat (depthE (Shp.mk T.h T.x T.c) n).fst.x.toNat k)) (l := gH (dF T n) T.c.toNat (depthE (Shp.mk T.h T.x T.c) n).fst.x.toNat k) (m := gH (dF T n) T.c.toNat (depthE (Shp.mk T.h T.x T.c) n).fst.x.toNat k ++ gW (dF T n) T.c.toNat k 0) rfl (show (gH (dF T n) T.c.toNat (depthE (Shp.mk T.h T.x T.c) n).fst.x.toNat k) = (gH (dF T n) T.c.toNat (depthE (Shp.mk T.h T.x T.c) n).fst.x.toNat k ++ gW (dF T n) T.c.toNat k 0) from (by (simp [gW]; done)))))) <| .c oz3 <| .c (IntWalk.i64_in ((↑k : Int) + 1) (by omega)) <| .c (Weak.int (k := .i64) (show (((↑k : Int) + 1) : Int) = ((↑(k + 1) : Int)) from (by omega))) <| .c (show BlkW (Blk.slc 21 1 (List.map (row1 IntKind.i32) (gH (dF T n) T.c.toNat (depthE (Shp.mk T.h T.x T.c) n).fst.x.toNat k ++ gW (dF T n) T.c.toNat k (depthE (Shp.mk T.h T.x T.c) n).fst.x.toNat))) (Blk.slc 21 1 (List.map (row1 IntKind.i32) (gH (dF T n) T.c.toNat (depthE (Shp.mk T.h T.x T.c) n).fst.x.toNat (k + 1)))) from (BlkW.rows (rows_to (row1 IntKind.i32) (r := List.map (row1 IntKind.i32) (gH (dF T n) T.c.toNat (depthE (Shp.mk T.h T.x T.c) n).fst.x.toNat k ++ gW (dF T n) T.c.toNat k (depthE (Shp.mk T.h T.x T.c) n).fst.x.toNat)) (l := gH (dF T n) T.c.toNat (depthE (Shp.mk T.h T.x T.c) n).fst.x.toNat k ++ gW (dF T n) T.c.toNat k (depthE (Shp.mk T.h T.x T.c) n).fst.x.toNat) (m := gH (dF T n) T.c.toNat (depthE (Shp.mk T.h T.x T.c) n).fst.x.toNat (k + 1)) rfl (show (gH (dF T n) T.c.toNat (depthE (Shp.mk T.h T.x T.c) n).fst.x.toNat k ++ gW (dF T n) T.c.toNat k (depthE (Shp.mk T.h T.x T.c) n).fst.x.toNat) = (gH (dF T n) T.c.toNat (depthE (Shp.mk T.h T.x T.c) n).fst.x.toNat (k + 1)) from (by rfl))))) <| .n)
set_option maxRecDepth 100000 in
set_option maxHeartbeats 2000000 in
theorem rdOf_h_e (T : Ten) (n : Nod) (ok : DpOk T n) : VT Try.prog (fnC Try.f75 [1, 1, 1, 1, 1, 0, 1, 0, 0]) (rdOf_h_I T n ((depthE ⟨T.h, T.x, T.c⟩ n).1.h.toNat)) (.exit 0) (rdOf_h_Z T n) := by
  have nn := ok.n
  have g1 := nn.he
  have g2 := nn.xe
  have g3 := nn.sc
  have g4 := nn.c1
  have g5 := nn.c2
  exact VT.run (W := [.r [] [], .br false]) (G := [.any (rg [(29, 4)]), .sort]) (by kernel_rfl) (.c (decide_eq_false (p := ((↑(depthE (Shp.mk T.h T.x T.c) n).fst.h.toNat : Int) < (depthE (Shp.mk T.h T.x T.c) n).fst.h)) (by omega)) <| .n)
theorem rdOf_h (T : Ten) (n : Nod) (ok : DpOk T n) : VT Try.prog (fnC Try.f75 [1, 1, 1, 1, 1, 0, 1, 0]) (rdOf_h_I T n 0) (.exit 0) (rdOf_h_Z T n) :=
  VT.loop (fun k => rdOf_h_I T n k) ((depthE ⟨T.h, T.x, T.c⟩ n).1.h.toNat) (fun k hk => rdOf_h_s T n ok k hk) (rdOf_h_e T n ok) (by intro h; cases h)

set_option maxRecDepth 100000 in
set_option maxHeartbeats 2000000 in
theorem rdOf_x (T : Ten) (n : Nod) (ok : DpOk T n) : VC Try.prog 75 ([ten .i8 T, nod n]) (.tup [ten .i32 ⟨(depthE ⟨T.h, T.x, T.c⟩ n).1.h, (depthE ⟨T.h, T.x, T.c⟩ n).1.x, (depthE ⟨T.h, T.x, T.c⟩ n).1.c, gH (dF T n) T.c.toNat (depthE ⟨T.h, T.x, T.c⟩ n).1.x.toNat (depthE ⟨T.h, T.x, T.c⟩ n).1.h.toNat⟩, i64 0]) := by
  have ok1 := ok.ok
  have okn := ok.okn
  have q2 := ok.r
  have q3 := ok.e
  have g3 := ok.n.sc
  have oz0 := @refTRight_v (T) ok1
  have oz2 := @refDepthShape_v (Shp.mk T.h T.x T.c) (n) (by (exact Shp.mk_ok ok1.h ok1.x ok1.c)) okn
  have oz7 := @rdOf_h (T) (n) ok
  exact (VC.run (fn := Try.f75) (W := [.r [] [], .r [] [.callr (rO oz0)], .br false, .r [] [.callr (rO oz2)], .r [] [], .br false, .r [] [], .r [] [], .code [.any (rg [(0, 2), (5, 1), (7, 1), (12, 3), (16, 9), (27, 2)]), .weak 9 (i64 (↑0 : Int)), .nilc 900 21 1 8 3, .blk 6 (Blk.var [i64 (depthE (Shp.mk T.h T.x T.c) n).fst.h, i64 (depthE (Shp.mk T.h T.x T.c) n).fst.x, i64 T.c]), .blk 8 (Blk.var [i64 (depthE (Shp.mk T.h T.x T.c) n).fst.h, i64 (depthE (Shp.mk T.h T.x T.c) n).fst.x, i64 T.c, AV.own 900]), .sort] (Exit.exit 0) (zO oz7), .r [] []]) (r := AV.tup [AV.agg [i64 (depthE (Shp.mk T.h T.x T.c) n).fst.h, i64 (depthE (Shp.mk T.h T.x T.c) n).fst.x, i64 T.c, AV.sl 1 (List.map (row1 IntKind.i32) (gH (dF T n) T.c.toNat (depthE (Shp.mk T.h T.x T.c) n).fst.x.toNat (depthE (Shp.mk T.h T.x T.c) n).fst.h.toNat))], i64 0]) Try.func75 (by kernel_rfl) (.c oz0 <| .c (show (!tenRight T) = false by (simp; omega)) <| .c oz2 <| .c (show ((depthE (Shp.mk T.h T.x T.c) n).snd != 0) = false by (simp; omega)) <| .c (Weak.int (k := .i64) (show ((0) : Int) = ((↑0 : Int)) from (by omega))) <| .c (show BlkW (Blk.var [i64 (depthE (Shp.mk T.h T.x T.c) n).fst.h, i64 (depthE (Shp.mk T.h T.x T.c) n).fst.x, i64 (depthE (Shp.mk T.h T.x T.c) n).fst.c]) (Blk.var [i64 (depthE (Shp.mk T.h T.x T.c) n).fst.h, i64 (depthE (Shp.mk T.h T.x T.c) n).fst.x, i64 T.c]) from (BlkW.var (.cons (.refl _) (.cons (.refl _) (.cons (Weak.int (show (((depthE (Shp.mk T.h T.x T.c) n).fst.c) : Int) = (T.c) from g3)) .nil))))) <| .c (show BlkW (Blk.var [i64 (depthE (Shp.mk T.h T.x T.c) n).fst.h, i64 (depthE (Shp.mk T.h T.x T.c) n).fst.x, i64 (depthE (Shp.mk T.h T.x T.c) n).fst.c, AV.own 900]) (Blk.var [i64 (depthE (Shp.mk T.h T.x T.c) n).fst.h, i64 (depthE (Shp.mk T.h T.x T.c) n).fst.x, i64 T.c, AV.own 900]) from (BlkW.var (.cons (.refl _) (.cons (.refl _) (.cons (Weak.int (show (((depthE (Shp.mk T.h T.x T.c) n).fst.c) : Int) = (T.c) from g3)) (.cons (.refl _) .nil)))))) <| .c oz7 <| .n)).weak (WeakL.refl _) (Weak.tup (.cons (Weak.agg (.cons (.refl _) (.cons (.refl _) (.cons (Weak.int (show ((T.c) : Int) = ((depthE (Shp.mk T.h T.x T.c) n).fst.c) from (by omega))) (.cons (.refl _) .nil))))) (.cons (.refl _) .nil)))
end Go.Proofs.Ytgecmooedhnenaa

