/- Texts of this claim, put together: Base, At, Times, Shape, FixP, Core, Fin, Elems, Open, Rdr, RtA, St2, KnA, Gs, RtB, RtC, RtK, RtW. No condition. -/
import Derived.Handy
import Derived.ScopeJumps
import Derived.OwnWalk
import Derived.Test.YtdmkhinckljddaaGreatDoorProg
import Derived.WalkKit
import Derived.Below
import Derived.LoopTactic
import Derived.RegionTactic
import Derived.ChangeAlike
import Derived.BigRegion
import Derived.Deep.QuietTactic
import Derived.BigQuiet
import Derived.Lib.Hide
import Derived.WalkSpells
import Derived.WalkLawsBesides
import Derived.WalkSmall
import Derived.Laws.BytesString
import Derived.Laws.IdiomStrings
import Derived.Laws.BitsAllLaws
import Derived.Laws.AppendOwnNone
import Derived.PlainAid
import Derived.Laws.Tables
import Derived.Laws.CopyOwn
import Derived.Deep.WholeRow
import Derived.Laws.ResultCell
import Derived.Shelf.Bits.Mul64
import Derived.Deep.Slices
import Derived.ProofKit
import Derived.OpenShut
import Derived.ShutString
import Derived.ChangeOld
import Derived.Shelf.Strings.OnBuilder
import Derived.Shelf.LaysM
import Derived.Shelf.Strconv.Itoa3
import Derived.Test.YtdmkhinckljddaaGreatDoorReportWordsG2
set_option linter.unusedVariables false
set_option linter.unusedSimpArgs false
set_option linter.unnecessarySimpa false
/- Words that all texts of this seat share: a slice that reads as a list of values, and how that reading is kept. No condition. -/
namespace Go.Proofs.YtdmkhinckljddaaGreatDoor
open Go.RowKit

theorem ret_int {k : IntKind} {a b : Int} (h : a = b) : Ending.returned (.int k a) = .returned (.int k b) := by rw [h]
/-- A goal at which the walk is to stand still: 'go_wp2_with (at_builtin; refine hold ?_)', then 'refine unheld ?_'. -/
def Held (p : Prop) : Prop := p
theorem hold {p : Prop} (h : Held p) : p := h
theorem unheld {p : Prop} (h : p) : Held p := h

theorem add_off (b off j : Nat) : (⟨b, off, none⟩ : Addr).add j = ⟨b, off + j, none⟩ := by unfold Addr.add; split <;> simp_all

theorem wf_i64 {n : Int} (h : (Lit.int .i64 n).wf = true) : -9223372036854775808 ≤ n ∧ n ≤ 9223372036854775807 := by
  simp only [Lit.wf, IntKind.min, IntKind.max, IntKind.signed, IntKind.bits, Bool.and_eq_true, decide_eq_true_eq] at h; simp at h; omega
theorem wf_i32 {n : Int} (h : (Lit.int .i32 n).wf = true) : -2147483648 ≤ n ∧ n ≤ 2147483647 := by
  simp only [Lit.wf, IntKind.min, IntKind.max, IntKind.signed, IntKind.bits, Bool.and_eq_true] at h; simp at h; omega
theorem wf_i8 {n : Int} (h : (Lit.int .i8 n).wf = true) : -128 ≤ n ∧ n ≤ 127 := by
  simp only [Lit.wf, IntKind.min, IntKind.max, IntKind.signed, IntKind.bits, Bool.and_eq_true] at h; simp at h; omega

end Go.Proofs.YtdmkhinckljddaaGreatDoor

/- A block whose cells are all known. No condition. -/
namespace Go.Proofs.YtdmkhinckljddaaGreatDoor
open Go.RowKit

/-- Block g holds the cells cs, of type t, none of them frozen. -/
def At (w : World) (g : Nat) (t : TypeId) (cs : Array Value) : Prop := w.heap[g]? = some (.cells cs t (0, 0))

theorem At.cell {w : World} {g : Nat} {t : TypeId} {cs : Array Value} (h : At w g t cs) (i : Nat) : w.cell? ⟨g, i, none⟩ = cs[i]? := by
  unfold At at h; simp [World.cell?, h]
theorem At.new (w : World) (t : TypeId) (cs : Array Value) : At (w.alloc (.cells cs t)) w.heap.size t cs := by
  show (w.heap.push _)[w.heap.size]? = _
  simp
end Go.Proofs.YtdmkhinckljddaaGreatDoor

/- Products that fit, and how many numbers a shape has. No condition. -/
namespace Go.Proofs.YtdmkhinckljddaaGreatDoor
open Go.RowKit

set_option maxHeartbeats 1000000 in
theorem mul64_any (x y : Nat) (hx : x < 18446744073709551616) (hy : y < 18446744073709551616) (w : World) :
    Calls Tryz.prog 138 #[.int .u64 x, .int .u64 y] w fun e w' => e = .returned (.tuple #[.int .u64 ((x * y / 18446744073709551616 : Nat) : Int), .int .u64 ((x * y % 18446744073709551616 : Nat) : Int)]) ∧ w' = w := by
  obtain ⟨bd, bt, bw, hhi⟩ := Lib.mul64_hi x y hx hy
  have ba := Lib.half_mul_le (a := x / 4294967296) (b := y / 4294967296) (by omega) (by omega)
  have bb := Lib.half_mul_le (a := x / 4294967296) (b := y % 4294967296) (by omega) (by omega)
  have bc := Lib.half_mul_le (a := x % 4294967296) (b := y / 4294967296) (by omega) (by omega)
  have ba' : x / 4294967296 * (y / 4294967296) < 18446744073709551616 := by omega
  have bb' : x / 4294967296 * (y % 4294967296) < 18446744073709551616 := by omega
  have bc' : x % 4294967296 * (y / 4294967296) < 18446744073709551616 := by omega
  have bh1 : x / 4294967296 * (y / 4294967296) + (x / 4294967296 * (y % 4294967296) + x % 4294967296 * (y % 4294967296) / 4294967296) / 4294967296 < 18446744073709551616 := by omega
  have bh : x / 4294967296 * (y / 4294967296) + (x / 4294967296 * (y % 4294967296) + x % 4294967296 * (y % 4294967296) / 4294967296) / 4294967296 + ((x / 4294967296 * (y % 4294967296) + x % 4294967296 * (y % 4294967296) / 4294967296) % 4294967296 + x % 4294967296 * (y / 4294967296)) / 4294967296 < 18446744073709551616 := by omega
  go_enter Tryz.func138, Tryz.ntmps138
  go_wp2
  simp only [Mul64.maskN x hx, Mul64.maskN y hy, Mul64.divN, Mul64.mulN, Mul64.addN, Mul64.wrapN _ bd, Mul64.wrapN _ bb', Mul64.wrapN _ bt, Mul64.maskN _ bt, Mul64.wrapN _ bc', Mul64.wrapN _ bw, Mul64.wrapN _ ba', Mul64.wrapN _ bh1, Mul64.wrapN _ bh, Mul64.wrapM (x * y)]
  rw [hhi]
  go_ret2
  exact ⟨rfl, rfl⟩

set_option maxHeartbeats 400000 in
theorem satSize_any (a : Int) (w : World) (a0 : -9223372036854775808 ≤ a) (a1 : a ≤ 9223372036854775807) :
    Calls Tryz.prog 139 #[.int .i64 a] w fun e w' => e = .returned (.int .u64 ((a.natAbs : Nat) : Int)) ∧ w = w' := by
  by_cases h : a < 0
  · go_enter Tryz.func139, Tryz.ntmps139
    go_wp2
    go_ret
    refine ⟨ret_int ?_, rfl⟩
    rw [IntKind.wrap_u64, IntKind.wrap_u64]; omega
  · have h' : 0 ≤ a := by omega
    go_enter Tryz.func139, Tryz.ntmps139
    go_wp2
    go_ret
    refine ⟨ret_int ?_, rfl⟩
    omega

theorem abs_sign (a b : Int) : (((a < 0) = (b < 0)) → a * b = ((a.natAbs * b.natAbs : Nat) : Int)) ∧ ((¬ (a < 0) = (b < 0)) → a * b = -((a.natAbs * b.natAbs : Nat) : Int)) := by
  rw [Int.natCast_mul]
  rcases Int.lt_or_le a 0 with ha | ha <;> rcases Int.lt_or_le b 0 with hb | hb
  · rw [show ((a.natAbs : Nat) : Int) = -a by omega, show ((b.natAbs : Nat) : Int) = -b by omega, Int.neg_mul_neg]
    exact ⟨fun _ => rfl, fun h => absurd (by simp [ha, hb]) h⟩
  · rw [show ((a.natAbs : Nat) : Int) = -a by omega, show ((b.natAbs : Nat) : Int) = b by omega, Int.neg_mul, Int.neg_neg]
    exact ⟨fun h => by simp [ha] at h; omega, fun _ => rfl⟩
  · rw [show ((a.natAbs : Nat) : Int) = a by omega, show ((b.natAbs : Nat) : Int) = -b by omega, Int.mul_neg, Int.neg_neg]
    exact ⟨fun h => by simp [hb] at h; omega, fun _ => rfl⟩
  · rw [show ((a.natAbs : Nat) : Int) = a by omega, show ((b.natAbs : Nat) : Int) = b by omega]
    exact ⟨fun _ => rfl, fun h => absurd (by simp [show ¬ a < 0 by omega, show ¬ b < 0 by omega]) h⟩

set_option maxHeartbeats 1600000 in
set_option maxRecDepth 100000 in
theorem times_any (a b : Int) (w : World) (a0 : -9223372036854775808 ≤ a) (a1 : a ≤ 9223372036854775807) (b0 : -9223372036854775808 ≤ b) (b1 : b ≤ 9223372036854775807) :
    Calls Tryz.prog 126 #[.int .i64 a, .int .i64 b] w fun e w' => ∃ q r, e = .returned (.tuple #[.int .i64 q, .bool r]) ∧ ((r = true ∧ q = a * b ∧ -9223372036854775808 ≤ a * b ∧ a * b ≤ 9223372036854775807) ∨ (r = false ∧ (a * b < -9223372036854775808 ∨ 9223372036854775807 < a * b))) ∧ w = w' := by
  obtain ⟨hs1, hs2⟩ := abs_sign a b
  obtain ⟨x, hx⟩ : ∃ x, x = a.natAbs := ⟨_, rfl⟩
  obtain ⟨y, hy⟩ : ∃ y, y = b.natAbs := ⟨_, rfl⟩
  have hxb : x < 18446744073709551616 := by omega
  have hyb : y < 18446744073709551616 := by omega
  rw [← hx, ← hy] at hs1 hs2
  obtain ⟨m, hm⟩ : ∃ m, m = a * b := ⟨_, rfl⟩
  rw [← hm] at hs1 hs2 ⊢
  obtain ⟨H, hH⟩ : ∃ H, H = x * y / 18446744073709551616 := ⟨_, rfl⟩
  obtain ⟨L, hL⟩ : ∃ L, L = x * y % 18446744073709551616 := ⟨_, rfl⟩
  have hp : x * y = 18446744073709551616 * H + L := by rw [hH, hL]; exact (Nat.div_add_mod _ _).symm
  have hLb : L < 18446744073709551616 := by rw [hL]; exact Nat.mod_lt _ (by decide)
  have hM := Lib.hid (mul64_any x y hxb hyb w)
  rw [← hH, ← hL] at hM
  have hS1 := Lib.hid (satSize_any a w a0 a1)
  have hS2 := Lib.hid (satSize_any b w b0 b1)
  rw [← hx] at hS1
  rw [← hy] at hS2
  rw [hp] at hs1 hs2
  have K1 := Lib.hid hs1; have K2 := Lib.hid hs2
  clear hs1 hs2 hp hH hL hm hx hy
  by_cases h1 : H = 0
  · subst h1
    have e1 : (((0 : Nat) : Int) != 0) = false := rfl
    have e1' : (((0 : Nat) : Int) == 0) = true := rfl
    rcases Int.lt_or_le a 0 with ha | ha <;> rcases Int.lt_or_le b 0 with hb | hb
    · skip
      have da : decide (a < 0) = true := by rw [decide_eq_true_eq]; omega
      have db : decide (b < 0) = true := by rw [decide_eq_true_eq]; omega
      have hm := K1.out (by simp only [eq_iff_iff]; omega)
      by_cases hL : L ≤ 9223372036854775807
      · have d1 : decide ((9223372036854775808 : Int) < (L : Int)) = false := by rw [decide_eq_false_iff_not]; omega
        have d2 : ((L : Int) == 9223372036854775808) = false := by rw [beq_eq_false_iff_ne]; omega
        go_enter Tryz.func126, Tryz.ntmps126
        go_wp2_with fail
        refine hS1.out.mono ?_
        rintro e w' ⟨rfl, rfl⟩
        go_wp2_with fail
        refine hS2.out.mono ?_
        rintro e w' ⟨rfl, rfl⟩
        go_wp2_with fail
        refine hM.out.mono ?_
        rintro e w' ⟨rfl, rfl⟩
        go_wp2_with fail
        go_ret2
        refine ⟨_, true, rfl, .inl ⟨rfl, ?_, ?_, ?_⟩, rfl⟩ <;> first | omega | (simp [wrap64]; omega)
      · by_cases hL2 : L = 9223372036854775808
        · subst hL2
          have d1 : decide ((9223372036854775808 : Int) < ((9223372036854775808 : Nat) : Int)) = false := by decide
          have d2 : (((9223372036854775808 : Nat) : Int) == 9223372036854775808) = true := by decide
          go_enter Tryz.func126, Tryz.ntmps126
          go_wp2_with fail
          refine hS1.out.mono ?_
          rintro e w' ⟨rfl, rfl⟩
          go_wp2_with fail
          refine hS2.out.mono ?_
          rintro e w' ⟨rfl, rfl⟩
          go_wp2_with fail
          refine hM.out.mono ?_
          rintro e w' ⟨rfl, rfl⟩
          go_wp2_with fail
          go_ret2
          exact ⟨_, _, rfl, .inr ⟨rfl, by omega⟩, rfl⟩
        · have d1 : decide ((9223372036854775808 : Int) < (L : Int)) = true := by rw [decide_eq_true_eq]; omega
          go_enter Tryz.func126, Tryz.ntmps126
          go_wp2_with fail
          refine hS1.out.mono ?_
          rintro e w' ⟨rfl, rfl⟩
          go_wp2_with fail
          refine hS2.out.mono ?_
          rintro e w' ⟨rfl, rfl⟩
          go_wp2_with fail
          refine hM.out.mono ?_
          rintro e w' ⟨rfl, rfl⟩
          go_wp2_with fail
          go_ret2
          exact ⟨_, _, rfl, .inr ⟨rfl, by omega⟩, rfl⟩
    · skip
      have da : decide (a < 0) = true := by rw [decide_eq_true_eq]; omega
      have db : decide (b < 0) = false := by rw [decide_eq_false_iff_not]; omega
      have hm := K2.out (by simp only [eq_iff_iff]; omega)
      by_cases hL : L ≤ 9223372036854775807
      · have d1 : decide ((9223372036854775808 : Int) < (L : Int)) = false := by rw [decide_eq_false_iff_not]; omega
        have d2 : ((L : Int) == 9223372036854775808) = false := by rw [beq_eq_false_iff_ne]; omega
        go_enter Tryz.func126, Tryz.ntmps126
        go_wp2_with fail
        refine hS1.out.mono ?_
        rintro e w' ⟨rfl, rfl⟩
        go_wp2_with fail
        refine hS2.out.mono ?_
        rintro e w' ⟨rfl, rfl⟩
        go_wp2_with fail
        refine hM.out.mono ?_
        rintro e w' ⟨rfl, rfl⟩
        go_wp2_with fail
        go_ret2
        refine ⟨_, true, rfl, .inl ⟨rfl, ?_, ?_, ?_⟩, rfl⟩ <;> first | omega | (simp only [IntKind.wrap_u64]; unfold wrap64; omega)
      · by_cases hL2 : L = 9223372036854775808
        · subst hL2
          have d1 : decide ((9223372036854775808 : Int) < ((9223372036854775808 : Nat) : Int)) = false := by decide
          have d2 : (((9223372036854775808 : Nat) : Int) == 9223372036854775808) = true := by decide
          go_enter Tryz.func126, Tryz.ntmps126
          go_wp2_with fail
          refine hS1.out.mono ?_
          rintro e w' ⟨rfl, rfl⟩
          go_wp2_with fail
          refine hS2.out.mono ?_
          rintro e w' ⟨rfl, rfl⟩
          go_wp2_with fail
          refine hM.out.mono ?_
          rintro e w' ⟨rfl, rfl⟩
          go_wp2_with fail
          go_ret2
          refine ⟨_, true, rfl, .inl ⟨rfl, ?_, ?_, ?_⟩, rfl⟩ <;> first | omega | (rw [IntKind.wrap_u64]; unfold wrap64; omega)
        · have d1 : decide ((9223372036854775808 : Int) < (L : Int)) = true := by rw [decide_eq_true_eq]; omega
          go_enter Tryz.func126, Tryz.ntmps126
          go_wp2_with fail
          refine hS1.out.mono ?_
          rintro e w' ⟨rfl, rfl⟩
          go_wp2_with fail
          refine hS2.out.mono ?_
          rintro e w' ⟨rfl, rfl⟩
          go_wp2_with fail
          refine hM.out.mono ?_
          rintro e w' ⟨rfl, rfl⟩
          go_wp2_with fail
          go_ret2
          exact ⟨_, _, rfl, .inr ⟨rfl, by omega⟩, rfl⟩
    · skip
      have da : decide (a < 0) = false := by rw [decide_eq_false_iff_not]; omega
      have db : decide (b < 0) = true := by rw [decide_eq_true_eq]; omega
      have hm := K2.out (by simp only [eq_iff_iff]; omega)
      by_cases hL : L ≤ 9223372036854775807
      · have d1 : decide ((9223372036854775808 : Int) < (L : Int)) = false := by rw [decide_eq_false_iff_not]; omega
        have d2 : ((L : Int) == 9223372036854775808) = false := by rw [beq_eq_false_iff_ne]; omega
        go_enter Tryz.func126, Tryz.ntmps126
        go_wp2_with fail
        refine hS1.out.mono ?_
        rintro e w' ⟨rfl, rfl⟩
        go_wp2_with fail
        refine hS2.out.mono ?_
        rintro e w' ⟨rfl, rfl⟩
        go_wp2_with fail
        refine hM.out.mono ?_
        rintro e w' ⟨rfl, rfl⟩
        go_wp2_with fail
        go_ret2
        refine ⟨_, true, rfl, .inl ⟨rfl, ?_, ?_, ?_⟩, rfl⟩ <;> first | omega | (simp only [IntKind.wrap_u64]; unfold wrap64; omega)
      · by_cases hL2 : L = 9223372036854775808
        · subst hL2
          have d1 : decide ((9223372036854775808 : Int) < ((9223372036854775808 : Nat) : Int)) = false := by decide
          have d2 : (((9223372036854775808 : Nat) : Int) == 9223372036854775808) = true := by decide
          go_enter Tryz.func126, Tryz.ntmps126
          go_wp2_with fail
          refine hS1.out.mono ?_
          rintro e w' ⟨rfl, rfl⟩
          go_wp2_with fail
          refine hS2.out.mono ?_
          rintro e w' ⟨rfl, rfl⟩
          go_wp2_with fail
          refine hM.out.mono ?_
          rintro e w' ⟨rfl, rfl⟩
          go_wp2_with fail
          go_ret2
          refine ⟨_, true, rfl, .inl ⟨rfl, ?_, ?_, ?_⟩, rfl⟩ <;> first | omega | (rw [IntKind.wrap_u64]; unfold wrap64; omega)
        · have d1 : decide ((9223372036854775808 : Int) < (L : Int)) = true := by rw [decide_eq_true_eq]; omega
          go_enter Tryz.func126, Tryz.ntmps126
          go_wp2_with fail
          refine hS1.out.mono ?_
          rintro e w' ⟨rfl, rfl⟩
          go_wp2_with fail
          refine hS2.out.mono ?_
          rintro e w' ⟨rfl, rfl⟩
          go_wp2_with fail
          refine hM.out.mono ?_
          rintro e w' ⟨rfl, rfl⟩
          go_wp2_with fail
          go_ret2
          exact ⟨_, _, rfl, .inr ⟨rfl, by omega⟩, rfl⟩
    · skip
      have da : decide (a < 0) = false := by rw [decide_eq_false_iff_not]; omega
      have db : decide (b < 0) = false := by rw [decide_eq_false_iff_not]; omega
      have hm := K1.out (by simp only [eq_iff_iff]; omega)
      by_cases hL : L ≤ 9223372036854775807
      · have d1 : decide ((9223372036854775808 : Int) < (L : Int)) = false := by rw [decide_eq_false_iff_not]; omega
        have d2 : ((L : Int) == 9223372036854775808) = false := by rw [beq_eq_false_iff_ne]; omega
        go_enter Tryz.func126, Tryz.ntmps126
        go_wp2_with fail
        refine hS1.out.mono ?_
        rintro e w' ⟨rfl, rfl⟩
        go_wp2_with fail
        refine hS2.out.mono ?_
        rintro e w' ⟨rfl, rfl⟩
        go_wp2_with fail
        refine hM.out.mono ?_
        rintro e w' ⟨rfl, rfl⟩
        go_wp2_with fail
        go_ret2
        refine ⟨_, true, rfl, .inl ⟨rfl, ?_, ?_, ?_⟩, rfl⟩ <;> first | omega | (simp [wrap64]; omega)
      · by_cases hL2 : L = 9223372036854775808
        · subst hL2
          have d1 : decide ((9223372036854775808 : Int) < ((9223372036854775808 : Nat) : Int)) = false := by decide
          have d2 : (((9223372036854775808 : Nat) : Int) == 9223372036854775808) = true := by decide
          go_enter Tryz.func126, Tryz.ntmps126
          go_wp2_with fail
          refine hS1.out.mono ?_
          rintro e w' ⟨rfl, rfl⟩
          go_wp2_with fail
          refine hS2.out.mono ?_
          rintro e w' ⟨rfl, rfl⟩
          go_wp2_with fail
          refine hM.out.mono ?_
          rintro e w' ⟨rfl, rfl⟩
          go_wp2_with fail
          go_ret2
          exact ⟨_, _, rfl, .inr ⟨rfl, by omega⟩, rfl⟩
        · have d1 : decide ((9223372036854775808 : Int) < (L : Int)) = true := by rw [decide_eq_true_eq]; omega
          go_enter Tryz.func126, Tryz.ntmps126
          go_wp2_with fail
          refine hS1.out.mono ?_
          rintro e w' ⟨rfl, rfl⟩
          go_wp2_with fail
          refine hS2.out.mono ?_
          rintro e w' ⟨rfl, rfl⟩
          go_wp2_with fail
          refine hM.out.mono ?_
          rintro e w' ⟨rfl, rfl⟩
          go_wp2_with fail
          go_ret2
          exact ⟨_, _, rfl, .inr ⟨rfl, by omega⟩, rfl⟩
  · have e1 : ((H : Int) != 0) = true := by rw [bne_iff_ne]; omega
    have e1' : ((H : Int) == 0) = false := by rw [beq_eq_false_iff_ne]; omega
    have hbig : m < -9223372036854775808 ∨ 9223372036854775807 < m := by
      by_cases h : (a < 0) = (b < 0)
      · have := K1.out h; omega
      · have := K2.out h; omega
    clear h1
    go_enter Tryz.func126, Tryz.ntmps126
    go_wp2_with fail
    refine hS1.out.mono ?_
    rintro e w' ⟨rfl, rfl⟩
    go_wp2_with fail
    refine hS2.out.mono ?_
    rintro e w' ⟨rfl, rfl⟩
    go_wp2_with fail
    refine hM.out.mono ?_
    rintro e w' ⟨rfl, rfl⟩
    go_wp2_with fail
    go_ret2
    exact ⟨_, _, rfl, .inr ⟨rfl, hbig⟩, rfl⟩
end Go.Proofs.YtdmkhinckljddaaGreatDoor

/- How many numbers a shape has, by the program and by the document. No condition. -/
namespace Go.Proofs.YtdmkhinckljddaaGreatDoor
open Go.RowKit

/-- How many numbers a shape has; 0: it may not be. -/
def elems (h w c : Int) : Int := if 1 ≤ h ∧ h ≤ 16 ∧ 1 ≤ w ∧ w ≤ 16 ∧ 1 ≤ c ∧ c ≤ 1024 ∧ h * w * c ≤ 1024 then h * w * c else 0
/-- A product step by step: 1 ≤ side, and never above 1024. -/
def prodTo : List Int → Int → Option Int
  | [], n => some n
  | x :: l, n => if 1 ≤ x ∧ n * x ≤ 1024 then prodTo l (n * x) else none
theorem prodTo_elems (h w c : Int) (h16 : h ≤ 16) (w16 : w ≤ 16) : (prodTo [h, w, c] 1).getD 0 = elems h w c := by
  unfold elems
  simp only [prodTo, Int.one_mul]
  by_cases h1 : 1 ≤ h
  · by_cases w1 : 1 ≤ w
    · by_cases c1 : 1 ≤ c
      · have p1 : 1 ≤ h * w := by have := Int.mul_le_mul h1 w1 (by omega) (by omega); simpa using this
        have p2 : c ≤ h * w * c := by have := Int.mul_le_mul_of_nonneg_right p1 (show 0 ≤ c by omega); simpa using this
        have p3 : h * w ≤ h * w * c := by have := Int.mul_le_mul_of_nonneg_left c1 (show 0 ≤ h * w by omega); simpa using this
        by_cases hp : h * w * c ≤ 1024
        · rw [if_pos ⟨h1, by omega⟩, if_pos ⟨w1, by omega⟩, if_pos ⟨c1, hp⟩, if_pos ⟨h1, h16, w1, w16, c1, by omega, hp⟩]; rfl
        · rw [if_neg (c := 1 ≤ h ∧ h ≤ 16 ∧ _) (fun x => hp x.2.2.2.2.2.2)]
          split
          · split
            · rw [if_neg (fun x => hp x.2)]; rfl
            · rfl
          · rfl
      · rw [if_neg (c := 1 ≤ h ∧ h ≤ 16 ∧ _) (fun x => c1 x.2.2.2.2.1)]
        split
        · split
          · rw [if_neg (fun x => c1 x.1)]; rfl
          · rfl
        · rfl
    · rw [if_neg (c := 1 ≤ h ∧ h ≤ 16 ∧ _) (fun x => w1 x.2.2.1)]
      split
      · rw [if_neg (fun x => w1 x.1)]; rfl
      · rfl
  · rw [if_neg (c := 1 ≤ h ∧ h ≤ 16 ∧ _) (fun x => h1 x.1), if_neg (fun x => h1 x.1)]; rfl

set_option maxHeartbeats 1600000 in
set_option maxRecDepth 100000 in
theorem product_any (x y z : Int) (w : World) (x0 : -9223372036854775808 ≤ x) (x1 : x ≤ 9223372036854775807) (y0 : -9223372036854775808 ≤ y) (y1 : y ≤ 9223372036854775807) (z0 : -9223372036854775808 ≤ z) (z1 : z ≤ 9223372036854775807) :
    Calls Tryz.prog 101 #[.agg #[.int .i64 x, .int .i64 y, .int .i64 z]] w fun e w' => e = .returned (.int .i64 ((prodTo [x, y, z] 1).getD 0)) ∧ Below w.heap.size w w' := by
  go_enter Tryz.func101, Tryz.ntmps101
  go_wp2_with fail
  obtain ⟨w1, hw1⟩ : ∃ w1, w1 = w.alloc (.cells #[.int .i64 x, .int .i64 y, .int .i64 z] 179) := ⟨_, rfl⟩
  have ha := At.new w 179 #[.int .i64 x, .int .i64 y, .int .i64 z]
  have hb1 : Below w.heap.size w w1 := by rw [hw1]; exact (Below.refl _ _).alloc (Nat.le_refl _) _
  rw [← hw1] at ha ⊢
  clear hw1
  go_loop [2, 3, 4, 5, 6, 7] (fun r n _ _ _ i => ∃ (k : Nat) (N : Int), r = .int .i64 0 ∧ i = .int .i64 k ∧ k ≤ 3 ∧ n = .int .i64 N ∧ 1 ≤ N ∧ N ≤ 1024 ∧ prodTo ([x, y, z].drop k) N = prodTo [x, y, z] 1) (fun _ _ _ _ _ i => 3 - (intOf i).toNat)
  case atStart => exact ⟨0, 1, rfl, rfl, by omega, rfl, by omega, by omega, rfl⟩
  case round =>
    obtain ⟨k, N, rfl, rfl, hk, rfl, N0, N1, hp⟩ := hrel
    by_cases hlt : k < 3
    · obtain ⟨v, hv, v0, v1, hd⟩ : ∃ v, w1.cell? ⟨w.heap.size, k, none⟩ = some (.int .i64 v) ∧ -9223372036854775808 ≤ v ∧ v ≤ 9223372036854775807 ∧ [x, y, z].drop k = v :: [x, y, z].drop (k + 1) := by
        match k, hlt with
        | 0, _ => exact ⟨x, ha.cell 0, x0, x1, rfl⟩
        | 1, _ => exact ⟨y, ha.cell 1, y0, y1, rfl⟩
        | 2, _ => exact ⟨z, ha.cell 2, z0, z1, rfl⟩
      rw [hd] at hp
      have HP := Lib.hid hp
      have kk0 : (0 : Int) ≤ (k : Int) := by omega
      have kk1 : (k : Int) < 3 := by omega
      clear hp hd
      go_wp2_with fail
      refine (times_any N v _ (by omega) (by omega) v0 v1).mono ?_
      rintro e w' ⟨q, r, rfl, hqr, rfl⟩
      rcases hqr with ⟨rfl, rfl, q0, q1⟩ | ⟨rfl, hq⟩
      · by_cases hv1 : v < 1
        · have HN : Hid ((prodTo [x, y, z] 1).getD 0 = 0) := by
            refine Lib.hid ?_
            rw [← HP.out]; simp only [prodTo]; rw [if_neg (by omega)]; rfl
          go_wp2_with fail
          go_ret
          exact ⟨by rw [HN.out]; rfl, hb1⟩
        · by_cases hb : 1024 < N * v
          · have HN : Hid ((prodTo [x, y, z] 1).getD 0 = 0) := by
              refine Lib.hid ?_
              rw [← HP.out]; simp only [prodTo]; rw [if_neg (by omega)]; rfl
            go_wp2_with fail
            go_ret
            exact ⟨by rw [HN.out]; rfl, hb1⟩
          · have hpos : 1 ≤ N * v := by have := Int.mul_le_mul N0 (show 1 ≤ v by omega) (by omega) (by omega); simpa using this
            go_wp2_with fail
            go_round
            case rel => exact ⟨k + 1, N * v, rfl, by go_num, by omega, rfl, hpos, by omega, by rw [← HP.out]; simp only [prodTo]; rw [if_pos (by omega)]⟩
            case measure => simp [intOf]; omega
      · have HN : Hid ((prodTo [x, y, z] 1).getD 0 = 0) := by
          refine Lib.hid ?_
          rw [← HP.out]; simp only [prodTo]; rw [if_neg ?_]; rfl
          intro hh
          have : 0 ≤ N * v := Int.mul_nonneg (by omega) (by omega)
          omega
        go_wp2_with fail
        go_ret
        exact ⟨by rw [HN.out]; rfl, hb1⟩
    · obtain rfl : k = 3 := by omega
      have hp' : some N = prodTo [x, y, z] 1 := hp
      have HN : Hid ((prodTo [x, y, z] 1).getD 0 = N) := by refine Lib.hid ?_; rw [← hp']; rfl
      clear hp hp'
      go_wp2_with fail
      go_ret
      exact ⟨by rw [HN.out]; rfl, hb1⟩

set_option maxHeartbeats 800000 in
set_option maxRecDepth 100000 in
theorem elems_any (h x c : Int) (w : World) (h0 : -9223372036854775808 ≤ h) (h1 : h ≤ 9223372036854775807) (x0 : -9223372036854775808 ≤ x) (x1 : x ≤ 9223372036854775807) (c0 : -9223372036854775808 ≤ c) (c1 : c ≤ 9223372036854775807) :
    Calls Tryz.prog 85 #[.agg #[.int .i64 h, .int .i64 x, .int .i64 c]] w fun e w' => e = .returned (.int .i64 (elems h x c)) ∧ Below w.heap.size w w' := by
  by_cases hh : 16 < h
  · have HE : Hid (elems h x c = 0) := by refine Lib.hid ?_; unfold elems; rw [if_neg (by omega)]
    go_enter Tryz.func85, Tryz.ntmps85
    go_wp2
    go_ret
    exact ⟨by rw [HE.out]; rfl, (Below.refl _ _).alloc (Nat.le_refl _) _⟩
  · by_cases hx : 16 < x
    · have HE : Hid (elems h x c = 0) := by refine Lib.hid ?_; unfold elems; rw [if_neg (by omega)]
      go_enter Tryz.func85, Tryz.ntmps85
      go_wp2
      go_ret
      exact ⟨by rw [HE.out]; rfl, (Below.refl _ _).alloc (Nat.le_refl _) _⟩
    · have HE := Lib.hid (prodTo_elems h x c (by omega) (by omega))
      go_enter Tryz.func85, Tryz.ntmps85
      go_wp2_with fail
      refine (product_any h x c _ h0 h1 x0 x1 c0 c1).mono ?_
      rintro e w' ⟨rfl, hb⟩
      rw [HE.out]
      go_wp2
      go_ret
      exact ⟨rfl, ((Below.refl _ _).alloc (Nat.le_refl _) _).trans (hb.mono (by simp))⟩

end Go.Proofs.YtdmkhinckljddaaGreatDoor

/- Plain laws of numbers by powers of two, rounded to the nearest, halves away from 0. No program here. No condition. -/
namespace Go.Proofs.YtdmkhinckljddaaGreatDoor

/-- A number by 2 to the s, to the nearest, halves up. -/
def rn (m s : Nat) : Nat := if s = 0 then m else m / 2 ^ s + m / 2 ^ (s - 1) % 2
end Go.Proofs.YtdmkhinckljddaaGreatDoor

/- Scalar functions in the words of values; tensors and nodes. No condition. -/
namespace Go.Proofs.YtdmkhinckljddaaGreatDoor
open Go.RowKit

abbrev In64 (n : Int) : Prop := -9223372036854775808 ≤ n ∧ n ≤ 9223372036854775807
abbrev In32 (n : Int) : Prop := -2147483648 ≤ n ∧ n ≤ 2147483647
abbrev In8 (n : Int) : Prop := -128 ≤ n ∧ n ≤ 127
structure Nod where
  kd : Int
  na : Int
  nb : Int
  nk : Int
  ns : Int
  np : Int
  no : Int
  za : Int
  zb : Int
  w : List Int
  b : List Int
  qm : Int
  qs : Int
  qz : Int
  rm : Int
  rs : Int
  rz : Int
  lo : Int
  hi : Int
abbrev nodC (n : Nod) : List AV := [i64 n.kd, i64 n.na, i64 n.nb, i64 n.nk, i64 n.ns, i64 n.np, i64 n.no, i8 n.za, i8 n.zb, ints .i8 n.w, ints .i32 n.b, i32 n.qm, i64 n.qs, i8 n.qz, i32 n.rm, i64 n.rs, i8 n.rz, i8 n.lo, i8 n.hi]
abbrev nod (n : Nod) : AV := .agg (nodC n)
structure Nod.Ok (n : Nod) : Prop where
  kd : In64 n.kd
  na : In64 n.na
  nb : In64 n.nb
  nk : In64 n.nk
  ns : In64 n.ns
  np : In64 n.np
  no : In64 n.no
  za : In8 n.za
  zb : In8 n.zb
  w : ∀ v ∈ n.w, In8 v
  b : ∀ v ∈ n.b, In32 v
  qm : In32 n.qm
  qs : In64 n.qs
  qz : In8 n.qz
  rm : In32 n.rm
  rs : In64 n.rs
  rz : In8 n.rz
  lo : In8 n.lo
  hi : In8 n.hi

theorem elems_v (h x c : Int) (hh : In64 h) (hx : In64 x) (hc : In64 c) : VC Tryz.prog 85 [.agg [i64 h, i64 x, i64 c]] (i64 (elems h x c)) :=
  VC.ofCalls (x := .int .i64 (elems h x c)) rfl rfl fun w => elems_any h x c w hh.1 hh.2 hx.1 hx.2 hc.1 hc.2
end Go.Proofs.YtdmkhinckljddaaGreatDoor

/- From the world's words into those of values: what a law's arguments are. No condition. -/
namespace Go.Proofs.YtdmkhinckljddaaGreatDoor
open Go.RowKit
set_option linter.unusedSimpArgs false
set_option linter.unusedVariables false
set_option linter.unnecessarySimpa false

def RelL (w : World) (l : List AV) (vs : List Value) : Prop := vs.length = l.length ∧ ∀ (i : Nat) (c : AV) (v : Value), l[i]? = some c → vs[i]? = some v → Rel (fun _ => none) (fun _ => False) w c v
theorem RelL.nil (w : World) : RelL w [] [] := ⟨rfl, fun i c v h => by simp at h⟩
theorem RelL.cons {w : World} {c : AV} {v : Value} {l : List AV} {vs : List Value} (h : Rel (fun _ => none) (fun _ => False) w c v) (hl : RelL w l vs) : RelL w (c :: l) (v :: vs) := ⟨by simp [hl.1], fun i a b ha hb => by
  cases i with
  | zero => simp at ha hb; subst ha hb; exact h
  | succ i => exact hl.2 i a b (by simpa using ha) (by simpa using hb)⟩
theorem RelL.agg {w : World} {l : List AV} {vs : List Value} (h : RelL w l vs) : Rel (fun _ => none) (fun _ => False) w (.agg l) (.agg vs.toArray) := .agg h.1 h.2
/-- A law that holds, in the world's words. -/
theorem law_of {P : Program} {f : Nat} {args : List AV} {xs : List Value} {w : World} (h : VC P f args (bv true)) (hr : RelL w args xs) (ht : TabW w := by intro p hp; cases hp) : Calls P f xs.toArray w fun e w' => e = .returned (.bool true) ∧ Below w.heap.size w w' :=
  (h (fun _ => False) w xs ⟨fun _ h => h.elim, ht⟩ hr.1 hr.2).mono fun e w' ⟨x, he, hx, hb⟩ => ⟨by rw [he, rel_lit hx], hb⟩
end Go.Proofs.YtdmkhinckljddaaGreatDoor

/- Slices whose elements have more than one cell: how they read, and the call's own ones. No condition. -/
namespace Go.Proofs.YtdmkhinckljddaaGreatDoor
open Go.RowKit
set_option linter.unusedVariables false
set_option linter.unusedSimpArgs false

/-- The slice value v reads as the rows rs, each of c cells. -/
def RdN (c : Nat) (w : World) (v : Value) (rs : List (List Value)) : Prop :=
  (∀ r ∈ rs, r.length = c) ∧ ∃ ao cap, v = .slice ao rs.length cap ∧ (rs.length ≤ cap ∧ cap ≤ maxLen ∧ (ao = none → cap = 0)) ∧
    (rs ≠ [] → ∃ b off, ao = some ⟨b, off, none⟩ ∧ ∀ j r i u, rs[j]? = some r → r[i]? = some u → w.cell? ⟨b, off + j * c + i, none⟩ = some u)

theorem RdN.nil (c : Nat) (w : World) : RdN c w (.slice none 0 0) [] := ⟨by simp, none, 0, rfl, ⟨Nat.le_refl _, Nat.zero_le _, fun _ => rfl⟩, fun h => absurd rfl h⟩
end Go.Proofs.YtdmkhinckljddaaGreatDoor

/- What an argument's reading tells of its cells: numbers, slices of numbers, fields of structs, elements of arrays. No condition. -/
namespace Go.Proofs.YtdmkhinckljddaaGreatDoor
open Go.RowKit Go.ChangeShapes Go.WideShapes

section
variable {H : Type} {enc : TypeId × Value → H} {P : Program} {w : World} {sp : Nat → Bool} {held : Bool}

/-- Cells that can be read as of a type. -/
def Can {H : Type} (enc : TypeId × Value → H) (P : Program) (w : World) (sp : Nat → Bool) (held : Bool) (t : TypeId) (cs : List Value) : Prop := ∃ m x, DataW.trod enc P w 0 sp held m t cs = some x

theorem Can.of {t : TypeId} {v : Value} {d : DataW H} {p : List MemPlace} (h : DataW.Trod enc P w 0 sp held t v d p) : Can enc P w sp held t v.cells.toList := by
  obtain ⟨m, h⟩ := h; exact ⟨m, _, h⟩

theorem Can.int {t : TypeId} {k : IntKind} {c : Value} (ht : P.underlying t = some (.int k)) (h : Can enc P w sp held t [c]) : ∃ n, c = .int k n ∧ (Lit.int k n).wf = true := by
  obtain ⟨m, x, h⟩ := h
  obtain ⟨n, hc, _, hw⟩ := DataW.trod_int ht h
  exact ⟨n, by simpa using hc, hw⟩

theorem Can.fields {t : TypeId} {fs : Array Field} {cs : List Value} (ht : P.underlying t = some (.struct fs)) (h : Can enc P w sp held t cs) :
    ∀ (i : Nat) (f : Field), fs[i]? = some f → Can enc P w sp held f.type ((cs.drop f.offset).take (P.cellsOf f.type)) := by
  obtain ⟨m, x, h⟩ := h
  obtain ⟨xs, n, _, _, _, hl, hf⟩ := DataW.trod_struct ht h
  intro i f hi
  have hlt : i < xs.length := by rw [hl]; exact (Array.getElem?_eq_some_iff.1 hi).1
  exact ⟨n, xs[i], by rw [hf i f hi, List.getElem?_eq_getElem hlt]⟩

/-- A slice whose elements have c cells each. -/
theorem Can.slice {t e : TypeId} {v : Value} {c : Nat} (ht : P.underlying t = some (.slice e)) (hc : P.cellsOf e = c) (hc0 : 0 < c) (h : Can enc P w sp held t [v]) :
    ∃ rs : List (List Value), RdN c w v rs ∧ ∀ r ∈ rs, Can enc P w sp held e r := by
  obtain ⟨m0, x, h⟩ := h
  rcases Go.Deep.open_slice ht h with ⟨hcs, _⟩ | ⟨a, len, cap, m, n, D, Pl, hcs, _, hl, hm, hmm, _, hel⟩
  · simp only [List.cons.injEq, and_true] at hcs
    rw [hcs]; exact ⟨[], RdN.nil _ _, by simp⟩
  · simp only [List.cons.injEq, and_true] at hcs
    subst hcs
    have hlm : len ≤ m := by rw [hmm]; split <;> omega
    have hel' : ∀ i : Nat, ∃ r : List Value, i < len → w.cells? 0 (a.add (i * c)) c = some r ∧ Can enc P w sp held e r := by
      intro i
      by_cases hi : i < len
      · obtain ⟨cs', h1, h2⟩ := hel i (by omega)
        rw [hc] at h1
        exact ⟨cs', fun _ => ⟨h1, n, _, h2⟩⟩
      · exact ⟨[], fun h => absurd h hi⟩
    obtain ⟨R, hR⟩ : ∃ R : Nat → List Value, ∀ i, i < len → w.cells? 0 (a.add (i * c)) c = some (R i) ∧ Can enc P w sp held e (R i) := ⟨fun i => Classical.choose (hel' i), fun i => Classical.choose_spec (hel' i)⟩
    have key : ∀ i, i < len → (R i).length = c ∧ ∀ k, k < c → w.cell? ((a.add (i * c)).add k) = (R i)[k]? := by
      intro i hi
      have := World.cells?_some (hR i hi).1
      exact ⟨this.2.1, this.2.2⟩
    refine ⟨(List.range len).map R, ⟨?_, some a, cap, by simp, ⟨by simpa using hl, hm, by simp⟩, fun hne => ?_⟩, ?_⟩
    · intro r hr
      obtain ⟨i, hi, rfl⟩ := List.mem_map.1 hr
      exact (key i (List.mem_range.1 hi)).1
    · have h0 : 0 < len := by
        rcases Nat.eq_zero_or_pos len with h0 | h0
        · subst h0; simp at hne
        · exact h0
      obtain ⟨b, off, spot⟩ := a
      have g0 := (key 0 h0).2 0 hc0
      have hlt : 0 < (R 0).length := by rw [(key 0 h0).1]; exact hc0
      rw [List.getElem?_eq_getElem hlt] at g0
      have hs : spot = none := by simpa [Addr.add] using World.cell?_spot g0
      subst hs
      refine ⟨b, off, rfl, fun j r i u hj hi => ?_⟩
      rw [List.getElem?_map] at hj
      obtain ⟨j', hj', rfl⟩ := Option.map_eq_some_iff.1 hj
      obtain ⟨hjl, rfl⟩ : j < len ∧ j' = j := by
        have := List.getElem?_eq_some_iff.1 hj'
        obtain ⟨h1, h2⟩ := this
        simp at h1 h2; exact ⟨h1, h2.symm⟩
      have hic : i < c := by have := (List.getElem?_eq_some_iff.1 hi).1; rw [(key j' hjl).1] at this; exact this
      have := (key j' hjl).2 i hic
      rw [hi, add_off, add_off] at this
      rw [← this]
    · intro r hr
      obtain ⟨i, hi, rfl⟩ := List.mem_map.1 hr
      exact (hR i (List.mem_range.1 hi)).2

end
end Go.Proofs.YtdmkhinckljddaaGreatDoor

/- What an argument of any type reads as: numbers, truth values, slices, structs, one in the other. No condition. -/
namespace Go.Proofs.YtdmkhinckljddaaGreatDoor
open Go.RowKit Go.ChangeShapes Go.WideShapes

/-- Cells that are as told. -/
def CellsAre (w : World) (l : List AV) (cs : List Value) : Prop := cs.length = l.length ∧ ∀ (i : Nat) (a : AV) (v : Value), l[i]? = some a → cs[i]? = some v → PRel (fun _ => False) w a v ∧ v.oneCell' = true
theorem CellsAre.one {w : World} {a : AV} {v : Value} (h : PRel (fun _ => False) w a v) (h1 : v.oneCell' = true) : CellsAre w [a] [v] := ⟨rfl, fun i x y hx hy => by
  cases i with
  | zero => simp at hx hy; subst hx hy; exact ⟨h, h1⟩
  | succ i => simp at hx⟩
theorem CellsAre.app {w : World} {l m : List AV} {cs ds : List Value} (h : CellsAre w l cs) (g : CellsAre w m ds) : CellsAre w (l ++ m) (cs ++ ds) := ⟨by simp [h.1, g.1], fun i a v ha hv => by
  rw [List.getElem?_append] at ha hv
  rw [h.1] at hv
  split at ha
  · rw [if_pos ‹_›] at hv; exact h.2 i a v ha hv
  · rw [if_neg ‹_›] at hv; exact g.2 _ a v ha hv⟩
theorem CellsAre.rel {w : World} {l : List AV} {cs : List Value} (h : CellsAre w l cs) : RelL w l cs := ⟨h.1, fun i a v ha hv => .pure (h.2 i a v ha hv).1⟩
theorem CellsAre.agg {w : World} {l : List AV} {cs : List Value} (h : CellsAre w l cs) : Rel (fun _ => none) (fun _ => False) w (.agg l) (.agg cs.toArray) := RelL.agg h.rel
section
variable {H : Type} (enc : TypeId × Value → H) (P : Program) (w : World)
/-- Values of the type t read as D. -/
def Rdr (t : TypeId) (D : Type) (av : D → List AV) (ok : D → Prop) : Prop := ∀ cs, Can enc P w (fun _ => true) true t cs → cs.length = P.cellsOf t → ∃ d, ok d ∧ CellsAre w (av d) cs
variable {enc P w}
theorem Rdr.map {t : TypeId} {D E : Type} {av : D → List AV} {ok : D → Prop} {av' : E → List AV} {ok' : E → Prop} (h : Rdr enc P w t D av ok) (g : D → E) (ha : ∀ d, av' (g d) = av d) (hk : ∀ d, ok d → ok' (g d)) : Rdr enc P w t E av' ok' := fun cs hc hl => by
  obtain ⟨d, h1, h2⟩ := h cs hc hl
  exact ⟨g d, hk d h1, by rw [ha]; exact h2⟩
theorem one_of_len {cs : List Value} (h : cs.length = 1) : ∃ c, cs = [c] := by
  match cs, h with
  | [c], _ => exact ⟨c, rfl⟩
theorem Rdr.int {t : TypeId} {k : IntKind} {ok : Int → Prop} (ht : P.underlying t = some (.int k)) (hc : P.cellsOf t = 1) (hk : ∀ n, (Lit.int k n).wf = true → ok n) : Rdr enc P w t Int (fun n => [.lit (.int k n)]) ok := fun cs h hl => by
  obtain ⟨c, rfl⟩ := one_of_len (hl.trans hc)
  obtain ⟨n, rfl, hw⟩ := Can.int ht h
  exact ⟨n, hk n hw, .one (.lit _) rfl⟩
theorem Rdr.slice {t e : TypeId} {c : Nat} {D : Type} {av : D → List AV} {ok : D → Prop} (ht : P.underlying t = some (.slice e)) (hct : P.cellsOf t = 1) (hc : P.cellsOf e = c) (hc0 : 0 < c) (h : Rdr enc P w e D av ok) :
    Rdr enc P w t (List D) (fun l => [.sl c (l.map av)]) (fun l => ∀ d ∈ l, ok d) := fun cs hcan hl => by
  obtain ⟨v, rfl⟩ := one_of_len (hl.trans hct)
  obtain ⟨rs, ⟨hlen, ao, cap, rfl, ⟨h1, h2, h3⟩, hcell⟩, hr⟩ := Can.slice ht hc hc0 hcan
  have hds : ∀ (rs : List (List Value)), (∀ r ∈ rs, r.length = c) → (∀ r ∈ rs, Can enc P w (fun _ => true) true e r) → ∃ l : List D, l.length = rs.length ∧ (∀ d ∈ l, ok d) ∧ ∀ (i : Nat) (d : D) (r : List Value), l[i]? = some d → rs[i]? = some r → CellsAre w (av d) r := by
    intro rs
    induction rs with
    | nil => intro _ _; exact ⟨[], rfl, by simp, by simp⟩
    | cons r rs ih =>
      intro hl hr
      obtain ⟨d, g1, g2⟩ := h r (hr r (by simp)) ((hl r (by simp)).trans hc.symm)
      obtain ⟨l, g3, g4, g5⟩ := ih (fun q hq => hl q (by simp [hq])) (fun q hq => hr q (by simp [hq]))
      refine ⟨d :: l, by simp [g3], fun x hx => ?_, fun i x q hx hq => ?_⟩
      · rcases List.mem_cons.1 hx with rfl | hx
        · exact g1
        · exact g4 x hx
      · cases i with
        | zero => simp at hx hq; subst hx hq; exact g2
        | succ i => exact g5 i x q (by simpa using hx) (by simpa using hq)
  obtain ⟨l, g1, g2, g3⟩ := hds rs hlen hr
  refine ⟨l, g2, .one ?_ rfl⟩
  by_cases hne : rs = []
  · subst hne
    have : l = [] := List.eq_nil_of_length_eq_zero g1
    subst this
    exact .nil c h2 h3
  · obtain ⟨b, off, rfl, hcv⟩ := hcell hne
    have hlm : rs.length = (l.map av).length := by rw [List.length_map, g1]
    rw [hlm]
    have get : ∀ (i : Nat) (q : List AV), (l.map av)[i]? = some q → ∃ (r : List Value), rs[i]? = some r ∧ CellsAre w q r ∧ r.length = c := by
      intro i q hq
      rw [List.getElem?_map, Option.map_eq_some_iff] at hq
      obtain ⟨d, hd, rfl⟩ := hq
      have hi : i < rs.length := by rw [← g1]; exact (List.getElem?_eq_some_iff.1 hd).1
      exact ⟨rs[i], List.getElem?_eq_getElem hi, g3 i d _ hd (List.getElem?_eq_getElem hi), hlen _ (List.getElem_mem hi)⟩
    have cell : ∀ (i : Nat) (q : List AV) (j : Nat) (a : AV), (l.map av)[i]? = some q → q[j]? = some a → w.cell? ⟨b, off + i * c + j, none⟩ = some (((rs[i]?).getD [])[j]?.getD undef) ∧ PRel (fun _ => False) w a (((rs[i]?).getD [])[j]?.getD undef) ∧ (((rs[i]?).getD [])[j]?.getD undef).oneCell' = true := by
      intro i q j a hq ha
      obtain ⟨r, hr, hca, _⟩ := get i q hq
      have hj : j < r.length := by rw [hca.1]; exact (List.getElem?_eq_some_iff.1 ha).1
      rw [hr, Option.getD_some, List.getElem?_eq_getElem hj, Option.getD_some]
      have := hca.2 j a _ ha (List.getElem?_eq_getElem hj)
      exact ⟨hcv i r j _ hr (List.getElem?_eq_getElem hj), this.1, this.2⟩
    refine .sl (fun i j => ((rs[i]?).getD [])[j]?.getD undef) (fun _ h => h) (fun hn => ?_) (by rw [← hlm]; exact h1) h2 (fun i q hq => ?_) (fun i q j a hq ha => (cell i q j a hq ha).1) (fun i q j a hq ha => (cell i q j a hq ha).2.1) (fun i q j a hq ha => (cell i q j a hq ha).2.2)
    · have h0 : 0 < rs.length := List.length_pos_iff.2 hne
      have hl0 : 0 < (rs[0]).length := by rw [hlen _ (List.getElem_mem h0)]; exact hc0
      exact World.block_lt_of_cell? w _ (hcv 0 rs[0] 0 _ (List.getElem?_eq_getElem h0) (List.getElem?_eq_getElem hl0))
    · obtain ⟨r, _, hca, hrl⟩ := get i q hq
      rw [← hca.1, hrl]
/-- A struct's fields from an offset on. -/
def RdrF (enc : TypeId × Value → H) (P : Program) (w : World) (fs : List Field) (off n : Nat) (D : Type) (av : D → List AV) (ok : D → Prop) : Prop :=
  ∀ cs : List Value, cs.length = n → (∀ f ∈ fs, Can enc P w (fun _ => true) true f.type ((cs.drop f.offset).take (P.cellsOf f.type))) → ∃ d, ok d ∧ CellsAre w (av d) (cs.drop off)
theorem RdrF.nil {n off : Nat} (h : n ≤ off) : RdrF enc P w [] off n Unit (fun _ => []) (fun _ => True) := fun cs hl _ => ⟨(), trivial, by
  rw [List.drop_eq_nil_of_le (by omega)]; exact ⟨rfl, by simp⟩⟩
theorem RdrF.cons {f : Field} {fs : List Field} {off n c : Nat} {D E : Type} {av : D → List AV} {ok : D → Prop} {av' : E → List AV} {ok' : E → Prop} (ho : f.offset = off) (hc : P.cellsOf f.type = c) (hn : off + c ≤ n) (h : Rdr enc P w f.type D av ok) (g : RdrF enc P w fs (off + c) n E av' ok') :
    RdrF enc P w (f :: fs) off n (D × E) (fun d => av d.1 ++ av' d.2) (fun d => ok d.1 ∧ ok' d.2) := fun cs hl hf => by
  obtain ⟨d, h1, h2⟩ := h _ (hf f (by simp)) (by simp; omega)
  obtain ⟨e, h3, h4⟩ := g cs hl (fun x hx => hf x (by simp [hx]))
  refine ⟨(d, e), ⟨h1, h3⟩, ?_⟩
  have : cs.drop off = (cs.drop f.offset).take (P.cellsOf f.type) ++ cs.drop (off + c) := by
    rw [ho, hc, ← List.drop_drop, List.take_append_drop]
  rw [this]; exact h2.app h4
theorem Rdr.struct {t : TypeId} {fs : List Field} {n : Nat} {D : Type} {av : D → List AV} {ok : D → Prop} (ht : P.underlying t = some (.struct fs.toArray)) (hn : P.cellsOf t = n) (h : RdrF enc P w fs 0 n D av ok) : Rdr enc P w t D av ok := fun cs hc hl => by
  obtain ⟨d, h1, h2⟩ := h cs (hl.trans hn) (fun f hf => by
    obtain ⟨i, hi⟩ := List.mem_iff_getElem?.1 hf
    exact Can.fields ht hc i f (by simpa using hi))
  exact ⟨d, h1, by simpa using h2⟩
/-- A struct as an argument. -/
theorem Rdr.aggV {t : TypeId} {fs : Array Field} {D : Type} {av : D → List AV} {ok : D → Prop} {v : Value} {d : DataW H} {p : List MemPlace} {r : Reach} {base : Nat} (h : Rdr enc P w t D av ok) (ht : P.underlying t = some (.struct fs)) (hv : Value.okWide P w r base t v) (hd : DataW.Trod enc P w 0 (fun _ => true) true t v d p) :
    ∃ x, ok x ∧ Rel (fun _ => none) (fun _ => False) w (.agg (av x)) v := by
  obtain ⟨cs, rfl, hs⟩ := okWide_struct ht hv
  obtain ⟨x, h1, h2⟩ := h _ (Can.of hd) (by simpa [Value.cells] using hs)
  refine ⟨x, h1, ?_⟩
  have := h2.agg
  simpa [Value.cells] using this
end
end Go.Proofs.YtdmkhinckljddaaGreatDoor

/- Numbers as digits, and words joined, by the library: its contracts at this program. No condition but what each says. -/
namespace Go.Proofs.YtdmkhinckljddaaGreatDoor
open Go.RowKit
set_option linter.unusedSimpArgs false
set_option linter.unusedVariables false
set_option linter.unnecessarySimpa false
section
open Go.Shelf
def shl156_ren : Go.Shelf.Ren := ⟨fun | 156 => 19 | 165 => 35 | 166 => 36 | 169 => 37 | 240 => 55 | 241 => 56 | 276 => 78 | 277 => 79 | n => n, fun | 31 => 29 | 9 => 9 | 3 => 3 | 4 => 4 | 0 => 0 | 20 => 20 | 72 => 98 | 76 => 102 | 70 => 95 | 37 => 96 | 75 => 101 | 127 => 129 | 164 => 151 | 5 => 5 | 80 => 104 | n => n, fun | n => n⟩
theorem shl156 : Go.Proofs.Lays.n156 Tryz.prog shl156_ren := {
  mixed := by kernel_rfl
  f156 := Tryz.func19.trans (congrArg some (by kernel_rfl))
  f165 := Tryz.func35.trans (congrArg some (by kernel_rfl))
  f166 := Tryz.func36.trans (congrArg some (by kernel_rfl))
  f169 := Tryz.func37.trans (congrArg some (by kernel_rfl))
  f240 := Tryz.func55.trans (congrArg some (by kernel_rfl))
  f241 := Tryz.func56.trans (congrArg some (by kernel_rfl))
  f276 := Tryz.func78.trans (congrArg some (by kernel_rfl))
  f277 := Tryz.func79.trans (congrArg some (by kernel_rfl))
  t0 := Tryz.underlying0
  a0 := Tryz.isAgg0
  z0 := Tryz.sizeOf0
  v0 := Tryz.zeroValue0
  t3 := Tryz.underlying3
  a3 := Tryz.isAgg3
  z3 := Tryz.sizeOf3
  v3 := Tryz.zeroValue3
  t4 := Tryz.underlying4
  a4 := Tryz.isAgg4
  z4 := Tryz.sizeOf4
  v4 := Tryz.zeroValue4
  t9 := Tryz.underlying9
  a9 := Tryz.isAgg9
  z9 := Tryz.sizeOf9
  v9 := Tryz.zeroValue9
  t20 := Tryz.underlying20
  a20 := Tryz.isAgg20
  z20 := Tryz.sizeOf20
  v20 := Tryz.zeroValue20
  t31 := Tryz.underlying29
  a31 := Tryz.isAgg29
  z31 := Tryz.sizeOf29
  v31 := Tryz.zeroValue29
  t37 := Tryz.underlying96
  a37 := Tryz.isAgg96
  z37 := Tryz.sizeOf96
  v37 := Tryz.zeroValue96
  t70 := Tryz.underlying95
  a70 := Tryz.isAgg95
  z70 := Tryz.sizeOf95
  v70 := Tryz.zeroValue95
  t72 := Tryz.underlying98
  a72 := Tryz.isAgg98
  z72 := Tryz.sizeOf98
  v72 := Tryz.zeroValue98
  t75 := Tryz.underlying101
  a75 := Tryz.isAgg101
  z75 := Tryz.sizeOf101
  v75 := Tryz.zeroValue101
  t76 := Tryz.underlying102
  a76 := Tryz.isAgg102
  z76 := Tryz.sizeOf102
  v76 := Tryz.zeroValue102
  t127 := Tryz.underlying129
  a127 := Tryz.isAgg129
  z127 := Tryz.sizeOf129
  v127 := Tryz.zeroValue129
  t164 := Tryz.underlying151
  a164 := Tryz.isAgg151
  z164 := Tryz.sizeOf151
  v164 := Tryz.zeroValue151 }
theorem shlX156 : Builder.Extra Tryz.prog shl156_ren := {
  sizeBuilder := by kernel_rfl
  liesBuilder := by kernel_rfl
  t5 := Tryz.underlying5
  a5 := Tryz.isAgg5
  z5 := Tryz.sizeOf5
  v5 := Tryz.zeroValue5
  infoByte := by kernel_rfl
  cellsByte := by kernel_rfl
  sizeByte := by kernel_rfl
  neB5 := by decide }
def shlM171_ren : Go.Shelf.Ren := ⟨fun | 171 => 46 | 243 => 68 | 246 => 84 | 283 => 97 | 284 => 98 | 285 => 99 | 286 => 100 | 129 => 122 | 317 => 121 | 318 => 123 | 319 => 124 | 320 => 125 | 337 => 136 | 338 => 137 | n => n, fun | 3 => 3 | 9 => 9 | 2 => 2 | 4 => 4 | 171 => 173 | 0 => 0 | 53 => 111 | 37 => 96 | 5 => 5 | 173 => 176 | 212 => 196 | 51 => 197 | 20 => 20 | 213 => 198 | 46 => 199 | 232 => 224 | 233 => 225 | n => n, fun | 17 => 1 | 18 => 2 | 19 => 3 | n => n⟩
theorem shlM171 : Go.Proofs.LaysM.n171 Tryz.prog shlM171_ren := {
  mixed := by kernel_rfl
  f129 := Tryz.func122.trans (congrArg some (by kernel_rfl))
  f171 := Tryz.func46.trans (congrArg some (by kernel_rfl))
  f243 := Tryz.func68.trans (congrArg some (by kernel_rfl))
  f246 := Tryz.func84.trans (congrArg some (by kernel_rfl))
  f283 := Tryz.func97.trans (congrArg some (by kernel_rfl))
  f284 := Tryz.func98.trans (congrArg some (by kernel_rfl))
  f285 := Tryz.func99.trans (congrArg some (by kernel_rfl))
  f286 := Tryz.func100.trans (congrArg some (by kernel_rfl))
  f317 := Tryz.func121.trans (congrArg some (by kernel_rfl))
  f318 := Tryz.func123.trans (congrArg some (by kernel_rfl))
  f319 := Tryz.func124.trans (congrArg some (by kernel_rfl))
  f320 := Tryz.func125.trans (congrArg some (by kernel_rfl))
  f337 := Tryz.func136.trans (congrArg some (by kernel_rfl))
  f338 := Tryz.func137.trans (congrArg some (by kernel_rfl))
  t0 := Tryz.underlying0
  a0 := Tryz.isAgg0
  z0 := Tryz.sizeOf0
  v0 := Tryz.zeroValue0
  t2 := Tryz.underlying2
  a2 := Tryz.isAgg2
  z2 := Tryz.sizeOf2
  v2 := Tryz.zeroValue2
  t3 := Tryz.underlying3
  a3 := Tryz.isAgg3
  z3 := Tryz.sizeOf3
  v3 := Tryz.zeroValue3
  t4 := Tryz.underlying4
  a4 := Tryz.isAgg4
  z4 := Tryz.sizeOf4
  v4 := Tryz.zeroValue4
  t5 := Tryz.underlying5
  a5 := Tryz.isAgg5
  z5 := Tryz.sizeOf5
  v5 := Tryz.zeroValue5
  t9 := Tryz.underlying9
  a9 := Tryz.isAgg9
  z9 := Tryz.sizeOf9
  v9 := Tryz.zeroValue9
  t20 := Tryz.underlying20
  a20 := Tryz.isAgg20
  z20 := Tryz.sizeOf20
  v20 := Tryz.zeroValue20
  t37 := Tryz.underlying96
  a37 := Tryz.isAgg96
  z37 := Tryz.sizeOf96
  v37 := Tryz.zeroValue96
  t46 := Tryz.underlying199
  a46 := Tryz.isAgg199
  z46 := Tryz.sizeOf199
  v46 := Tryz.zeroValue199
  t51 := Tryz.underlying197
  a51 := Tryz.isAgg197
  z51 := Tryz.sizeOf197
  v51 := Tryz.zeroValue197
  t53 := Tryz.underlying111
  a53 := Tryz.isAgg111
  z53 := Tryz.sizeOf111
  v53 := Tryz.zeroValue111
  t171 := Tryz.underlying173
  a171 := Tryz.isAgg173
  z171 := Tryz.sizeOf173
  v171 := Tryz.zeroValue173
  t173 := Tryz.underlying176
  a173 := Tryz.isAgg176
  z173 := Tryz.sizeOf176
  v173 := Tryz.zeroValue176
  t212 := Tryz.underlying196
  a212 := Tryz.isAgg196
  z212 := Tryz.sizeOf196
  v212 := Tryz.zeroValue196
  t213 := Tryz.underlying198
  a213 := Tryz.isAgg198
  z213 := Tryz.sizeOf198
  t232 := Tryz.underlying224
  a232 := Tryz.isAgg224
  z232 := Tryz.sizeOf224
  v232 := Tryz.zeroValue224
  t233 := Tryz.underlying225
  a233 := Tryz.isAgg225
  z233 := Tryz.sizeOf225
  v233 := Tryz.zeroValue225
  g17 := by kernel_rfl
  g18 := by kernel_rfl
  g19 := by kernel_rfl
  i0 := by kernel_rfl
  i2 := by kernel_rfl
  i3 := by kernel_rfl
  i4 := by kernel_rfl
  i5 := by kernel_rfl
  i9 := by kernel_rfl
  i20 := by kernel_rfl
  i37 := by kernel_rfl
  i46 := by kernel_rfl
  i51 := by kernel_rfl
  i53 := by kernel_rfl
  i171 := by kernel_rfl
  i173 := by kernel_rfl
  i212 := by kernel_rfl
  i232 := by kernel_rfl
  i233 := by kernel_rfl
  m17 := by kernel_rfl
  m18 := by kernel_rfl
  m19 := by kernel_rfl }
end
/-- A number's digits. -/
def dg (n : Int) : ByteArray := ⟨(Lib.itoa n).toArray⟩
abbrev st (s : ByteArray) : AV := .lit (.string s)
abbrev rowS (s : ByteArray) : List AV := [.lit (.string s)]
abbrev strs (l : List ByteArray) : AV := .sl 1 (l.map rowS)
/-- Words, one behind the other, with a word between. -/
def joinB (l : List ByteArray) (sep : ByteArray) : ByteArray := ⟨(Lib.join (l.map (·.data.toList)) sep.data.toList).toArray⟩
theorem tab_is {w : World} (h : TabW w) : ∀ s, Tryz.prog.globalNamed s = some 1 → Lib.TabIs Tryz.prog w s .u64 Lib.pow10Tab := fun s hg => by
  obtain ⟨T, q, h1⟩ := h (1, ((List.range 20).map fun i => Value.int .u64 ((10 ^ i : Nat) : Int)).toArray) (by unfold tabs; exact List.mem_singleton.2 rfl)
  unfold Lib.TabIs World.var?
  rw [hg, Option.bind_some]
  dsimp only at h1
  rw [h1]
  dsimp only
  unfold Lib.pow10Tab
  rw [List.map_map]; rfl
theorem itoa_v (n : Int) (h : In64 n) : VC Tryz.prog 46 [i64 n] (st (dg n)) := by
  intro S w xs hS hl hxs
  match xs, hl with
  | [x], _ =>
    have hx : x = .int .i64 n := by
      have := hxs 0 _ x rfl rfl
      cases this with | pure hp => cases hp; rfl
    subst hx
    refine (Any.strconv_Itoa shlM171 n h.1 h.2 w (tab_is hS.tab _ (by kernel_rfl))).mono fun e w' ⟨he, k, os, hw⟩ => ⟨_, he, .pure (.lit _), ?_⟩
    subst hw
    exact ⟨rfl, rfl, rfl, by simp [Sort.grow, World.drewN], fun b hb => by simp [Sort.grow, World.drewN, Array.getElem?_append_left hb]⟩
theorem join_v (l : List ByteArray) (sep : ByteArray) (h : (joinB l sep).size ≤ 140737488355328) (hn : l.length ≤ 100000) : VC Tryz.prog 19 [strs l, st sep] (st (joinB l sep)) := by
  intro S w xs hS hl hxs
  match xs, hl with
  | [x, y], _ =>
    have hy : y = .string sep := by
      have := hxs 1 _ y rfl rfl
      cases this with | pure hp => cases hp; rfl
    subst hy
    have hp : PRel S w (.sl 1 (l.map rowS)) x := by
      have := hxs 0 _ x rfl rfl
      cases this with | pure hp => exact hp
    generalize hL : l.map rowS = L at hp
    cases hp with
    | nil _ hm h0 =>
      have : l = [] := by simpa using hL
      subst this
      refine (Any.strings_Join_none shl156 shlX156 _ _ sep w).mono fun e w' ⟨he, hw⟩ => ⟨_, he, ?_, hw ▸ Below.refl _ _⟩
      exact .pure (.lit _)
    | @sl _ _ b off cap cv hX hb hc hm hz h1 h2 h3 =>
      subst hL
      by_cases hne : l = []
      · subst hne
        refine (Any.strings_Join_none shl156 shlX156 _ _ sep w).mono fun e w' ⟨he, hw⟩ => ⟨_, he, ?_, hw ▸ Below.refl _ _⟩
        exact .pure (.lit _)
      rw [List.length_map]
      refine (Any.strings_Join shl156 shlX156 b off cap l sep w (fun j x hj => ?_) (hb (by simpa using hne)) (by omega) (by simpa using hc) (by unfold joinB ByteArray.size at h; simpa using h)).mono fun e w' ⟨he, hw⟩ => ⟨_, he, .pure (.lit _), hw⟩
      have g1 := h1 j (rowS x) 0 (.lit (.string x)) (by rw [List.getElem?_map, hj]; rfl) rfl
      have g2 := h2 j (rowS x) 0 (.lit (.string x)) (by rw [List.getElem?_map, hj]; rfl) rfl
      generalize cv j 0 = u at g1 g2
      cases g2 with
      | lit =>
        rw [Nat.mul_one, Nat.add_zero] at g1; exact g1
end Go.Proofs.YtdmkhinckljddaaGreatDoor

/- How often a window lies within; the shape of what a window makes. No condition. -/
namespace Go.Proofs.YtdmkhinckljddaaGreatDoor
open Go.RowKit
set_option linter.unusedSimpArgs false
set_option linter.unusedVariables false
set_option linter.unnecessarySimpa false

structure Shp where
  h : Int
  x : Int
  c : Int
structure Shp.Ok (s : Shp) : Prop where
  h : In64 s.h
  x : In64 s.x
  c : In64 s.c
abbrev shp (s : Shp) : AV := .agg [i64 s.h, i64 s.x, i64 s.c]
set_option maxRecDepth 100000 in
set_option maxHeartbeats 2000000 in
theorem sRight_v (t : Shp) (ok : t.Ok) : VC Tryz.prog 69 ([shp t]) (bv (decide (0 < elems t.h t.x t.c))) := by
  have q1 := ok.h
  have q2 := ok.x
  have q3 := ok.c
  have oz0 := @elems_v (t.h) (t.x) (t.c) q1 q2 q3
  exact VC.run (fn := Tryz.f69) (W := [.r [] [], .r [] [.callr (rO oz0)]]) Tryz.func69 (by kernel_rfl) (.c oz0 <| .n)

end Go.Proofs.YtdmkhinckljddaaGreatDoor

/- What nodes' kinds are called. No condition. -/
namespace Go.Proofs.YtdmkhinckljddaaGreatDoor
open Go.RowKit
set_option linter.unusedSimpArgs false
set_option linter.unusedVariables false
set_option linter.unnecessarySimpa false

def kindNames : List ByteArray := [⟨#[]⟩, ⟨#[99, 111, 110, 118]⟩, ⟨#[100, 101, 112, 116, 104]⟩, ⟨#[100, 101, 110, 115, 101]⟩, ⟨#[109, 97, 120, 112, 111, 111, 108]⟩, ⟨#[97, 118, 103, 112, 111, 111, 108]⟩, ⟨#[106, 111, 105, 110]⟩, ⟨#[97, 99, 116]⟩, ⟨#[112, 97, 100]⟩, ⟨#[102, 108, 97, 116]⟩]
def nameS (k : Int) : ByteArray := kindNames.getD k.toNat ⟨#[]⟩
abbrev strv (s : ByteArray) : AV := .lit (.string s)
theorem name_row {k : Int} (h1 : k < 10) : ([[strv ⟨#[]⟩], [strv ⟨#[99, 111, 110, 118]⟩], [strv ⟨#[100, 101, 112, 116, 104]⟩], [strv ⟨#[100, 101, 110, 115, 101]⟩], [strv ⟨#[109, 97, 120, 112, 111, 111, 108]⟩], [strv ⟨#[97, 118, 103, 112, 111, 111, 108]⟩], [strv ⟨#[106, 111, 105, 110]⟩], [strv ⟨#[97, 99, 116]⟩], [strv ⟨#[112, 97, 100]⟩], [strv ⟨#[102, 108, 97, 116]⟩]] : List (List AV))[k.toNat]? = some [strv (nameS k)] :=
  map_at (fun s => [strv s]) ⟨#[]⟩ (l := kindNames) (i := k.toNat) (by show k.toNat < 10; omega)
theorem name_out {k : Int} (h : k < 0 ∨ 10 ≤ k) : nameS k = ⟨#[]⟩ := by
  unfold nameS
  rcases h with h | h
  · rw [show k.toNat = 0 by omega]; rfl
  · rw [List.getD_eq_getElem?_getD, List.getElem?_eq_none (by show 10 ≤ k.toNat; omega)]; rfl
set_option maxRecDepth 100000 in
set_option maxHeartbeats 2000000 in
theorem name_v (k : Int) (hk : In64 k) : VC Tryz.prog 25 ([i64 k]) (strv (nameS k)) := by
  rcases Bool.eq_false_or_eq_true (decide (k < 0) || decide (k ≥ 10)) with hc0 | hc0
  · have gc0 : k < 0 ∨ k ≥ 10 := by first | (simp only [Bool.or_eq_true, Bool.or_eq_false_iff, Bool.and_eq_true, Bool.and_eq_false_iff, Bool.not_eq_true', Bool.not_eq_false', decide_eq_true_eq, decide_eq_false_iff_not, beq_iff_eq, bne_iff_ne, ne_eq, beq_eq_false_iff_ne, bne_eq_false_iff_eq, eqNums, Bool.and_true] at hc0; first | exact hc0 | omega) | simpa using hc0 | (simp at hc0 ⊢; omega) | (apply Classical.byContradiction; intro hn; simp_all [eqNums]; done) | (apply Classical.byContradiction; intro hn; simp [eqNums] at hc0 hn; omega)
    exact (VC.run (fn := Tryz.f25) (W := [.r [] [], .r [] [], .r [] [.op false, .op false, .sel 1], .br true, .r [] []]) (r := AV.lit (Value.string (ByteArray.mk #[]))) Tryz.func25 (by kernel_rfl) (.c hc0 <| .n)).weak (WeakL.refl _) (Weak.str (show ((ByteArray.mk #[]) : ByteArray) = (nameS k) from (by (rw [name_out (by omega)]))))
  · have gc0 : ¬k < 0 ∧ ¬k ≥ 10 := by first | (simp only [Bool.or_eq_true, Bool.or_eq_false_iff, Bool.and_eq_true, Bool.and_eq_false_iff, Bool.not_eq_true', Bool.not_eq_false', decide_eq_true_eq, decide_eq_false_iff_not, beq_iff_eq, bne_iff_ne, ne_eq, beq_eq_false_iff_ne, bne_eq_false_iff_eq, eqNums, Bool.and_true] at hc0; first | exact hc0 | omega) | simpa using hc0 | (simp at hc0 ⊢; omega) | (apply Classical.byContradiction; intro hn; simp_all [eqNums]; done) | (apply Classical.byContradiction; intro hn; simp [eqNums] at hc0 hn; omega)
    have oz3 := (show [[AV.lit (Value.string (ByteArray.mk #[]))], [AV.lit (Value.string (ByteArray.mk #[99, 111, 110, 118]))], [AV.lit (Value.string (ByteArray.mk #[100, 101, 112, 116, 104]))], [AV.lit (Value.string (ByteArray.mk #[100, 101, 110, 115, 101]))], [AV.lit (Value.string (ByteArray.mk #[109, 97, 120, 112, 111, 111, 108]))], [AV.lit (Value.string (ByteArray.mk #[97, 118, 103, 112, 111, 111, 108]))], [AV.lit (Value.string (ByteArray.mk #[106, 111, 105, 110]))], [AV.lit (Value.string (ByteArray.mk #[97, 99, 116]))], [AV.lit (Value.string (ByteArray.mk #[112, 97, 100]))], [AV.lit (Value.string (ByteArray.mk #[102, 108, 97, 116]))]][k.toNat]? = some [strv (nameS k)] by (exact name_row (by omega)))
    exact VC.run (fn := Tryz.f25) (W := [.r [] [], .r [] [], .r [] [.op false, .op false, .sel 1], .br false, .r [] [.row (sO oz3)]]) Tryz.func25 (by kernel_rfl) (.c hc0 <| .c (show 0 ≤ k by omega) <| .c (show k < (↑10 : Int) by omega) <| .c oz3 <| .n)

set_option maxRecDepth 100000 in
set_option maxHeartbeats 2000000 in
theorem refName_v (k : Int) (hk : In64 k) : VC Tryz.prog 27 ([i64 k]) (strv (nameS k)) := by
  rcases Bool.eq_false_or_eq_true (decide (k < 0) || decide (k > 9)) with hc0 | hc0
  · have gc0 : k < 0 ∨ k > 9 := by first | (simp only [Bool.or_eq_true, Bool.or_eq_false_iff, Bool.and_eq_true, Bool.and_eq_false_iff, Bool.not_eq_true', Bool.not_eq_false', decide_eq_true_eq, decide_eq_false_iff_not, beq_iff_eq, bne_iff_ne, ne_eq, beq_eq_false_iff_ne, bne_eq_false_iff_eq, eqNums, Bool.and_true] at hc0; first | exact hc0 | omega) | simpa using hc0 | (simp at hc0 ⊢; omega) | (apply Classical.byContradiction; intro hn; simp_all [eqNums]; done) | (apply Classical.byContradiction; intro hn; simp [eqNums] at hc0 hn; omega)
    exact (VC.run (fn := Tryz.f27) (W := [.r [] [], .r [] [], .r [] [.op false, .op false, .sel 1], .br true, .r [] []]) (r := AV.lit (Value.string (ByteArray.mk #[]))) Tryz.func27 (by kernel_rfl) (.c hc0 <| .n)).weak (WeakL.refl _) (Weak.str (show ((ByteArray.mk #[]) : ByteArray) = (nameS k) from (by (rw [name_out (by omega)]))))
  · have gc0 : ¬k < 0 ∧ ¬k > 9 := by first | (simp only [Bool.or_eq_true, Bool.or_eq_false_iff, Bool.and_eq_true, Bool.and_eq_false_iff, Bool.not_eq_true', Bool.not_eq_false', decide_eq_true_eq, decide_eq_false_iff_not, beq_iff_eq, bne_iff_ne, ne_eq, beq_eq_false_iff_ne, bne_eq_false_iff_eq, eqNums, Bool.and_true] at hc0; first | exact hc0 | omega) | simpa using hc0 | (simp at hc0 ⊢; omega) | (apply Classical.byContradiction; intro hn; simp_all [eqNums]; done) | (apply Classical.byContradiction; intro hn; simp [eqNums] at hc0 hn; omega)
    have oz3 := (show [[AV.lit (Value.string (ByteArray.mk #[]))], [AV.lit (Value.string (ByteArray.mk #[99, 111, 110, 118]))], [AV.lit (Value.string (ByteArray.mk #[100, 101, 112, 116, 104]))], [AV.lit (Value.string (ByteArray.mk #[100, 101, 110, 115, 101]))], [AV.lit (Value.string (ByteArray.mk #[109, 97, 120, 112, 111, 111, 108]))], [AV.lit (Value.string (ByteArray.mk #[97, 118, 103, 112, 111, 111, 108]))], [AV.lit (Value.string (ByteArray.mk #[106, 111, 105, 110]))], [AV.lit (Value.string (ByteArray.mk #[97, 99, 116]))], [AV.lit (Value.string (ByteArray.mk #[112, 97, 100]))], [AV.lit (Value.string (ByteArray.mk #[102, 108, 97, 116]))]][k.toNat]? = some [strv (nameS k)] by (exact name_row (by omega)))
    exact VC.run (fn := Tryz.f27) (W := [.r [] [], .r [] [], .r [] [.op false, .op false, .sel 1], .br false, .r [] [.row (sO oz3)]]) Tryz.func27 (by kernel_rfl) (.c hc0 <| .c (show 0 ≤ k by omega) <| .c (show k < (↑10 : Int) by omega) <| .c oz3 <| .n)
end Go.Proofs.YtdmkhinckljddaaGreatDoor

/- The shapes of a block's values, by the program and by the document. No condition. -/
namespace Go.Proofs.YtdmkhinckljddaaGreatDoor
open Go.RowKit
set_option linter.unusedSimpArgs false
set_option linter.unusedVariables false
set_option linter.unnecessarySimpa false

abbrev shpC (s : Shp) : List AV := [i64 s.h, i64 s.x, i64 s.c]
end Go.Proofs.YtdmkhinckljddaaGreatDoor

/- Numbers as digits by the program and by the document; shapes and nodes in words. No condition. -/
namespace Go.Proofs.YtdmkhinckljddaaGreatDoor
open Go.RowKit
set_option linter.unusedSimpArgs false
set_option linter.unusedVariables false
set_option linter.unnecessarySimpa false

theorem bext {a b : ByteArray} (h : a.data.toList = b.data.toList) : a = b := by
  obtain ⟨⟨a⟩⟩ := a; obtain ⟨⟨b⟩⟩ := b
  have : a = b := h
  rw [this]
theorem bapp (a b : ByteArray) : (a ++ b).data.toList = a.data.toList ++ b.data.toList := by rw [ByteArray.data_append, Array.toList_append]
theorem bapp_size (a b : ByteArray) : (a ++ b).size = a.size + b.size := by show (a ++ b).data.size = _; rw [ByteArray.data_append, Array.size_append]; rfl
theorem bassoc (a b c : ByteArray) : a ++ b ++ c = a ++ (b ++ c) := bext (by simp only [bapp, List.append_assoc])
theorem joinB_one (a s : ByteArray) : joinB [a] s = a := bext (by show Lib.join [a.data.toList] s.data.toList = _; rw [Lib.join_one])
theorem joinB_two (a b : ByteArray) (l : List ByteArray) (s : ByteArray) : joinB (a :: b :: l) s = a ++ (s ++ joinB (b :: l) s) := bext (by
  rw [bapp, bapp]
  show Lib.join (a.data.toList :: b.data.toList :: l.map (·.data.toList)) s.data.toList = a.data.toList ++ (s.data.toList ++ Lib.join (b.data.toList :: l.map (·.data.toList)) s.data.toList)
  rw [Lib.join_cons, Lib.join_cons]
  unfold Lib.joinTail
  rw [List.map_cons, List.flatten_cons, List.append_assoc])
theorem dd_len {u : Nat} (h : u < 18446744073709551616) : (Lib.decDigits u).length ≤ 20 := by
  rw [Lib.decDigits_length]
  have key : ∀ (k u : Nat), u < 10 ^ (k + 1) → Lib.nDigits u ≤ k + 1 := by
    intro k
    induction k with
    | zero => intro u hu; rw [Lib.nDigits_small (by simpa using hu)]; exact Nat.le_refl _
    | succ k ih =>
      intro u hu
      by_cases h10 : u < 10
      · rw [Lib.nDigits_small h10]; omega
      · rw [Lib.nDigits_big h10]
        have := ih (u / 10) (by rw [Nat.div_lt_iff_lt_mul (by decide)]; rw [Nat.pow_succ] at hu; exact hu)
        omega
  exact key 19 u (Nat.lt_of_lt_of_le h (by decide))
theorem dg_size {n : Int} (h : In64 n) : (dg n).size ≤ 21 := by
  have e : (dg n).size = (Lib.itoa n).length := by simp [dg, ByteArray.size]
  rw [e]
  unfold Lib.itoa
  split
  · have := dd_len (u := n.natAbs) (by omega)
    simp only [List.length_cons]; omega
  · have := dd_len (u := n.toNat) (by omega)
    omega
set_option maxRecDepth 100000 in
set_option maxHeartbeats 2000000 in
theorem digits_v (n : Int) (h : In64 n) : VC Tryz.prog 24 ([i64 n]) (st (dg n)) := by
  have oz0 := @itoa_v (n) h
  exact VC.run (fn := Tryz.f24) (W := [.r [] [], .r [] [.callr (rO oz0)]]) Tryz.func24 (by kernel_rfl) (.c oz0 <| .n)
/-- The number when k digits are gone; the digits then. -/
def dvK (n : Int) : Nat → Int
  | 0 => n
  | k + 1 => dvK n k / 10
def whK (n : Int) : Nat → ByteArray
  | 0 => strOfNums [48 + n % 10]
  | k + 1 => strOfNums [48 + dvK n (k + 1) % 10] ++ whK n k
theorem dvK_in {n : Int} (h : 0 ≤ n) : ∀ k, 0 ≤ dvK n k ∧ dvK n k ≤ n
  | 0 => ⟨h, Int.le_refl _⟩
  | k + 1 => by have := dvK_in h k; unfold dvK; omega
theorem dvK_shift (n : Int) : ∀ k, dvK (n / 10) k = dvK n (k + 1)
  | 0 => rfl
  | k + 1 => by rw [dvK, dvK_shift n k]; rfl
theorem whK_shift (n : Int) : ∀ k, whK n (k + 1) = whK (n / 10) k ++ strOfNums [48 + n % 10]
  | 0 => rfl
  | k + 1 => by
    rw [whK, whK_shift n k, whK, dvK_shift, bassoc]
theorem whK_dd : ∀ (m : Nat) (n : Int), 0 ≤ n → (∀ k, k < m → 9 < dvK n k) → ¬ 9 < dvK n m → whK n m = ⟨(Lib.decDigits n.toNat).toArray⟩
  | 0, n, h0, _, h => by
    rw [Lib.decDigits, dif_pos (by unfold dvK at h; omega)]
    refine bext ?_
    unfold whK strOfNums
    unfold dvK at h
    simp only [List.map_cons, List.map_nil]
    congr 2; omega
  | m + 1, n, h0, hk, h => by
    have h9 := hk 0 (by omega)
    unfold dvK at h9
    rw [whK_shift, whK_dd m (n / 10) (by omega) (fun k hk' => by rw [dvK_shift]; exact hk (k + 1) (by omega)) (by rw [dvK_shift]; exact h), Lib.decDigits.eq_def n.toNat, dif_neg (by omega)]
    refine bext ?_
    rw [bapp]
    unfold strOfNums
    simp only [List.map_cons, List.map_nil]
    have e1 : (n / 10).toNat = n.toNat / 10 := by omega
    have e2 : (48 + n % 10).toNat = 48 + n.toNat % 10 := by omega
    rw [e1, e2]
theorem dv_ends {n : Int} (h : 0 ≤ n) : ∃ m, (∀ k, k < m → 9 < dvK n k) ∧ ¬ 9 < dvK n m := by
  have key : ∀ (d : Nat) (n : Int), 0 ≤ n → n ≤ d → ∃ m, (∀ k, k < m → 9 < dvK n k) ∧ ¬ 9 < dvK n m := by
    intro d
    induction d with
    | zero => intro n h0 h1; exact ⟨0, fun k hk => by omega, by unfold dvK; omega⟩
    | succ d ih =>
      intro n h0 h1
      by_cases h9 : 9 < n
      · obtain ⟨m, a, b⟩ := ih (n / 10) (by omega) (by omega)
        refine ⟨m + 1, fun k hk => ?_, by rw [← dvK_shift]; exact b⟩
        cases k with
        | zero => exact h9
        | succ k => rw [← dvK_shift]; exact a k (by omega)
      · exact ⟨0, fun k hk => by omega, h9⟩
  exact key n.toNat n h (by omega)
theorem whK_size (n : Int) : ∀ k, (whK n k).size = k + 1
  | 0 => by rw [whK, strOfNums_size]; rfl
  | k + 1 => by rw [whK, bapp_size, strOfNums_size, whK_size n k]; simp only [List.length_cons, List.length_nil]; omega
theorem dv_pow {n : Int} (h : 0 ≤ n) : ∀ k, dvK n k * 10 ^ k ≤ n
  | 0 => by unfold dvK; omega
  | k + 1 => by
    have q := dv_pow h k
    have q2 : dvK n k / 10 * 10 ≤ dvK n k := by omega
    have q3 : (0 : Int) ≤ 10 ^ k := Int.pow_nonneg (by decide)
    have := Int.mul_le_mul_of_nonneg_right q2 q3
    unfold dvK
    rw [Int.pow_succ, Int.mul_comm (10 ^ k) 10, ← Int.mul_assoc]; omega
theorem dv_rounds {n : Int} {m : Nat} (h : 0 ≤ n) (h1 : n ≤ 18446744073709551615) (hk : ∀ k, k < m → 9 < dvK n k) : m ≤ 20 := by
  apply Classical.byContradiction; intro hc
  have q := hk 20 (by omega)
  have q2 := dv_pow h 20
  have : (10 : Int) ^ 20 = 100000000000000000000 := by decide
  rw [this] at q2; omega
noncomputable def whole_l_I (n : Int) (m : Nat) (k : Nat) : VS := stt 23 [(0, u64 (dvK n k)), (3, st (whK n k))] []
noncomputable def whole_l_Z (n : Int) (m : Nat) : VS := whole_l_I n m (m)
set_option maxRecDepth 100000 in
set_option maxHeartbeats 2000000 in
theorem whole_l_s (n : Int) (m : Nat) (h0 : 0 ≤ n) (h1 : n ≤ 18446744073709551615) (hk' : ∀ k, k < m → 9 < dvK n k) (hm : ¬ 9 < dvK n m) (k : Nat) (hk : k < m) : VT Tryz.prog (fnC Tryz.f41 [1, 1, 0, 0, 0]) (whole_l_I n m k) .normal (whole_l_I n m (k + 1)) := by
  have q := dvK_in h0 k
  have q1 := hk' k hk
  have q2 := dv_rounds h0 h1 hk'
  have q3 : (strOfNums [48 + dvK n k / 10 % 10]).size = 1 := strOfNums_size _
  have q4 := whK_size n k
  have oz1 := (show (10 : Int) ≠ (0 : Int) by omega)
  have oz2 := (show IntKind.u64.wrap ((dvK n k).tdiv 10) = dvK n k / 10 from (Eq.trans (congrArg _ (Int.tdiv_eq_ediv_of_nonneg (by omega))) (by exact IntWalk.u64_in _ (by omega))))
  exact VT.run (W := [.r [] [], .br true, .r [] [.n (dvK n k / 10)], .r [] [.n (dvK n k / 10 % 10), .n (48 + dvK n k / 10 % 10), .n (48 + dvK n k / 10 % 10), .il [48 + dvK n k / 10 % 10], .v (Value.string (strOfNums [48 + dvK n k / 10 % 10] ++ whK n k))]]) (G := [.any (rg [(10, 12)]), .drop [18], .weak 0 (u64 (dvK n (k + 1))), .weak 3 (AV.lit (Value.string (whK n (k + 1)))), .sort]) (by kernel_rfl) (.c (decide_eq_true (p := (dvK n k > 9)) (by omega)) <| .c oz1 <| .c oz2 <| .c oz1 <| .c (show (dvK n k / 10).tmod 10 = dvK n k / 10 % 10 from (Int.tmod_eq_emod_of_nonneg (by omega))) <| .c (IntWalk.u64_in (48 + dvK n k / 10 % 10) (by omega)) <| .c (IntWalk.u8_in (48 + dvK n k / 10 % 10) (by omega)) <| .c (show [[u8 (48 + dvK n k / 10 % 10)]] = List.map (fun (n : Int) => [u8 n]) [48 + dvK n k / 10 % 10] by (simp; done)) <| .c (show BinTo Tryz.prog BinOp.add 9 (Operand.tmp 19) (Operand.tmp 20) (Value.string (strOfNums [48 + dvK n k / 10 % 10])) (Value.string (whK n k)) (Value.string (strOfNums [48 + dvK n k / 10 % 10] ++ whK n k)) from (bin_add (by omega))) <| .c (Weak.int (k := .u64) (show ((dvK n k / 10) : Int) = (dvK n (k + 1)) from (by rfl))) <| .c (show Weak (AV.lit (Value.string (strOfNums [48 + dvK n k / 10 % 10] ++ whK n k))) (AV.lit (Value.string (whK n (k + 1)))) from (Weak.str (show ((strOfNums [48 + dvK n k / 10 % 10] ++ whK n k) : ByteArray) = (whK n (k + 1)) from (by rfl)))) <| .n)
set_option maxRecDepth 100000 in
set_option maxHeartbeats 2000000 in
theorem whole_l_e (n : Int) (m : Nat) (h0 : 0 ≤ n) (h1 : n ≤ 18446744073709551615) (hk' : ∀ k, k < m → 9 < dvK n k) (hm : ¬ 9 < dvK n m) : VT Tryz.prog (fnC Tryz.f41 [1, 1, 0, 0, 0]) (whole_l_I n m (m)) (.exit 0) (whole_l_Z n m) := by
  exact VT.run (W := [.r [] [], .br false]) (G := [.any [10, 11], .sort]) (by kernel_rfl) (.c (decide_eq_false (p := (dvK n m > 9)) (by omega)) <| .n)
theorem whole_l (n : Int) (m : Nat) (h0 : 0 ≤ n) (h1 : n ≤ 18446744073709551615) (hk' : ∀ k, k < m → 9 < dvK n k) (hm : ¬ 9 < dvK n m) : VT Tryz.prog (fnC Tryz.f41 [1, 1, 0, 0]) (whole_l_I n m 0) (.exit 0) (whole_l_Z n m) :=
  VT.loop (fun k => whole_l_I n m k) (m) (fun k hk => whole_l_s n m h0 h1 hk' hm k hk) (whole_l_e n m h0 h1 hk' hm) (by intro h; cases h)

set_option maxRecDepth 100000 in
set_option maxHeartbeats 2000000 in
theorem whole_f (n : Int) (m : Nat) (h0 : 0 ≤ n) (h1 : n ≤ 18446744073709551615) (hk' : ∀ k, k < m → 9 < dvK n k) (hm : ¬ 9 < dvK n m) : VC Tryz.prog 41 ([u64 n]) (st (whK n m)) := by
  have oz6 := @whole_l (n) (m) h0 h1 hk' hm
  exact VC.run (fn := Tryz.f41) (W := [.r [] [], .r [] [.n (n % 10), .n (48 + n % 10), .n (48 + n % 10), .il [48 + n % 10]], .code [.any [2, 4, 5, 6, 7, 8, 9], .drop [8], .weak 3 (AV.lit (Value.string (whK n 0))), .sort] (Exit.exit 0) (zO oz6), .r [] []]) Tryz.func41 (by kernel_rfl) (.c (show (10 : Int) ≠ (0 : Int) by omega) <| .c (show n.tmod 10 = n % 10 from (Int.tmod_eq_emod_of_nonneg h0)) <| .c (IntWalk.u64_in (48 + n % 10) (by omega)) <| .c (IntWalk.u8_in (48 + n % 10) (by omega)) <| .c (show [[u8 (48 + n % 10)]] = List.map (fun (n : Int) => [u8 n]) [48 + n % 10] by (simp; done)) <| .c (show Weak (AV.lit (Value.string (strOfNums [48 + n % 10]))) (AV.lit (Value.string (whK n 0))) from (Weak.str (show ((strOfNums [48 + n % 10]) : ByteArray) = (whK n 0) from (by rfl)))) <| .c oz6 <| .n)
/-- The digits of a number without a sign. -/
def wh (n : Int) : ByteArray := ⟨(Lib.decDigits n.toNat).toArray⟩
theorem whole_v (n : Int) (h0 : 0 ≤ n) (h1 : n ≤ 18446744073709551615) : VC Tryz.prog 41 [u64 n] (st (wh n)) := by
  obtain ⟨m, h, g⟩ := dv_ends h0
  have := whole_f n m h0 h1 h g
  rw [whK_dd m n h0 h g] at this
  exact this
theorem wh_size {n : Int} (h0 : 0 ≤ n) (h1 : n ≤ 18446744073709551615) : (wh n).size ≤ 20 := by
  have e : (wh n).size = (Lib.decDigits n.toNat).length := by simp [wh, ByteArray.size]
  rw [e]; exact dd_len (by omega)
theorem dg_pos {n : Int} (h : 0 ≤ n) : dg n = wh n := by unfold dg wh Lib.itoa; rw [if_neg (by omega)]
theorem dg_neg {n : Int} (h : n < 0) : dg n = ⟨#[45]⟩ ++ wh (-(n + 1) + 1) := bext (by
  rw [bapp]
  unfold dg wh Lib.itoa
  rw [if_pos h]
  have : (-(n + 1) + 1).toNat = n.natAbs := by omega
  rw [this]; rfl)
set_option maxRecDepth 100000 in
set_option maxHeartbeats 2000000 in
theorem rdigits_v (n : Int) (h : In64 n) : VC Tryz.prog 22 ([i64 n]) (st (dg n)) := by
  have q := h.1
  have q1 := h.2
  have q2 : (ByteArray.mk #[45]).size = 1 := rfl
  have q3 : n < 0 → (wh (0 - (n + 1) + 1)).size ≤ 20 := fun hn => wh_size (by omega) (by omega)
  rcases Bool.eq_false_or_eq_true (decide (n ≥ 0)) with hc0 | hc0
  · have gc0 := of_decide_eq_true hc0
    have oz2 := @whole_v (n) (by with_reducible assumption) (by omega)
    exact (VC.run (fn := Tryz.f22) (W := [.r [] [], .r [] [], .br true, .r [] [.n n, .callr (rO oz2)]]) (r := AV.lit (Value.string (wh n))) Tryz.func22 (by kernel_rfl) (.c hc0 <| .c (IntWalk.u64_in n (by omega)) <| .c oz2 <| .n)).weak (WeakL.refl _) (Weak.str (show ((wh n) : ByteArray) = (dg n) from (by (rw [dg_pos (by omega)]))))
  · have gc0 := of_decide_eq_false hc0
    have oz5 := @whole_v (0 - (n + 1) + 1) (by omega) (by omega)
    exact (VC.run (fn := Tryz.f22) (W := [.r [] [], .r [] [], .br false, .r [] [.n (n + 1), .n (0 - (n + 1)), .n (0 - (n + 1)), .n (0 - (n + 1) + 1), .callr (rO oz5), .v (Value.string (ByteArray.mk #[45] ++ wh (0 - (n + 1) + 1)))]]) (r := AV.lit (Value.string (ByteArray.mk #[45] ++ wh (0 - (n + 1) + 1)))) Tryz.func22 (by kernel_rfl) (.c hc0 <| .c (IntWalk.i64_in (n + 1) (by omega)) <| .c (IntWalk.i64_in (0 - (n + 1)) (by omega)) <| .c (IntWalk.u64_in (0 - (n + 1)) (by omega)) <| .c (IntWalk.u64_in (0 - (n + 1) + 1) (by omega)) <| .c oz5 <| .c (show BinTo Tryz.prog BinOp.add 9 (Operand.const (Value.string (ByteArray.mk #[45]))) (Operand.tmp 13) (Value.string (ByteArray.mk #[45])) (Value.string (wh (0 - (n + 1) + 1))) (Value.string (ByteArray.mk #[45] ++ wh (0 - (n + 1) + 1))) from (bin_add (by omega))) <| .n)).weak (WeakL.refl _) (Weak.str (show ((ByteArray.mk #[45] ++ wh (0 - (n + 1) + 1)) : ByteArray) = (dg n) from (by (rw [dg_neg (by omega), show -(n + 1) + 1 = 0 - (n + 1) + 1 by omega]))))
/-- A shape in words. -/
def shS (a : Shp) : ByteArray := dg a.h ++ ⟨#[120]⟩ ++ dg a.x ++ ⟨#[120]⟩ ++ dg a.c
structure ShB (a : Shp) : Prop where
  h : (dg a.h).size ≤ 21
  x : (dg a.x).size ≤ 21
  c : (dg a.c).size ≤ 21
  l : (ByteArray.mk #[120]).size = 1
theorem shB {a : Shp} (h : a.Ok) : ShB a := ⟨dg_size h.h, dg_size h.x, dg_size h.c, rfl⟩
theorem shS_size {a : Shp} (h : a.Ok) : (shS a).size ≤ 65 := by
  have q := shB h
  have := q.h; have := q.x; have := q.c; have := q.l
  simp only [shS, bapp_size]; omega
set_option maxRecDepth 100000 in
set_option maxHeartbeats 2000000 in
theorem shape50_v (a : Shp) (h : a.Ok) : VC Tryz.prog 11 ([shp a]) (st (shS a)) := by
  have q := shB h
  have q1 := q.h
  have q2 := q.x
  have q3 := q.c
  have q4 := q.l
  have q5 := h.h
  have q6 := h.x
  have q7 := h.c
  have oz0 := @digits_v (a.h) q5
  have oz2 := @digits_v (a.x) q6
  have oz5 := @digits_v (a.c) q7
  exact (VC.run (fn := Tryz.f11) (W := [.r [] [], .r [] [.callr (rO oz0), .v (Value.string (dg a.h ++ ByteArray.mk #[120])), .callr (rO oz2), .v (Value.string (dg a.h ++ ByteArray.mk #[120] ++ dg a.x)), .v (Value.string (dg a.h ++ ByteArray.mk #[120] ++ dg a.x ++ ByteArray.mk #[120])), .callr (rO oz5), .v (Value.string (dg a.h ++ ByteArray.mk #[120] ++ dg a.x ++ ByteArray.mk #[120] ++ dg a.c))]]) (r := AV.lit (Value.string (dg a.h ++ ByteArray.mk #[120] ++ dg a.x ++ ByteArray.mk #[120] ++ dg a.c))) Tryz.func11 (by kernel_rfl) (.c oz0 <| .c (show BinTo Tryz.prog BinOp.add 9 (Operand.tmp 5) (Operand.const (Value.string (ByteArray.mk #[120]))) (Value.string (dg a.h)) (Value.string (ByteArray.mk #[120])) (Value.string (dg a.h ++ ByteArray.mk #[120])) from (bin_add (by omega))) <| .c oz2 <| .c (show BinTo Tryz.prog BinOp.add 9 (Operand.tmp 6) (Operand.tmp 9) (Value.string (dg a.h ++ ByteArray.mk #[120])) (Value.string (dg a.x)) (Value.string (dg a.h ++ ByteArray.mk #[120] ++ dg a.x)) from (bin_add (by (simp only [bapp_size]; omega)))) <| .c (show BinTo Tryz.prog BinOp.add 9 (Operand.tmp 10) (Operand.const (Value.string (ByteArray.mk #[120]))) (Value.string (dg a.h ++ ByteArray.mk #[120] ++ dg a.x)) (Value.string (ByteArray.mk #[120])) (Value.string (dg a.h ++ ByteArray.mk #[120] ++ dg a.x ++ ByteArray.mk #[120])) from (bin_add (by (simp only [bapp_size]; omega)))) <| .c oz5 <| .c (show BinTo Tryz.prog BinOp.add 9 (Operand.tmp 11) (Operand.tmp 14) (Value.string (dg a.h ++ ByteArray.mk #[120] ++ dg a.x ++ ByteArray.mk #[120])) (Value.string (dg a.c)) (Value.string (dg a.h ++ ByteArray.mk #[120] ++ dg a.x ++ ByteArray.mk #[120] ++ dg a.c)) from (bin_add (by (simp only [bapp_size]; omega)))) <| .n)).weak (WeakL.refl _) (Weak.str (show ((dg a.h ++ ByteArray.mk #[120] ++ dg a.x ++ ByteArray.mk #[120] ++ dg a.c) : ByteArray) = (shS a) from (by rfl)))

set_option maxRecDepth 100000 in
set_option maxHeartbeats 2000000 in
theorem rshape50_v (a : Shp) (h : a.Ok) : VC Tryz.prog 12 ([shp a]) (st (shS a)) := by
  have q := shB h
  have q1 := q.h
  have q2 := q.x
  have q3 := q.c
  have q4 := q.l
  have q5 := h.h
  have q6 := h.x
  have q7 := h.c
  have oz0 := @rdigits_v (a.h) q5
  have oz2 := @rdigits_v (a.x) q6
  have oz5 := @rdigits_v (a.c) q7
  exact (VC.run (fn := Tryz.f12) (W := [.r [] [], .r [] [.callr (rO oz0), .v (Value.string (dg a.h ++ ByteArray.mk #[120])), .callr (rO oz2), .v (Value.string (dg a.h ++ ByteArray.mk #[120] ++ dg a.x)), .v (Value.string (dg a.h ++ ByteArray.mk #[120] ++ dg a.x ++ ByteArray.mk #[120])), .callr (rO oz5), .v (Value.string (dg a.h ++ ByteArray.mk #[120] ++ dg a.x ++ ByteArray.mk #[120] ++ dg a.c))]]) (r := AV.lit (Value.string (dg a.h ++ ByteArray.mk #[120] ++ dg a.x ++ ByteArray.mk #[120] ++ dg a.c))) Tryz.func12 (by kernel_rfl) (.c oz0 <| .c (show BinTo Tryz.prog BinOp.add 9 (Operand.tmp 5) (Operand.const (Value.string (ByteArray.mk #[120]))) (Value.string (dg a.h)) (Value.string (ByteArray.mk #[120])) (Value.string (dg a.h ++ ByteArray.mk #[120])) from (bin_add (by omega))) <| .c oz2 <| .c (show BinTo Tryz.prog BinOp.add 9 (Operand.tmp 6) (Operand.tmp 9) (Value.string (dg a.h ++ ByteArray.mk #[120])) (Value.string (dg a.x)) (Value.string (dg a.h ++ ByteArray.mk #[120] ++ dg a.x)) from (bin_add (by (simp only [bapp_size]; omega)))) <| .c (show BinTo Tryz.prog BinOp.add 9 (Operand.tmp 10) (Operand.const (Value.string (ByteArray.mk #[120]))) (Value.string (dg a.h ++ ByteArray.mk #[120] ++ dg a.x)) (Value.string (ByteArray.mk #[120])) (Value.string (dg a.h ++ ByteArray.mk #[120] ++ dg a.x ++ ByteArray.mk #[120])) from (bin_add (by (simp only [bapp_size]; omega)))) <| .c oz5 <| .c (show BinTo Tryz.prog BinOp.add 9 (Operand.tmp 11) (Operand.tmp 14) (Value.string (dg a.h ++ ByteArray.mk #[120] ++ dg a.x ++ ByteArray.mk #[120])) (Value.string (dg a.c)) (Value.string (dg a.h ++ ByteArray.mk #[120] ++ dg a.x ++ ByteArray.mk #[120] ++ dg a.c)) from (bin_add (by (simp only [bapp_size]; omega)))) <| .n)).weak (WeakL.refl _) (Weak.str (show ((dg a.h ++ ByteArray.mk #[120] ++ dg a.x ++ ByteArray.mk #[120] ++ dg a.c) : ByteArray) = (shS a) from (by rfl)))
end Go.Proofs.YtdmkhinckljddaaGreatDoor

/- Lines for nodes and blocks, by the program and by the document. No condition. -/
namespace Go.Proofs.YtdmkhinckljddaaGreatDoor
open Go.RowKit
set_option linter.unusedSimpArgs false
set_option linter.unusedVariables false
set_option linter.unnecessarySimpa false

abbrev joinS (l : List ByteArray) : ByteArray := joinB l ⟨#[32]⟩
set_option maxRecDepth 100000 in
set_option maxHeartbeats 2000000 in
theorem joined_v (l : List ByteArray) (h : (joinS l).size ≤ 140737488355328) (hn : l.length ≤ 100000) : VC Tryz.prog 26 ([strs l]) (st (joinS l)) := by
  have oz0 := @join_v (l) (ByteArray.mk #[32]) h hn
  exact VC.run (fn := Tryz.f26) (W := [.r [] [], .r [] [.callr (rO oz0)]]) Tryz.func26 (by kernel_rfl) (.c oz0 <| .n)
theorem nameS_size (k : Int) : (nameS k).size ≤ 7 := by
  have key : ∀ s ∈ kindNames, s.size ≤ 7 := by decide
  unfold nameS
  rw [List.getD_eq_getElem?_getD]
  cases h : kindNames[k.toNat]? with
  | none => decide
  | some s => exact key s (List.mem_of_getElem? h)
/-- A node's line. -/
def nodeS (n : Nod) (a : Shp) : ByteArray := if n.kd = 6 then ⟨#[32, 32]⟩ ++ nameS n.kd ++ ⟨#[32]⟩ ++ dg n.na ++ ⟨#[32]⟩ ++ dg n.nb ++ ⟨#[32, 116, 111, 32]⟩ ++ shS a else ⟨#[32, 32]⟩ ++ nameS n.kd ++ ⟨#[32]⟩ ++ dg n.na ++ ⟨#[32, 116, 111, 32]⟩ ++ shS a
structure NdB (n : Nod) (a : Shp) : Prop where
  hk : (nameS n.kd).size ≤ 7
  ha : (dg n.na).size ≤ 21
  hb : (dg n.nb).size ≤ 21
  hs : (shS a).size ≤ 65
  l1 : (ByteArray.mk #[32]).size = 1
  l2 : (ByteArray.mk #[32, 32]).size = 2
  l3 : (ByteArray.mk #[116, 111]).size = 2
  l4 : (ByteArray.mk #[32, 116, 111, 32]).size = 4
theorem ndB {n : Nod} {a : Shp} (h : n.Ok) (g : a.Ok) : NdB n a := ⟨nameS_size _, dg_size h.na, dg_size h.nb, shS_size g, rfl, rfl, rfl, rfl⟩
theorem nodeS_size {n : Nod} {a : Shp} (h : n.Ok) (g : a.Ok) : (nodeS n a).size ≤ 200 := by
  obtain ⟨q1, q2, q3, q4, q5, q6, q7, q8⟩ := ndB h g
  unfold nodeS
  split <;> simp only [bapp_size] <;> omega
theorem joinS_6 (n : Nod) (a : Shp) (h : n.kd = 6) : joinS [⟨#[32]⟩, nameS n.kd, dg n.na, dg n.nb, ⟨#[116, 111]⟩, shS a] = nodeS n a := by
  unfold joinS nodeS
  rw [if_pos h]
  refine bext ?_
  simp only [joinB_two, joinB_one, bapp, List.append_assoc]; rfl
theorem joinS_n (n : Nod) (a : Shp) (h : n.kd ≠ 6) : joinS [⟨#[32]⟩, nameS n.kd, dg n.na, ⟨#[116, 111]⟩, shS a] = nodeS n a := by
  unfold joinS nodeS
  rw [if_neg h]
  refine bext ?_
  simp only [joinB_two, joinB_one, bapp, List.append_assoc]; rfl
set_option maxRecDepth 100000 in
set_option maxHeartbeats 2000000 in
theorem node50_6 (n : Nod) (a : Shp) (ok : n.Ok) (oka : a.Ok) (h : n.kd = 6) : VC Tryz.prog 13 ([nod n, shp a]) (st (joinS [⟨#[32]⟩, nameS n.kd, dg n.na, dg n.nb, ⟨#[116, 111]⟩, shS a])) := by
  have q0 := nodeS_size ok oka
  rw [← joinS_6 n a h] at q0
  have e1 := ok.kd
  have e2 := ok.na
  have e3 := ok.nb
  have oz0 := @name_v (n.kd) e1
  have oz1 := @digits_v (n.na) e2
  have oz3 := @digits_v (n.nb) e3
  have oz6 := @shape50_v (a) oka
  have oz10 := @joined_v ([ByteArray.mk #[32], nameS n.kd, dg n.na, dg n.nb, ByteArray.mk #[116, 111], shS a]) (by omega) (by (simp; done))
  exact VC.run (fn := Tryz.f13) (W := [.r [] [], .r [] [.callr (rO oz0), .callr (rO oz1)], .r [] [], .br true, .r [] [.callr (rO oz3)], .r [] [.callr (rO oz6), .call (aO oz10) (rO oz10)]]) Tryz.func13 (by kernel_rfl) (.c oz0 <| .c oz1 <| .c (show (n.kd == 6) = true by (refine decide_eq_true ?_; omega)) <| .c oz3 <| .c (show (3 + 1) * 16 ≤ 140737488355328 by omega) <| .c (show 3 + 1 ≤ 9223372036854775807 by omega) <| .c oz6 <| .c (show (4 + 2) * 16 ≤ 140737488355328 by omega) <| .c (show 4 + 2 ≤ 9223372036854775807 by omega) <| .c (show WeakL [AV.sl 1 [[AV.lit (Value.string (ByteArray.mk #[32]))], [AV.lit (Value.string (nameS n.kd))], [AV.lit (Value.string (dg n.na))], [AV.lit (Value.string (dg n.nb))], [AV.lit (Value.string (ByteArray.mk #[116, 111]))], [AV.lit (Value.string (shS a))]]] [AV.sl 1 [[AV.lit (Value.string (ByteArray.mk #[32]))], [AV.lit (Value.string (nameS n.kd))], [AV.lit (Value.string (dg n.na))], [AV.lit (Value.string (dg n.nb))], [AV.lit (Value.string (ByteArray.mk #[116, 111]))], [AV.lit (Value.string (shS a))]]] from (.cons (Weak.rows (rows_to (rowS) (r := [[AV.lit (Value.string (ByteArray.mk #[32]))], [AV.lit (Value.string (nameS n.kd))], [AV.lit (Value.string (dg n.na))], [AV.lit (Value.string (dg n.nb))], [AV.lit (Value.string (ByteArray.mk #[116, 111]))], [AV.lit (Value.string (shS a))]]) (l := [ByteArray.mk #[32], nameS n.kd, dg n.na, dg n.nb, ByteArray.mk #[116, 111], shS a]) (m := [ByteArray.mk #[32], nameS n.kd, dg n.na, dg n.nb, ByteArray.mk #[116, 111], shS a]) (by first | (simp only [List.map_append, List.map_cons, List.map_nil, List.map_set, List.map_replicate, List.map_take, List.map_drop]; done) | rfl | (simp only [List.map_append, List.map_cons, List.map_nil, List.map_set, List.map_replicate, List.map_take, List.map_drop]; rfl) | (simp only [List.map_append, List.map_cons, List.map_nil, List.map_set, List.map_replicate, List.map_take, List.map_drop, rowS, ints]; done)) rfl)) .nil)) <| .c oz10 <| .n)

set_option maxRecDepth 100000 in
set_option maxHeartbeats 2000000 in
theorem node50_n (n : Nod) (a : Shp) (ok : n.Ok) (oka : a.Ok) (h : n.kd ≠ 6) : VC Tryz.prog 13 ([nod n, shp a]) (st (joinS [⟨#[32]⟩, nameS n.kd, dg n.na, ⟨#[116, 111]⟩, shS a])) := by
  have q0 := nodeS_size ok oka
  rw [← joinS_n n a h] at q0
  have e1 := ok.kd
  have e2 := ok.na
  have oz0 := @name_v (n.kd) e1
  have oz1 := @digits_v (n.na) e2
  have oz3 := @shape50_v (a) oka
  have oz7 := @joined_v ([ByteArray.mk #[32], nameS n.kd, dg n.na, ByteArray.mk #[116, 111], shS a]) (by omega) (by (simp; done))
  exact VC.run (fn := Tryz.f13) (W := [.r [] [], .r [] [.callr (rO oz0), .callr (rO oz1)], .r [] [], .br false, .r [] [.callr (rO oz3), .call (aO oz7) (rO oz7)]]) Tryz.func13 (by kernel_rfl) (.c oz0 <| .c oz1 <| .c (show (n.kd == 6) = false by (refine decide_eq_false ?_; omega)) <| .c oz3 <| .c (show (3 + 2) * 16 ≤ 140737488355328 by omega) <| .c (show 3 + 2 ≤ 9223372036854775807 by omega) <| .c (show WeakL [AV.sl 1 [[AV.lit (Value.string (ByteArray.mk #[32]))], [AV.lit (Value.string (nameS n.kd))], [AV.lit (Value.string (dg n.na))], [AV.lit (Value.string (ByteArray.mk #[116, 111]))], [AV.lit (Value.string (shS a))]]] [AV.sl 1 [[AV.lit (Value.string (ByteArray.mk #[32]))], [AV.lit (Value.string (nameS n.kd))], [AV.lit (Value.string (dg n.na))], [AV.lit (Value.string (ByteArray.mk #[116, 111]))], [AV.lit (Value.string (shS a))]]] from (.cons (Weak.rows (rows_to (rowS) (r := [[AV.lit (Value.string (ByteArray.mk #[32]))], [AV.lit (Value.string (nameS n.kd))], [AV.lit (Value.string (dg n.na))], [AV.lit (Value.string (ByteArray.mk #[116, 111]))], [AV.lit (Value.string (shS a))]]) (l := [ByteArray.mk #[32], nameS n.kd, dg n.na, ByteArray.mk #[116, 111], shS a]) (m := [ByteArray.mk #[32], nameS n.kd, dg n.na, ByteArray.mk #[116, 111], shS a]) (by first | (simp only [List.map_append, List.map_cons, List.map_nil, List.map_set, List.map_replicate, List.map_take, List.map_drop]; done) | rfl | (simp only [List.map_append, List.map_cons, List.map_nil, List.map_set, List.map_replicate, List.map_take, List.map_drop]; rfl) | (simp only [List.map_append, List.map_cons, List.map_nil, List.map_set, List.map_replicate, List.map_take, List.map_drop, rowS, ints]; done)) rfl)) .nil)) <| .c oz7 <| .n)
theorem node50_v (n : Nod) (a : Shp) (ok : n.Ok) (oka : a.Ok) : VC Tryz.prog 13 [nod n, shp a] (st (nodeS n a)) := by
  by_cases h : n.kd = 6
  · rw [← joinS_6 n a h]; exact node50_6 n a ok oka h
  · rw [← joinS_n n a h]; exact node50_n n a ok oka h
set_option maxRecDepth 100000 in
set_option maxHeartbeats 2000000 in
theorem rnode50_6 (n : Nod) (a : Shp) (ok : n.Ok) (oka : a.Ok) (h : n.kd = 6) : VC Tryz.prog 14 ([nod n, shp a]) (st (nodeS n a)) := by
  obtain ⟨q1, q2, q3, q4, q5, q6, q7, q8⟩ := ndB ok oka
  have e1 := ok.kd
  have e2 := ok.na
  have e3 := ok.nb
  have oz0 := @refName_v (n.kd) e1
  have oz3 := @rdigits_v (n.na) e2
  have oz7 := @rdigits_v (n.nb) e3
  have oz10 := @rshape50_v (a) oka
  exact (VC.run (fn := Tryz.f14) (W := [.r [] [], .r [] [.callr (rO oz0), .v (Value.string (ByteArray.mk #[32, 32] ++ nameS n.kd)), .v (Value.string (ByteArray.mk #[32, 32] ++ nameS n.kd ++ ByteArray.mk #[32])), .callr (rO oz3), .v (Value.string (ByteArray.mk #[32, 32] ++ nameS n.kd ++ ByteArray.mk #[32] ++ dg n.na))], .r [] [], .br true, .r [] [.v (Value.string (ByteArray.mk #[32, 32] ++ nameS n.kd ++ ByteArray.mk #[32] ++ dg n.na ++ ByteArray.mk #[32])), .callr (rO oz7), .v (Value.string (ByteArray.mk #[32, 32] ++ nameS n.kd ++ ByteArray.mk #[32] ++ dg n.na ++ ByteArray.mk #[32] ++ dg n.nb))], .r [] [.v (Value.string (ByteArray.mk #[32, 32] ++ nameS n.kd ++ ByteArray.mk #[32] ++ dg n.na ++ ByteArray.mk #[32] ++ dg n.nb ++ ByteArray.mk #[32, 116, 111, 32])), .callr (rO oz10), .v (Value.string (ByteArray.mk #[32, 32] ++ nameS n.kd ++ ByteArray.mk #[32] ++ dg n.na ++ ByteArray.mk #[32] ++ dg n.nb ++ ByteArray.mk #[32, 116, 111, 32] ++ shS a))]]) (r := AV.lit (Value.string (ByteArray.mk #[32, 32] ++ nameS n.kd ++ ByteArray.mk #[32] ++ dg n.na ++ ByteArray.mk #[32] ++ dg n.nb ++ ByteArray.mk #[32, 116, 111, 32] ++ shS a))) Tryz.func14 (by kernel_rfl) (.c oz0 <| .c (show BinTo Tryz.prog BinOp.add 9 (Operand.const (Value.string (ByteArray.mk #[32, 32]))) (Operand.tmp 8) (Value.string (ByteArray.mk #[32, 32])) (Value.string (nameS n.kd)) (Value.string (ByteArray.mk #[32, 32] ++ nameS n.kd)) from (bin_add (by omega))) <| .c (show BinTo Tryz.prog BinOp.add 9 (Operand.tmp 9) (Operand.const (Value.string (ByteArray.mk #[32]))) (Value.string (ByteArray.mk #[32, 32] ++ nameS n.kd)) (Value.string (ByteArray.mk #[32])) (Value.string (ByteArray.mk #[32, 32] ++ nameS n.kd ++ ByteArray.mk #[32])) from (bin_add (by (simp only [bapp_size]; omega)))) <| .c oz3 <| .c (show BinTo Tryz.prog BinOp.add 9 (Operand.tmp 10) (Operand.tmp 13) (Value.string (ByteArray.mk #[32, 32] ++ nameS n.kd ++ ByteArray.mk #[32])) (Value.string (dg n.na)) (Value.string (ByteArray.mk #[32, 32] ++ nameS n.kd ++ ByteArray.mk #[32] ++ dg n.na)) from (bin_add (by (simp only [bapp_size]; omega)))) <| .c (show (n.kd == 6) = true by (refine decide_eq_true ?_; omega)) <| .c (show BinTo Tryz.prog BinOp.add 9 (Operand.tmp 18) (Operand.const (Value.string (ByteArray.mk #[32]))) (Value.string (ByteArray.mk #[32, 32] ++ nameS n.kd ++ ByteArray.mk #[32] ++ dg n.na)) (Value.string (ByteArray.mk #[32])) (Value.string (ByteArray.mk #[32, 32] ++ nameS n.kd ++ ByteArray.mk #[32] ++ dg n.na ++ ByteArray.mk #[32])) from (bin_add (by (simp only [bapp_size]; omega)))) <| .c oz7 <| .c (show BinTo Tryz.prog BinOp.add 9 (Operand.tmp 19) (Operand.tmp 22) (Value.string (ByteArray.mk #[32, 32] ++ nameS n.kd ++ ByteArray.mk #[32] ++ dg n.na ++ ByteArray.mk #[32])) (Value.string (dg n.nb)) (Value.string (ByteArray.mk #[32, 32] ++ nameS n.kd ++ ByteArray.mk #[32] ++ dg n.na ++ ByteArray.mk #[32] ++ dg n.nb)) from (bin_add (by (simp only [bapp_size]; omega)))) <| .c (show BinTo Tryz.prog BinOp.add 9 (Operand.tmp 24) (Operand.const (Value.string (ByteArray.mk #[32, 116, 111, 32]))) (Value.string (ByteArray.mk #[32, 32] ++ nameS n.kd ++ ByteArray.mk #[32] ++ dg n.na ++ ByteArray.mk #[32] ++ dg n.nb)) (Value.string (ByteArray.mk #[32, 116, 111, 32])) (Value.string (ByteArray.mk #[32, 32] ++ nameS n.kd ++ ByteArray.mk #[32] ++ dg n.na ++ ByteArray.mk #[32] ++ dg n.nb ++ ByteArray.mk #[32, 116, 111, 32])) from (bin_add (by (simp only [bapp_size]; omega)))) <| .c oz10 <| .c (show BinTo Tryz.prog BinOp.add 9 (Operand.tmp 25) (Operand.tmp 27) (Value.string (ByteArray.mk #[32, 32] ++ nameS n.kd ++ ByteArray.mk #[32] ++ dg n.na ++ ByteArray.mk #[32] ++ dg n.nb ++ ByteArray.mk #[32, 116, 111, 32])) (Value.string (shS a)) (Value.string (ByteArray.mk #[32, 32] ++ nameS n.kd ++ ByteArray.mk #[32] ++ dg n.na ++ ByteArray.mk #[32] ++ dg n.nb ++ ByteArray.mk #[32, 116, 111, 32] ++ shS a)) from (bin_add (by (simp only [bapp_size]; omega)))) <| .n)).weak (WeakL.refl _) (Weak.str (show ((ByteArray.mk #[32, 32] ++ nameS n.kd ++ ByteArray.mk #[32] ++ dg n.na ++ ByteArray.mk #[32] ++ dg n.nb ++ ByteArray.mk #[32, 116, 111, 32] ++ shS a) : ByteArray) = (nodeS n a) from (by (unfold nodeS; rw [if_pos h]))))

set_option maxRecDepth 100000 in
set_option maxHeartbeats 2000000 in
theorem rnode50_n (n : Nod) (a : Shp) (ok : n.Ok) (oka : a.Ok) (h : n.kd ≠ 6) : VC Tryz.prog 14 ([nod n, shp a]) (st (nodeS n a)) := by
  obtain ⟨q1, q2, q3, q4, q5, q6, q7, q8⟩ := ndB ok oka
  have e1 := ok.kd
  have e2 := ok.na
  have oz0 := @refName_v (n.kd) e1
  have oz3 := @rdigits_v (n.na) e2
  have oz7 := @rshape50_v (a) oka
  exact (VC.run (fn := Tryz.f14) (W := [.r [] [], .r [] [.callr (rO oz0), .v (Value.string (ByteArray.mk #[32, 32] ++ nameS n.kd)), .v (Value.string (ByteArray.mk #[32, 32] ++ nameS n.kd ++ ByteArray.mk #[32])), .callr (rO oz3), .v (Value.string (ByteArray.mk #[32, 32] ++ nameS n.kd ++ ByteArray.mk #[32] ++ dg n.na))], .r [] [], .br false, .r [] [.v (Value.string (ByteArray.mk #[32, 32] ++ nameS n.kd ++ ByteArray.mk #[32] ++ dg n.na ++ ByteArray.mk #[32, 116, 111, 32])), .callr (rO oz7), .v (Value.string (ByteArray.mk #[32, 32] ++ nameS n.kd ++ ByteArray.mk #[32] ++ dg n.na ++ ByteArray.mk #[32, 116, 111, 32] ++ shS a))]]) (r := AV.lit (Value.string (ByteArray.mk #[32, 32] ++ nameS n.kd ++ ByteArray.mk #[32] ++ dg n.na ++ ByteArray.mk #[32, 116, 111, 32] ++ shS a))) Tryz.func14 (by kernel_rfl) (.c oz0 <| .c (show BinTo Tryz.prog BinOp.add 9 (Operand.const (Value.string (ByteArray.mk #[32, 32]))) (Operand.tmp 8) (Value.string (ByteArray.mk #[32, 32])) (Value.string (nameS n.kd)) (Value.string (ByteArray.mk #[32, 32] ++ nameS n.kd)) from (bin_add (by omega))) <| .c (show BinTo Tryz.prog BinOp.add 9 (Operand.tmp 9) (Operand.const (Value.string (ByteArray.mk #[32]))) (Value.string (ByteArray.mk #[32, 32] ++ nameS n.kd)) (Value.string (ByteArray.mk #[32])) (Value.string (ByteArray.mk #[32, 32] ++ nameS n.kd ++ ByteArray.mk #[32])) from (bin_add (by (simp only [bapp_size]; omega)))) <| .c oz3 <| .c (show BinTo Tryz.prog BinOp.add 9 (Operand.tmp 10) (Operand.tmp 13) (Value.string (ByteArray.mk #[32, 32] ++ nameS n.kd ++ ByteArray.mk #[32])) (Value.string (dg n.na)) (Value.string (ByteArray.mk #[32, 32] ++ nameS n.kd ++ ByteArray.mk #[32] ++ dg n.na)) from (bin_add (by (simp only [bapp_size]; omega)))) <| .c (show (n.kd == 6) = false by (refine decide_eq_false ?_; omega)) <| .c (show BinTo Tryz.prog BinOp.add 9 (Operand.tmp 24) (Operand.const (Value.string (ByteArray.mk #[32, 116, 111, 32]))) (Value.string (ByteArray.mk #[32, 32] ++ nameS n.kd ++ ByteArray.mk #[32] ++ dg n.na)) (Value.string (ByteArray.mk #[32, 116, 111, 32])) (Value.string (ByteArray.mk #[32, 32] ++ nameS n.kd ++ ByteArray.mk #[32] ++ dg n.na ++ ByteArray.mk #[32, 116, 111, 32])) from (bin_add (by (simp only [bapp_size]; omega)))) <| .c oz7 <| .c (show BinTo Tryz.prog BinOp.add 9 (Operand.tmp 25) (Operand.tmp 27) (Value.string (ByteArray.mk #[32, 32] ++ nameS n.kd ++ ByteArray.mk #[32] ++ dg n.na ++ ByteArray.mk #[32, 116, 111, 32])) (Value.string (shS a)) (Value.string (ByteArray.mk #[32, 32] ++ nameS n.kd ++ ByteArray.mk #[32] ++ dg n.na ++ ByteArray.mk #[32, 116, 111, 32] ++ shS a)) from (bin_add (by (simp only [bapp_size]; omega)))) <| .n)).weak (WeakL.refl _) (Weak.str (show ((ByteArray.mk #[32, 32] ++ nameS n.kd ++ ByteArray.mk #[32] ++ dg n.na ++ ByteArray.mk #[32, 116, 111, 32] ++ shS a) : ByteArray) = (nodeS n a) from (by (unfold nodeS; rw [if_neg h]))))
theorem rnode50_v (n : Nod) (a : Shp) (ok : n.Ok) (oka : a.Ok) : VC Tryz.prog 14 [nod n, shp a] (st (nodeS n a)) := by
  by_cases h : n.kd = 6
  · exact rnode50_6 n a ok oka h
  · exact rnode50_n n a ok oka h
end Go.Proofs.YtdmkhinckljddaaGreatDoor

/- What must come of fixed calls: lines of the empty bundle. No condition. -/
namespace Go.Proofs.YtdmkhinckljddaaGreatDoor
open Go.RowKit
set_option linter.unusedSimpArgs false
set_option linter.unusedVariables false
set_option linter.unnecessarySimpa false

abbrev bun0 : AV := .agg [i64 0, i64 0, i64 0, i64 0, nilv]
abbrev nilp : AV := .lit (.pointer none)
set_option maxRecDepth 100000 in
set_option maxHeartbeats 2000000 in
theorem whole0   : VC Tryz.prog 47 ([bun0]) (i64 5) := by
  have e5 : (Shp.mk 0 0 0).Ok := ⟨⟨by decide, by decide⟩, ⟨by decide, by decide⟩, ⟨by decide, by decide⟩⟩
  have oz0 := @sRight_v (Shp.mk 0 0 0) e5
  exact VC.run (fn := Tryz.f47) (W := [.r [] [], .r [] [.callr (rO oz0)], .br true, .r [] []]) Tryz.func47 (by kernel_rfl) (.c oz0 <| .c (show true = true by with_reducible rfl) <| .n)

set_option maxRecDepth 100000 in
set_option maxHeartbeats 2000000 in
theorem vbun0   : VC Tryz.prog 28 ([bun0]) (.agg [i64 5, i64 (-1), i64 (-1), i64 (-1)]) := by
  have oz0 := @whole0
  exact VC.run (fn := Tryz.f28) (W := [.r [] [], .r [] [.callr (rO oz0)], .r [] [], .br true, .r [] []]) Tryz.func28 (by kernel_rfl) (.c oz0 <| .c (show true = true by with_reducible rfl) <| .n)

set_option maxRecDepth 100000 in
set_option maxHeartbeats 2000000 in
theorem new0   : VC Tryz.prog 16 ([bun0]) (.tup [nilp, i64 5]) := by
  have oz0 := @vbun0
  exact VC.run (fn := Tryz.f16) (W := [.r [] [], .r [] [.callr (rO oz0)], .r [] [], .br true, .r [] []]) Tryz.func16 (by kernel_rfl) (.c oz0 <| .c (show true = true by with_reducible rfl) <| .n)

set_option maxRecDepth 100000 in
set_option maxHeartbeats 2000000 in
theorem lines0   : VC Tryz.prog 8 ([bun0]) (.tup [nilv, i64 5]) := by
  have oz0 := @new0
  exact VC.run (fn := Tryz.f8) (W := [.r [] [], .r [] [.callr (rO oz0)], .r [] [], .br true, .r [] []]) Tryz.func8 (by kernel_rfl) (.c oz0 <| .c (show true = true by with_reducible rfl) <| .n)

set_option maxRecDepth 100000 in
set_option maxHeartbeats 2000000 in
theorem text0   : VC Tryz.prog 9 ([bun0]) (.tup [st ⟨#[]⟩, i64 5]) := by
  have oz0 := @lines0
  exact VC.run (fn := Tryz.f9) (W := [.r [] [], .r [] [.callr (rO oz0)], .r [] [], .br true, .r [] []]) Tryz.func9 (by kernel_rfl) (.c oz0 <| .c (show true = true by with_reducible rfl) <| .n)
theorem dg_one (i : Nat) (h : i < 10) : dg i = ⟨#[UInt8.ofNat (48 + i)]⟩ := by
  rw [dg_pos (by omega)]
  unfold wh
  rw [Int.toNat_natCast, Lib.decDigits_one h]
theorem sh123 : shS ⟨1, 2, 3⟩ = ⟨#[49, 120, 50, 120, 51]⟩ := by
  unfold shS
  rw [show dg (Shp.mk 1 2 3).h = _ from dg_one 1 (by decide), show dg (Shp.mk 1 2 3).x = _ from dg_one 2 (by decide), show dg (Shp.mk 1 2 3).c = _ from dg_one 3 (by decide)]; rfl
abbrev ndJ : Nod := ⟨6, 1, 2, 0, 0, 0, 0, 0, 0, [], [], 0, 0, 0, 0, 0, 0, 0, 0⟩
theorem nd12 : nodeS ndJ ⟨0, 0, 0⟩ = ⟨#[32, 32, 106, 111, 105, 110, 32, 49, 32, 50, 32, 116, 111, 32, 48, 120, 48, 120, 48]⟩ := by
  unfold nodeS
  rw [if_pos rfl]
  unfold shS
  rw [show dg ndJ.na = _ from dg_one 1 (by decide), show dg ndJ.nb = _ from dg_one 2 (by decide), show dg (Shp.mk 0 0 0).h = _ from dg_one 0 (by decide)]; rfl
theorem eq123 : ((shS ⟨1, 2, 3⟩).toList == (ByteArray.mk #[49, 120, 50, 120, 51]).toList) = true := by rw [sh123]; exact beq_self_eq_true _
theorem eq12 : ((nodeS ndJ ⟨0, 0, 0⟩).toList == (ByteArray.mk #[32, 32, 106, 111, 105, 110, 32, 49, 32, 50, 32, 116, 111, 32, 48, 120, 48, 120, 48]).toList) = true := by rw [nd12]; exact beq_self_eq_true _
theorem ndJ_ok : ndJ.Ok := by constructor <;> first | (intro v hv; cases hv; done) | (refine ⟨?_, ?_⟩ <;> decide)
theorem shp_ok3 (a b c : Int) (h : 0 ≤ a ∧ a ≤ 9 ∧ 0 ≤ b ∧ b ≤ 9 ∧ 0 ≤ c ∧ c ≤ 9) : (Shp.mk a b c).Ok := ⟨⟨by dsimp only; omega, by dsimp only; omega⟩, ⟨by dsimp only; omega, by dsimp only; omega⟩, ⟨by dsimp only; omega, by dsimp only; omega⟩⟩
set_option maxRecDepth 100000 in
set_option maxHeartbeats 2000000 in
theorem known50_v   : VC Tryz.prog 7 ([]) (bv true) := by
  have e1 := eq123
  have e2 := eq12
  have e3 := ndJ_ok
  have e4 := shp_ok3 1 2 3 (by omega)
  have e5 := shp_ok3 0 0 0 (by omega)
  have oz0 := @text0
  have oz1 := @shape50_v (Shp.mk 1 2 3) e4
  have oz2 := (show true = true by with_reducible rfl)
  have oz9 := @node50_6 (Nod.mk 6 1 2 0 0 0 0 0 0 [] [] 0 0 0 0 0 0 0 0) (Shp.mk 0 0 0) e3 e5 (by with_reducible rfl)
  exact VC.run (fn := Tryz.f7) (W := [.r [] [], .r [] [.callr (rO oz0)], .r [] [.callr (rO oz1), .br true, .br true, .br true, .br true, .br true, .br true, .call (aO oz9) (rO oz9), .br true, .br true]]) Tryz.func7 (by kernel_rfl) (.c oz0 <| .c oz1 <| .c oz2 <| .c oz2 <| .c oz2 <| .c oz2 <| .c oz2 <| .c oz2 <| .c (show WeakL [AV.agg [i64 6, i64 1, i64 2, i64 0, i64 0, i64 0, i64 0, i8 0, i8 0, AV.lit (Value.slice none 0 0), AV.lit (Value.slice none 0 0), i32 0, i64 0, i8 0, i32 0, i64 0, i8 0, i8 0, i8 0], AV.agg [i64 0, i64 0, i64 0]] [AV.agg [i64 (Nod.mk 6 1 2 0 0 0 0 0 0 [] [] 0 0 0 0 0 0 0 0).kd, i64 (Nod.mk 6 1 2 0 0 0 0 0 0 [] [] 0 0 0 0 0 0 0 0).na, i64 (Nod.mk 6 1 2 0 0 0 0 0 0 [] [] 0 0 0 0 0 0 0 0).nb, i64 (Nod.mk 6 1 2 0 0 0 0 0 0 [] [] 0 0 0 0 0 0 0 0).nk, i64 (Nod.mk 6 1 2 0 0 0 0 0 0 [] [] 0 0 0 0 0 0 0 0).ns, i64 (Nod.mk 6 1 2 0 0 0 0 0 0 [] [] 0 0 0 0 0 0 0 0).np, i64 (Nod.mk 6 1 2 0 0 0 0 0 0 [] [] 0 0 0 0 0 0 0 0).no, i8 (Nod.mk 6 1 2 0 0 0 0 0 0 [] [] 0 0 0 0 0 0 0 0).za, i8 (Nod.mk 6 1 2 0 0 0 0 0 0 [] [] 0 0 0 0 0 0 0 0).zb, AV.sl 1 [], AV.sl 1 [], i32 (Nod.mk 6 1 2 0 0 0 0 0 0 [] [] 0 0 0 0 0 0 0 0).qm, i64 (Nod.mk 6 1 2 0 0 0 0 0 0 [] [] 0 0 0 0 0 0 0 0).qs, i8 (Nod.mk 6 1 2 0 0 0 0 0 0 [] [] 0 0 0 0 0 0 0 0).qz, i32 (Nod.mk 6 1 2 0 0 0 0 0 0 [] [] 0 0 0 0 0 0 0 0).rm, i64 (Nod.mk 6 1 2 0 0 0 0 0 0 [] [] 0 0 0 0 0 0 0 0).rs, i8 (Nod.mk 6 1 2 0 0 0 0 0 0 [] [] 0 0 0 0 0 0 0 0).rz, i8 (Nod.mk 6 1 2 0 0 0 0 0 0 [] [] 0 0 0 0 0 0 0 0).lo, i8 (Nod.mk 6 1 2 0 0 0 0 0 0 [] [] 0 0 0 0 0 0 0 0).hi], AV.agg [i64 (Shp.mk 0 0 0).h, i64 (Shp.mk 0 0 0).x, i64 (Shp.mk 0 0 0).c]] from (.cons (Weak.agg (.cons (.refl _) (.cons (.refl _) (.cons (.refl _) (.cons (.refl _) (.cons (.refl _) (.cons (.refl _) (.cons (.refl _) (.cons (.refl _) (.cons (.refl _) (.cons (Weak.nil _) (.cons (Weak.nil _) (.cons (.refl _) (.cons (.refl _) (.cons (.refl _) (.cons (.refl _) (.cons (.refl _) (.cons (.refl _) (.cons (.refl _) (.cons (.refl _) .nil)))))))))))))))))))) (.cons (.refl _) .nil))) <| .c oz9 <| .c oz2 <| .c oz2 <| .n)
end Go.Proofs.YtdmkhinckljddaaGreatDoor

/- Shapes and nodes in words: the law. No condition. -/
namespace Go.Proofs.YtdmkhinckljddaaGreatDoor
open Go.RowKit
set_option linter.unusedSimpArgs false
set_option linter.unusedVariables false
set_option linter.unnecessarySimpa false

set_option maxRecDepth 100000 in
set_option maxHeartbeats 2000000 in
theorem reportWords_v (n : Nod) (a : Shp) (ok : n.Ok) (oka : a.Ok) : VC Tryz.prog 4 ([nod n, shp a]) (bv true) := by
  have e1 : ((shS a).toList == (shS a).toList) = true := beq_self_eq_true _
  have e2 : ((nodeS n a).toList == (nodeS n a).toList) = true := beq_self_eq_true _
  have e3 := ok.kd
  rcases Bool.eq_false_or_eq_true (decide (n.kd < 1) || decide (n.kd > 9)) with hc0 | hc0
  · have gc0 : n.kd < 1 ∨ n.kd > 9 := by first | (simp only [Bool.or_eq_true, Bool.or_eq_false_iff, Bool.and_eq_true, Bool.and_eq_false_iff, Bool.not_eq_true', Bool.not_eq_false', decide_eq_true_eq, decide_eq_false_iff_not, beq_iff_eq, bne_iff_ne, ne_eq, beq_eq_false_iff_ne, bne_eq_false_iff_eq, eqNums, Bool.and_true] at hc0; first | exact hc0 | omega) | simpa using hc0 | (simp at hc0 ⊢; omega) | (apply Classical.byContradiction; intro hn; simp_all [eqNums]; done) | (apply Classical.byContradiction; intro hn; simp [eqNums] at hc0 hn; omega)
    have oz1 := @shape50_v (a) oka
    have oz2 := @rshape50_v (a) oka
    have oz4 := @known50_v
    exact VC.run (fn := Tryz.f4) (W := [.r [] [], .r [] [.op false, .op false, .op false, .sel 1], .br true, .r [] [.callr (rO oz1), .callr (rO oz2), .br true, .callr (rO oz4), .br true]]) Tryz.func4 (by kernel_rfl) (.c hc0 <| .c oz1 <| .c oz2 <| .c e1 <| .c oz4 <| .c e1 <| .n)
  · have gc0 : ¬n.kd < 1 ∧ ¬n.kd > 9 := by first | (simp only [Bool.or_eq_true, Bool.or_eq_false_iff, Bool.and_eq_true, Bool.and_eq_false_iff, Bool.not_eq_true', Bool.not_eq_false', decide_eq_true_eq, decide_eq_false_iff_not, beq_iff_eq, bne_iff_ne, ne_eq, beq_eq_false_iff_ne, bne_eq_false_iff_eq, eqNums, Bool.and_true] at hc0; first | exact hc0 | omega) | simpa using hc0 | (simp at hc0 ⊢; omega) | (apply Classical.byContradiction; intro hn; simp_all [eqNums]; done) | (apply Classical.byContradiction; intro hn; simp [eqNums] at hc0 hn; omega)
    have oz1 := @shape50_v (a) oka
    have oz2 := @rshape50_v (a) oka
    have oz6 := @node50_v (n) (a) ok oka
    have oz10 := @rnode50_v (n) (a) ok oka
    have oz14 := @known50_v
    exact VC.run (fn := Tryz.f4) (W := [.r [] [], .r [] [.op false, .op false, .op false, .sel 1], .br false, .r [] [.callr (rO oz1), .callr (rO oz2), .br true, .br true, .br true, .callr (rO oz6), .br true, .br true, .br true, .callr (rO oz10), .br true, .br true, .br true, .callr (rO oz14), .br true]]) Tryz.func4 (by kernel_rfl) (.c hc0 <| .c oz1 <| .c oz2 <| .c e1 <| .c e1 <| .c e1 <| .c oz6 <| .c e1 <| .c e1 <| .c e1 <| .c oz10 <| .c e1 <| .c e1 <| .c e2 <| .c oz14 <| .c e2 <| .n)
end Go.Proofs.YtdmkhinckljddaaGreatDoor

