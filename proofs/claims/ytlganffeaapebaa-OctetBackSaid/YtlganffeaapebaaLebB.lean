/- Numbers with a sign as bytes, and what fixed calls make (leb.PutInt, the document's Fold, known of chapter 6). No condition. -/
import Derived.Test.YtlganffeaapebaaLebA
namespace Go.Proofs.Ytlganffeaapebaa
open Go.RowKit

def foldN (v : Int) : Int := if 0 ≤ v then 2 * v else 2 * (-(v + 1)) + 1

set_option maxHeartbeats 400000 in
set_option maxRecDepth 100000 in
theorem fold_any (v : Int) (w : World) (h0 : -9223372036854775808 ≤ v) (h1 : v ≤ 9223372036854775807) :
    Calls Try.prog 17 #[.int .i64 v] w fun e w' => e = .returned (.int .u64 (foldN v)) ∧ w = w' := by
  by_cases hv : 0 ≤ v
  · go_enter Try.func17, Try.ntmps17
    go_wp2
    go_ret
    exact ⟨ret_int (by unfold foldN; rw [if_pos hv]), rfl⟩
  · go_enter Try.func17, Try.ntmps17
    go_wp2
    go_ret
    exact ⟨ret_int (by unfold foldN; rw [if_neg (by omega)]), rfl⟩

theorem xor_ones (a : Nat) (h : a < 18446744073709551616) : a ^^^ 18446744073709551615 = 18446744073709551615 - a := by
  have h1 := congrArg BitVec.toNat (BitVec.xor_allOnes (x := BitVec.ofNat 64 a))
  rw [BitVec.toNat_xor, BitVec.toNat_not, BitVec.toNat_allOnes, BitVec.toNat_ofNat, Nat.mod_eq_of_lt (by omega)] at h1
  simpa using h1

theorem fold_xor_pos (v : Int) (h0 : 0 ≤ v) (h1 : v ≤ 9223372036854775807) : bits BinOp.xor IntKind.u64 (v * 2) (v / 9223372036854775808) = foldN v := by
  rw [PlainAid.shr63_nonneg h0 h1, u64_xor _ _ (by omega) (by omega) (by omega) (by omega)]
  unfold foldN; rw [if_pos h0]
  simp; omega

theorem fold_xor_neg (v : Int) (h0 : v < 0) (h1 : -9223372036854775808 ≤ v) :
    bits BinOp.xor IntKind.u64 (IntKind.u64.wrap (IntKind.u64.wrap v * 2)) (IntKind.u64.wrap (v / 9223372036854775808)) = foldN v := by
  rw [PlainAid.shr63_neg h0 h1]
  have e1 : IntKind.u64.wrap (-1) = 18446744073709551615 := by decide
  have e2 : IntKind.u64.wrap (IntKind.u64.wrap v * 2) = 2 * v + 18446744073709551616 := by
    simp only [IntKind.wrap_u64]; omega
  rw [e1, e2, u64_xor _ _ (by omega) (by omega) (by omega) (by omega)]
  have e3 : (18446744073709551615 : Int).toNat = 18446744073709551615 := by decide
  rw [e3, xor_ones _ (by omega)]
  unfold foldN; rw [if_neg (by omega)]
  omega

theorem foldN_bd (v : Int) (h0 : -9223372036854775808 ≤ v) (h1 : v ≤ 9223372036854775807) : 0 ≤ foldN v ∧ foldN v ≤ 18446744073709551615 := by
  unfold foldN; split <;> omega

set_option maxHeartbeats 400000 in
set_option maxRecDepth 100000 in
theorem putInt_any (v : Int) (w : World) (h0 : -9223372036854775808 ≤ v) (h1 : v ≤ 9223372036854775807) :
    Calls Try.prog 16 #[.int .i64 v] w fun e w' => ∃ r, e = .returned r ∧ Own w.heap.size w' 5 r ((putL (foldN v).toNat).map (Value.int .u8)) ∧ Below w.heap.size w w' := by
  have hf := foldN_bd v h0 h1
  by_cases hv : 0 ≤ v
  · have he := Lib.hid (fold_xor_pos v hv h1)
    go_enter Try.func16, Try.ntmps16
    go_wp2_with fail
    rw [he.out]
    refine (put_any _ _ hf.1 hf.2).mono ?_
    rintro e w1 ⟨r, rfl, hown, hb⟩
    go_wp2
    go_ret
    exact ⟨r, rfl, hown, hb⟩
  · have he := Lib.hid (fold_xor_neg v (by omega) h0)
    go_enter Try.func16, Try.ntmps16
    go_wp2_with fail
    rw [he.out]
    refine (put_any _ _ hf.1 hf.2).mono ?_
    rintro e w1 ⟨r, rfl, hown, hb⟩
    go_wp2
    go_ret
    exact ⟨r, rfl, hown, hb⟩

theorem putL_300 : putL (300 : Int).toNat = [172, 2] := by
  rw [show (300 : Int).toNat = 300 from rfl, putL, if_neg (by omega), putL, if_pos (by omega)]; rfl
theorem putL_m2 : putL (foldN (-2)).toNat = [3] := by
  rw [show (foldN (-2)).toNat = 3 from by decide, putL, if_pos (by omega)]; rfl

set_option maxHeartbeats 400000 in
set_option maxRecDepth 100000 in
theorem known06_any (w : World) : Calls Try.prog 18 #[] w fun e w' => e = .returned (.bool true) ∧ Below w.heap.size w w' := by
  go_enter Try.func18, Try.ntmps18
  go_wp2_with fail
  refine (put_any _ _ (by omega) (by omega)).mono ?_
  rintro e w1 ⟨r, rfl, hown, hb⟩
  rw [putL_300] at hown
  have hc := run_str Try.underlying24 Try.underlying5 Try.underlying9 hown.rd
  rw [show bstr [172, 2] = ⟨#[172, 2]⟩ from by rw [bstr_eq]; rfl] at hc
  clear hown
  go_wp2_with fail
  refine (putInt_any _ _ (by omega) (by omega)).mono ?_
  rintro e w2 ⟨r2, rfl, hown2, hb2⟩
  rw [putL_m2] at hown2
  have hc2 := run_str Try.underlying24 Try.underlying5 Try.underlying9 hown2.rd
  rw [show bstr [3] = ⟨#[3]⟩ from by rw [bstr_eq]; rfl] at hc2
  clear hown2 hc
  go_wp2_with fail
  refine (size_any _ _ (by omega) (by omega)).mono ?_
  rintro e w3 ⟨rfl, rfl⟩
  rw [putL_300]
  go_wp2
  go_ret
  exact ⟨rfl, bl_step hb hb2⟩

set_option maxHeartbeats 400000 in
set_option maxRecDepth 100000 in
theorem lebPuts_walk (n v : Int) (w : World) (h0 : 0 ≤ n) (h1 : n ≤ 18446744073709551615) (g0 : -9223372036854775808 ≤ v) (g1 : v ≤ 9223372036854775807) :
    Calls Try.prog 3 #[.int .u64 n, .int .i64 v] w fun e w' => e = .returned (.bool true) ∧ Below w.heap.size w w' := by
  have hl := putL_len10 n.toNat (by omega)
  have hf := foldN_bd v g0 g1
  have hl2 := putL_len10 (foldN v).toNat (by omega)
  go_enter Try.func3, Try.ntmps3
  go_wp2_with fail
  refine (put_any _ _ h0 h1).mono ?_
  rintro e w1 ⟨r1, rfl, hown1, hb1⟩
  go_wp2_with fail
  refine (refPut_any _ _ h0 h1).mono ?_
  rintro e w2 ⟨r2, rfl, hown2, hb2⟩
  go_wp2_with fail
  refine (same_any _ _ _ _ _ (hown1.rd.below hb2 (Nat.le_refl _)) hown2.rd (by omega) (by omega)).mono ?_
  rintro e w3 ⟨rfl, hb3⟩
  rw [show decide (putL n.toNat = putL n.toNat) = true from by simp]
  go_wp2_with fail
  refine (size_any _ _ h0 h1).mono ?_
  rintro e w4 ⟨rfl, rfl⟩
  go_wp2_with fail
  refine (refPut_any _ _ h0 h1).mono ?_
  rintro e w4 ⟨r4, rfl, hown4, hb4⟩
  obtain ⟨ao, ca, rfl, _, _⟩ := hown4.rd
  simp only [List.length_map]
  clear hown4 hown1 hown2
  go_wp2_with fail
  refine (putInt_any _ _ g0 g1).mono ?_
  rintro e w5 ⟨r5, rfl, hown5, hb5⟩
  go_wp2_with fail
  refine (fold_any _ _ g0 g1).mono ?_
  rintro e w6 ⟨rfl, rfl⟩
  go_wp2_with fail
  refine (refPut_any _ _ hf.1 hf.2).mono ?_
  rintro e w6 ⟨r6, rfl, hown6, hb6⟩
  go_wp2_with fail
  refine (same_any _ _ _ _ _ (hown5.rd.below hb6 (Nat.le_refl _)) hown6.rd (by omega) (by omega)).mono ?_
  rintro e w7 ⟨rfl, hb7⟩
  rw [show decide (putL (foldN v).toNat = putL (foldN v).toNat) = true from by simp]
  go_wp2_with fail
  refine (known06_any _).mono ?_
  rintro e w8 ⟨rfl, hb8⟩
  go_wp2
  go_ret
  exact ⟨rfl, bl_step hb1 (bl_step hb2 (bl_step hb3 (bl_step hb4 (bl_step hb5 (bl_step hb6 (bl_step hb7 hb8))))))⟩
end Go.Proofs.Ytlganffeaapebaa
