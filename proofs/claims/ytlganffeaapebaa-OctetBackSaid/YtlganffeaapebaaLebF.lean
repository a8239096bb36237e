/- Numbers with a sign as they are got, and the laws LebGets and LebBack walked. No condition. -/
import Derived.Test.YtlganffeaapebaaLebE
namespace Go.Proofs.Ytlganffeaapebaa
open Go.RowKit

theorem getAt_range (xs : List Int) (hb : ∀ x ∈ xs, 0 ≤ x ∧ x ≤ 255) : 0 ≤ (getAt xs 0 0).1 ∧ (getAt xs 0 0).1 ≤ 18446744073709551615 ∧ 0 ≤ (getAt xs 0 0).2.1 ∧ (getAt xs 0 0).2.1 ≤ 10 ∧ 0 ≤ (getAt xs 0 0).2.2 ∧ (getAt xs 0 0).2.2 ≤ 21 ∧ ((getAt xs 0 0).2.2 ≠ 0 → (getAt xs 0 0).1 = 0) := by
  rw [getAt_eq xs 0 0 (by omega), refGet]
  cases hf : fin xs 0 with
  | none => simp; split <;> omega
  | some j =>
    have hj := fin_lt xs 0 j hf
    simp only [Nat.add_zero]
    split
    · simp
    · rename_i hn
      have h1 := val_nonneg (xs.take (j + 1))
      have h2 := val_u64 xs j hj.1 (by omega) (fun h => by
        have : ¬ 1 < xs.getD j 0 := fun h1 => hn (.inl ⟨h, h1⟩)
        simp [List.getD, List.getElem?_eq_getElem hj.1] at this
        exact this) (fun x hx => (hb x hx).1)
      simp; omega

theorem xor_i64_zero (a : Int) (h0 : 0 ≤ a) (h1 : a ≤ 9223372036854775807) : bits BinOp.xor IntKind.i64 a 0 = a := by
  show IntKind.i64.wrap ((BitVec.ofInt 64 a ^^^ 0#64).toNat : Int) = _
  rw [BitVec.xor_zero, BitVec.toNat_ofInt, IntKind.wrap_i64]
  omega

theorem xor_i64_ones (a : Int) (h0 : 0 ≤ a) (h1 : a ≤ 9223372036854775807) : bits BinOp.xor IntKind.i64 a (-1) = -a - 1 := by
  show IntKind.i64.wrap ((BitVec.ofInt 64 a ^^^ BitVec.allOnes 64).toNat : Int) = _
  rw [BitVec.xor_allOnes, BitVec.toNat_not, BitVec.toNat_ofInt, IntKind.wrap_i64]
  omega

theorem unf_bits (n : Int) (h0 : 0 ≤ n) (h1 : n ≤ 18446744073709551615) :
    bits BinOp.xor IntKind.i64 (n / 2) (wrap64 (-wrap64 (bits BinOp.and IntKind.u64 n 1))) = unfoldN n := by
  rw [and_one_u64 n h0 h1]
  by_cases he : n % 2 = 0
  · rw [he, unfoldN, if_pos he, show wrap64 (-wrap64 0) = 0 from by decide +kernel, xor_i64_zero _ (by omega) (by omega)]
  · rw [show n % 2 = 1 from by omega, unfoldN, if_neg he, show wrap64 (-wrap64 1) = -1 from by decide +kernel, xor_i64_ones _ (by omega) (by omega)]

set_option maxHeartbeats 400000 in
set_option maxRecDepth 100000 in
theorem unfold_any (n : Int) (w : World) (h0 : 0 ≤ n) (h1 : n ≤ 18446744073709551615) :
    Calls Try.prog 22 #[.int .u64 n] w fun e w' => e = .returned (.int .i64 (unfoldN n)) ∧ w = w' := by
  by_cases he : n % 2 = 0
  · go_enter Try.func22, Try.ntmps22
    go_wp2
    go_ret
    exact ⟨ret_int (by unfold unfoldN; rw [if_pos he]), rfl⟩
  · have he2 : n % 2 = 1 := by omega
    have ht : (n % 2 == 0) = false := by simp; omega
    clear he he2
    go_enter Try.func22, Try.ntmps22
    go_wp2
    go_ret
    exact ⟨ret_int (by unfold unfoldN; rw [if_neg (by simpa using ht)]), rfl⟩

set_option maxHeartbeats 400000 in
set_option maxRecDepth 100000 in
theorem getInt_any (v : Value) (xs : List Int) (w : World) (hv : Rd w v (xs.map (Value.int .u8))) (hb : ∀ x ∈ xs, 0 ≤ x ∧ x ≤ 255) (hx : xs.length ≤ 1099511627776) :
    Calls Try.prog 21 #[v] w fun e w' => e = .returned (.tuple #[.int .i64 (unfoldN (getAt xs 0 0).1), .int .i64 (getAt xs 0 0).2.1, .int .i64 (getAt xs 0 0).2.2]) ∧ Below w.heap.size w w' := by
  obtain ⟨r0, r1, _⟩ := getAt_range xs hb
  go_enter Try.func21, Try.ntmps21
  go_wp2_with fail
  refine (get_any _ _ _ hv hb hx).mono ?_
  rintro e w1 ⟨rfl, hb1⟩
  unfold tup3
  go_wp2
  go_ret3
  refine ⟨?_, hb1⟩
  rw [← unf_bits _ r0 r1]; rfl

set_option maxHeartbeats 1000000 in
set_option maxRecDepth 100000 in
theorem lebGets_walk (v : Value) (xs : List Int) (w : World) (hv : Rd w v (xs.map (Value.int .u8))) (hb : ∀ x ∈ xs, 0 ≤ x ∧ x ≤ 255) (hx : xs.length ≤ 9223372036854775807) :
    Calls Try.prog 4 #[v] w fun e w' => e = .returned (.bool true) ∧ Below w.heap.size w w' := by
  have hv0 := hv
  obtain ⟨ao, ca, rfl, _, _⟩ := hv0
  have hv0 := Lib.hid hv
  simp only [List.length_map] at hv ⊢
  by_cases hl : 100 < xs.length
  · clear hv
    go_enter Try.func4, Try.ntmps4
    go_wp2_with fail
    refine (known06_any _).mono ?_
    rintro e w8 ⟨rfl, hb8⟩
    go_wp2
    go_ret
    exact ⟨rfl, hb8⟩
  · have hr := getAt_range xs hb
    have hu : (getAt xs 0 0).2.2 ≠ 0 → unfoldN (getAt xs 0 0).1 = 0 := fun h => by rw [hr.2.2.2.2.2.2 h]; rfl
    clear hv
    have HB := Lib.hid hb; clear hb
    have hk : xs.length ≤ 1099511627776 := by omega
    have H0 := hv0.out
    simp only [List.length_map] at H0
    have hv0 := Lib.hid H0; clear H0
    go_enter Try.func4, Try.ntmps4
    go_wp2_with fail
    refine (get_any _ _ _ hv0.out HB.out hk).mono ?_
    rintro e w1 ⟨rfl, hb1⟩
    unfold tup3
    obtain ⟨r0, r1, r2, r3, r4, r5, r6⟩ := hr
    go_wp2_with fail
    refine (refGet_any _ _ _ (hv0.out.below hb1 (Nat.le_refl _)) HB.out hk).mono ?_
    rintro e w2 ⟨rfl, hb2⟩
    unfold tup3
    go_wp2_with fail
    refine (getInt_any _ _ _ (hv0.out.below (bl_step hb1 hb2) (Nat.le_refl _)) HB.out hk).mono ?_
    rintro e w3 ⟨rfl, hb3⟩
    generalize (getAt xs 0 0).1 = n at *
    generalize (getAt xs 0 0).2.1 = k at *
    generalize (getAt xs 0 0).2.2 = c at *
    by_cases hc : c = 0
    · subst hc
      clear hu r6
      go_wp2_with fail
      refine (unfold_any _ _ r0 r1).mono ?_
      rintro e w4 ⟨rfl, rfl⟩
      go_wp2_with fail
      refine (known06_any _).mono ?_
      rintro e w8 ⟨rfl, hb8⟩
      go_wp2
      go_ret
      exact ⟨rfl, bl_step hb1 (bl_step hb2 (bl_step hb3 hb8))⟩
    · have hu := hu hc
      obtain rfl := r6 hc
      clear r6
      rw [hu]
      have hcz : (c == 0) = false := by simpa using hc
      have hcn : (c != 0) = true := by simpa using hc
      go_wp2_with fail
      refine (known06_any _).mono ?_
      rintro e w8 ⟨rfl, hb8⟩
      go_wp2
      go_ret
      exact ⟨rfl, bl_step hb1 (bl_step hb2 (bl_step hb3 hb8))⟩
end Go.Proofs.Ytlganffeaapebaa
