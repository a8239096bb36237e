/- The bytes of a number (leb.Put, the document's Put), how many they are, and whether two lists of bytes are alike. No condition. -/
import Derived.Test.YtlganffeaapebaaBase
namespace Go.Proofs.Ytlganffeaapebaa
open Go.RowKit

def putL (n : Nat) : List Int := if n < 128 then [(n : Int)] else ((n % 128 + 128 : Nat) : Int) :: putL (n / 128)
termination_by n
decreasing_by omega

theorem putL_len (k : Nat) : ∀ n, n < 128 ^ (k + 1) → (putL n).length ≤ k + 1 := by
  induction k with
  | zero => intro n h; rw [putL, if_pos (by omega)]; simp
  | succ k ih =>
    intro n h
    rw [putL]
    by_cases hn : n < 128
    · rw [if_pos hn]; simp
    · rw [if_neg hn]
      have := ih (n / 128) (by rw [Nat.pow_succ] at h; omega)
      simp only [List.length_cons]; omega

theorem putL_len10 (n : Nat) (h : n < 18446744073709551616) : (putL n).length ≤ 10 := putL_len 9 n (by omega)

theorem Try.info5 : (Try.prog.info? 5).map (fun i => (i.zero, i.size, i.bytes)) = some (some (.int .u8 0), 1, 1) := by kernel_rfl

theorem or128 (n : Nat) : bits BinOp.or IntKind.u8 ((n : Int) % 256) 128 = ((n % 128 + 128 : Nat) : Int) := by
  have h : ∀ x : Fin 256, bits BinOp.or IntKind.u8 ((x.val : Nat) : Int) 128 = ((x.val % 128 + 128 : Nat) : Int) := by decide +kernel
  have h' := h ⟨n % 256, by omega⟩
  have e1 : ((n : Int) % 256) = ((n % 256 : Nat) : Int) := by omega
  have e2 : n % 256 % 128 = n % 128 := by omega
  rw [e1, h']
  show ((n % 256 % 128 + 128 : Nat) : Int) = _
  rw [e2]

set_option maxHeartbeats 400000 in
set_option maxRecDepth 100000 in
theorem put_any (n : Int) (w : World) (h0 : 0 ≤ n) (h1 : n ≤ 18446744073709551615) :
    Calls Try.prog 13 #[.int .u64 n] w fun e w' => ∃ v, e = .returned v ∧ Own w.heap.size w' 5 v ((putL n.toNat).map (Value.int .u8)) ∧ Below w.heap.size w w' := by
  obtain ⟨i0, hi, hz0, hz1, hz2⟩ := info_parts Try.info5
  obtain ⟨m0, rfl⟩ := Int.eq_ofNat_of_zero_le h0
  have hl := putL_len10 m0 (by omega)
  go_enter Try.func13, Try.ntmps13
  go_wp2
  go_loopw [0, 3] (fun n v wr => ∃ (m : Nat) (acc : List Int), n = .int .u64 m ∧ m ≤ 18446744073709551615 ∧ Own w.heap.size wr 5 v (acc.map (Value.int .u8)) ∧ Below w.heap.size w wr ∧ acc ++ putL m = putL m0)
    (fun n _ _ => (intOf n).toNat)
  case atStart => exact ⟨m0, [], rfl, by omega, Own.nil _ _ _, Below.refl _ _, rfl⟩
  case round =>
    obtain ⟨m, acc, rfl, hm, hown, hb, hacc⟩ := hrel
    have hal : acc.length ≤ 10 := by have := congrArg List.length hacc; simp at this; omega
    have HA := Lib.hid hacc; clear hacc
    have HM := Lib.hid hm; clear hm; have H1 := Lib.hid h1; clear h1
    by_cases hlt : m < 128
    · go_wp2_with (at_builtin; go_must (refine wpList_app1 rfl _ _ 24 rfl w.heap.size 5 i0 (.int .u8 0) 1 Try.underlying24 hi hz0 hz1 hz2 (by decide) rfl _ _ _ _ _ hown rfl rfl rfl (by simp; omega) hb.size ?_))
      intro v' w1 hown1 hb1
      go_wp2
      go_ret
      refine ⟨v', rfl, ?_, hb.trans hb1⟩
      rw [Int.toNat_natCast, ← HA.out, putL, if_pos hlt, List.map_append]; exact hown1
    · go_wp2_with (at_builtin; go_must (refine wpList_app1 rfl _ _ 24 rfl w.heap.size 5 i0 (.int .u8 0) 1 Try.underlying24 hi hz0 hz1 hz2 (by decide) rfl _ _ _ _ _ hown rfl rfl rfl (by simp; omega) hb.size ?_))
      intro v' w1 hown1 hb1
      go_wp2
      go_roundw
      case rel =>
        refine ⟨m / 128, acc ++ [((m % 128 + 128 : Nat) : Int)], by go_num, by have := HM.out; omega, ?_, hb.trans hb1, ?_⟩
        · rw [List.map_append]; rw [or128] at hown1; exact hown1
        · rw [← HA.out, List.append_assoc]; conv => rhs; rw [putL, if_neg hlt]
          rfl
      case measure => simp [intOf]; omega

set_option maxHeartbeats 400000 in
set_option maxRecDepth 100000 in
theorem refPut_any (n : Int) (w : World) (h0 : 0 ≤ n) (h1 : n ≤ 18446744073709551615) :
    Calls Try.prog 14 #[.int .u64 n] w fun e w' => ∃ v, e = .returned v ∧ Own w.heap.size w' 5 v ((putL n.toNat).map (Value.int .u8)) ∧ Below w.heap.size w w' := by
  obtain ⟨i0, hi, hz0, hz1, hz2⟩ := info_parts Try.info5
  obtain ⟨m0, rfl⟩ := Int.eq_ofNat_of_zero_le h0
  have hl := putL_len10 m0 (by omega)
  have H1 := Lib.hid h1; clear h1
  go_enter Try.func14, Try.ntmps14
  go_wp2
  go_loopw [0, 3] (fun n v wr => ∃ (m : Nat) (acc : List Int), n = .int .u64 m ∧ m ≤ 18446744073709551615 ∧ Own w.heap.size wr 5 v (acc.map (Value.int .u8)) ∧ Below w.heap.size w wr ∧ acc ++ putL m = putL m0)
    (fun n _ _ => (intOf n).toNat)
  case atStart => exact ⟨m0, [], rfl, by have := H1.out; omega, Own.nil _ _ _, Below.refl _ _, rfl⟩
  case round =>
    obtain ⟨m, acc, rfl, hm, hown, hb, hacc⟩ := hrel
    have hal : acc.length ≤ 10 := by have := congrArg List.length hacc; simp at this; omega
    have HA := Lib.hid hacc; clear hacc
    have hmi : (m : Int) ≤ 18446744073709551615 := by omega
    have HM := Lib.hid hm; clear hm
    by_cases hlt : m < 128
    · go_wp2_with (at_builtin; go_must (refine wpList_app1 rfl _ _ 24 rfl w.heap.size 5 i0 (.int .u8 0) 1 Try.underlying24 hi hz0 hz1 hz2 (by decide) rfl _ _ _ _ _ hown rfl rfl rfl (by simp; omega) hb.size ?_))
      intro v' w1 hown1 hb1
      go_wp2
      go_ret
      refine ⟨v', rfl, ?_, hb.trans hb1⟩
      rw [Int.toNat_natCast, ← HA.out, putL, if_pos hlt, List.map_append]; exact hown1
    · have ew : IntKind.u8.wrap ((m : Int) % 128 + 128) = ((m % 128 + 128 : Nat) : Int) := by rw [IntWalk.u8_in _ (by omega)]; omega
      go_wp2_with (at_builtin; go_must (refine wpList_app1 rfl _ _ 24 rfl w.heap.size 5 i0 (.int .u8 0) 1 Try.underlying24 hi hz0 hz1 hz2 (by decide) rfl _ _ _ _ _ hown rfl rfl rfl (by simp; omega) hb.size ?_))
      intro v' w1 hown1 hb1
      go_wp2
      go_roundw
      case rel =>
        refine ⟨m / 128, acc ++ [((m % 128 + 128 : Nat) : Int)], by go_num, by have := HM.out; omega, ?_, hb.trans hb1, ?_⟩
        · rw [List.map_append]; exact hown1
        · rw [← HA.out, List.append_assoc]; conv => rhs; rw [putL, if_neg hlt]
          rfl
      case measure => simp [intOf]; omega

set_option maxHeartbeats 400000 in
set_option maxRecDepth 100000 in
theorem size_any (n : Int) (w : World) (h0 : 0 ≤ n) (h1 : n ≤ 18446744073709551615) :
    Calls Try.prog 15 #[.int .u64 n] w fun e w' => e = .returned (.int .i64 (putL n.toNat).length) ∧ w = w' := by
  obtain ⟨m0, rfl⟩ := Int.eq_ofNat_of_zero_le h0
  have hl := putL_len10 m0 (by omega)
  have H1 := Lib.hid h1; clear h1
  go_enter Try.func15, Try.ntmps15
  go_wp2
  go_loop [0, 3] (fun n v => ∃ (m k : Nat), n = .int .u64 m ∧ v = .int .i64 k ∧ k + (putL m).length = (putL m0).length + 1)
    (fun n _ => (intOf n).toNat)
  case atStart => exact ⟨m0, 1, rfl, rfl, by omega⟩
  case round =>
    obtain ⟨m, k, rfl, rfl, hk⟩ := hrel
    have hk1 : k ≤ 11 := by omega
    have HK := Lib.hid hk; clear hk
    by_cases hlt : m < 128
    · go_wp2
      go_ret
      have := HK.out
      rw [putL, if_pos hlt] at this
      exact ⟨ret_int (by simp at this; omega), rfl⟩
    · go_wp2
      go_round
      case rel =>
        refine ⟨m / 128, k + 1, by go_num, by go_num, ?_⟩
        have := HK.out
        rw [putL, if_neg hlt] at this
        simp at this; omega
      case measure => simp [intOf]; omega

set_option maxHeartbeats 400000 in
set_option maxRecDepth 100000 in
theorem same_any (a b : Value) (xs ys : List Int) (w : World) (ha : Rd w a (xs.map (Value.int .u8))) (hb : Rd w b (ys.map (Value.int .u8))) (hx : xs.length ≤ 1099511627776) (hy : ys.length ≤ 1099511627776) :
    Calls Try.prog 12 #[a, b] w fun e w' => e = .returned (.bool (decide (xs = ys))) ∧ Below w.heap.size w w' := by
  obtain ⟨aa, ca, rfl, _, ha⟩ := ha
  obtain ⟨ab, cb, rfl, _, hb⟩ := hb
  simp only [List.length_map]
  by_cases hl : xs.length = ys.length
  · have hne : ((xs.length : Int) != (ys.length : Int)) = false := by simp [hl]
    have HL := Lib.hid hl; clear hl
    go_enter Try.func12, Try.ntmps12
    go_wp2
    go_loopw [5] (fun i wr => ∃ k : Nat, i = .int .i64 k ∧ k ≤ xs.length ∧ xs.take k = ys.take k ∧ Below w.heap.size w wr)
      (fun i _ => xs.length - (intOf i).toNat)
    case atStart => exact ⟨0, rfl, by omega, rfl, Below.refl _ _⟩
    case round =>
      obtain ⟨k, rfl, hk, htk, hbw⟩ := hrel
      have HT := Lib.hid htk; clear htk
      by_cases hlt : k < xs.length
      · obtain ⟨b1, o1, rfl, hc1⟩ := ha (by intro h; simp at h; subst h; simp at hlt)
        obtain ⟨b2, o2, rfl, hc2⟩ := hb (by intro h; have := HL.out; simp at h; subst h; simp at this; subst this; simp at hlt)
        have c1 := bl_get hbw (hc1 k (by simpa using hlt))
        have c2 := bl_get hbw (hc2 k (by have := HL.out; simp; omega))
        simp only [List.getElem_map] at c1 c2
        have hlt2 : k < ys.length := by have := HL.out; omega
        clear hc1 hc2 ha hb
        by_cases hxy : xs[k] = ys[k]
        · have hxn : (xs[k] != ys[k]) = false := by simp [hxy]
          have HX := Lib.hid hxy; clear hxy
          go_wp2_with fail
          go_quiet (fail)
          go_wp2
          go_roundw
          case rel => 
            refine ⟨k + 1, by go_num, by omega, ?_, below_drewN hbw _⟩
            rw [List.take_add_one, List.take_add_one, HT.out, List.getElem?_eq_getElem hlt, List.getElem?_eq_getElem hlt2, HX.out]
          case measure => simp [intOf]; omega
        · have hxn : (xs[k] != ys[k]) = true := by simp [hxy]
          go_wp2_with fail
          go_quiet (fail)
          go_wp2
          go_ret
          exact ⟨ret_bool (by symm; simp; intro h; subst h; exact hxy rfl), below_drewN hbw _⟩
      · go_wp2
        go_ret
        refine ⟨ret_bool ?_, hbw⟩
        have := HT.out
        rw [List.take_of_length_le (by omega), List.take_of_length_le (by have := HL.out; omega)] at this
        simp [this]
  · have hne : ((xs.length : Int) != (ys.length : Int)) = true := by simp; omega
    go_enter Try.func12, Try.ntmps12
    go_wp2
    go_ret
    exact ⟨ret_bool (by symm; simp; intro h; exact hl (by rw [h])), Below.refl _ _⟩
end Go.Proofs.Ytlganffeaapebaa
