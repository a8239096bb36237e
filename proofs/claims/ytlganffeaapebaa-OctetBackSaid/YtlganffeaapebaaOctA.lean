/- Numbers as bytes: four bytes; small numbers. No condition. -/
import Derived.Test.YtlganffeaapebaaOwn
import Derived.Outline
namespace Go.Proofs.Ytlganffeaapebaa
open Go.RowKit

def put32L (n : Int) : List Int := [n % 256, n / 256 % 256, n / 65536 % 256, n / 16777216]
/-- The number of the first k of four bytes. -/
def get32 (a b c d : Int) : Int := a + 256 * b + 65536 * c + 16777216 * d
def smallL (l : List Int) : List Int := l.map fun v => v % 256

theorem u8conv (n : Int) : IntKind.u8.wrap n = n % 256 := IntKind.wrap_u8' n
theorem or_add (a x m : Nat) (h : a < 2 ^ m) : a ||| x * 2 ^ m = a + x * 2 ^ m := by
  have := Nat.two_pow_add_eq_or_of_lt h x
  rw [Nat.or_comm, Nat.mul_comm x, ← this]; omega
theorem or_u32 (a x : Int) (m : Nat) (hm : m ≤ 24) (a0 : 0 ≤ a) (ha : a < 2 ^ m) (x0 : 0 ≤ x) (x1 : x ≤ 255) : bits .or .u32 a (x * 2 ^ m) = a + x * 2 ^ m := by
  obtain ⟨A, rfl⟩ := Int.eq_ofNat_of_zero_le a0
  obtain ⟨X, rfl⟩ := Int.eq_ofNat_of_zero_le x0
  have hA : A < 2 ^ m := by
    have : ((2 ^ m : Nat) : Int) = (2 : Int) ^ m := by simp
    omega
  have hp : 2 ^ m ≤ 2 ^ 24 := Nat.pow_le_pow_right (by decide) hm
  have hX : X * 2 ^ m ≤ 255 * 2 ^ 24 := Nat.mul_le_mul (by omega) hp
  have e : ((X : Int) * 2 ^ m) = ((X * 2 ^ m : Nat) : Int) := by simp
  rw [e, u32_or_nat A (X * 2 ^ m) (by omega) (by omega), or_add A X m hA]
  simp

set_option maxHeartbeats 800000 in
set_option maxRecDepth 100000 in
theorem refPut32_any (n : Int) (w : World) (n0 : 0 ≤ n) (n1 : n ≤ 4294967295) :
    Calls Try.prog 40 #[.int .u32 n] w fun e w' => ∃ v, e = .returned v ∧ Rd w' v ((put32L n).map (Value.int .u8)) ∧ Below w.heap.size w w' := by
  go_enter Try.func40, Try.ntmps40
  go_wp2
  go_ret
  exact ⟨_, rfl, Rd.lit w 5 ((put32L n).map (Value.int .u8)) (0, 0) (by simp [put32L]), (Below.refl _ _).alloc (Nat.le_refl _) _⟩

theorem put32_get (n : Int) (k : Nat) (hk : k < 4) (n0 : 0 ≤ n) (n1 : n ≤ 4294967295) : ((put32L n).map (Value.int .u8))[k]? = some (.int .u8 (n / 2 ^ (8 * k) % 256)) := by
  match k, hk with
  | 0, _ => simp [put32L]
  | 1, _ => simp [put32L]
  | 2, _ => simp [put32L]
  | 3, _ =>
    have : n / 16777216 % 256 = n / 16777216 := by omega
    simp [put32L, this]

set_option maxHeartbeats 800000 in
set_option maxRecDepth 100000 in
theorem put32_any (n : Int) (w : World) (n0 : 0 ≤ n) (n1 : n ≤ 4294967295) :
    Calls Try.prog 41 #[.int .u32 n] w fun e w' => ∃ v, e = .returned v ∧ Rd w' v ((put32L n).map (Value.int .u8)) ∧ Below w.heap.size w w' := by
  obtain ⟨i0, hi, hz0, hz1, hz2⟩ := info_parts (show (Try.prog.info? 5).map (fun i => (i.zero, i.size, i.bytes)) = some (some (.int .u8 0), 1, 1) from by kernel_rfl)
  go_enter Try.func41, Try.ntmps41
  go_wp2_with (at_make; refine wpList_makeO w rfl _ _ 24 rfl 5 i0 (.int .u8 0) 1 Try.underlying24 hi hz0 hz1 hz2 (by decide) rfl _ _ 4 rfl rfl (by omega) ?_)
  intro w1 hown hb1
  go_wp2_with fail
  go_loopw [4, 8] (fun _ i wr => ∃ (k : Nat), i = .int .i64 k ∧ k ≤ 4 ∧ Own w.heap.size wr 5 (.slice (some ⟨w.heap.size, 0, none⟩) 4 4) (fill ((put32L n).map (Value.int .u8)) (List.replicate 4 (.int .u8 0)) k) ∧ Below w.heap.size w wr) (fun _ i _ => 4 - (intOf i).toNat)
  case atStart => exact ⟨0, rfl, by omega, by rw [fill_zero]; exact hown, hb1⟩
  case round =>
    obtain ⟨k, rfl, hk, hown, hb⟩ := hrel
    by_cases hlt : k < 4
    · obtain ⟨x1, x2, x3, x4, h5, h6, h7⟩ := hown.at (by intro h; have := congrArg List.length h; rw [fill_len _ _ (by simp [put32L])] at this; simp [put32L] at this)
      have hl := fill_len ((put32L n).map (Value.int .u8)) (List.replicate 4 (.int .u8 0)) (by simp [put32L]) k
      have hl4 : ((put32L n).map (Value.int .u8)).length = 4 := by simp [put32L]
      obtain ⟨y, c9⟩ : ∃ y, wr.cell? ⟨w.heap.size, k, none⟩ = some y := ⟨_, h5 k (by omega)⟩
      have f9 := h6 k
      have kk0 : (0 : Int) ≤ (k : Int) := by omega
      have kk1 : (k : Int) < 4 := by omega
      have H7 := Lib.hid h7
      clear h5 h6 h7 hl hl4 hown x1 x2 x3 x4
      go_wp2_with fail
      go_roundw
      case rel =>
        refine ⟨k + 1, by go_num, by omega, ?_, hb.setCell (Nat.le_refl _) _⟩
        have := H7.out k (.int .u8 (n / 2 ^ (8 * k) % 256)) (by rw [fill_len _ _ (by simp [put32L])]; simp [put32L]; omega)
        rwa [fill_set _ _ (by simp [put32L]) k (by simp [put32L]; omega) _ (put32_get n k hlt n0 n1)] at this
      case measure => simp [intOf]; omega
    · obtain rfl : k = 4 := by omega
      have e := fill_all ((put32L n).map (Value.int .u8)) (List.replicate 4 (.int .u8 0)) (by simp [put32L])
      rw [show ((put32L n).map (Value.int .u8)).length = 4 from by simp [put32L]] at e
      rw [e] at hown
      clear e
      go_wp2
      go_ret
      exact ⟨_, rfl, hown.rd, hb⟩

/-- The number of the first k bytes. -/
def getTo (xs : List Int) : Nat → Int
  | 0 => 0
  | k + 1 => getTo xs k + xs.getD k 0 * 2 ^ (8 * k)
theorem getTo_bd (xs : List Int) (hx : ∀ x ∈ xs, 0 ≤ x ∧ x ≤ 255) : ∀ k, 0 ≤ getTo xs k ∧ getTo xs k < 2 ^ (8 * k)
  | 0 => by simp [getTo]
  | k + 1 => by
    obtain ⟨h0, h1⟩ := getTo_bd xs hx k
    have hd : 0 ≤ xs.getD k 0 ∧ xs.getD k 0 ≤ 255 := by
      by_cases h : k < xs.length
      · have e : xs.getD k 0 = xs[k] := by simp [List.getD, h]
        rw [e]; exact hx _ (List.getElem_mem h)
      · have e : xs.getD k 0 = 0 := by simp [List.getD, List.getElem?_eq_none (show xs.length ≤ k by omega)]
        rw [e]; omega
    have hp : (0 : Int) < 2 ^ (8 * k) := Int.pow_pos (by omega)
    have e8 : (2 : Int) ^ (8 * (k + 1)) = 256 * 2 ^ (8 * k) := by rw [Nat.mul_add, Int.pow_add]; rw [Int.mul_comm]; rfl
    have m1 : xs.getD k 0 * 2 ^ (8 * k) ≤ 255 * 2 ^ (8 * k) := Int.mul_le_mul_of_nonneg_right hd.2 (by omega)
    have m0 : 0 ≤ xs.getD k 0 * 2 ^ (8 * k) := Int.mul_nonneg hd.1 (by omega)
    rw [e8]; unfold getTo
    omega

set_option maxHeartbeats 800000 in
set_option maxRecDepth 100000 in
theorem get32_any (v : Value) (xs : List Int) (w : World) (hv : Rd w v (xs.map (Value.int .u8))) (hx : ∀ x ∈ xs, 0 ≤ x ∧ x ≤ 255) :
    Calls Try.prog 39 #[v] w fun e w' => e = .returned (.tuple #[.int .u32 (if xs.length < 4 then 0 else getTo xs 4), .bool (decide (4 ≤ xs.length))]) ∧ w = w' := by
  obtain ⟨a, c, rfl, hle, hm, ha⟩ := hv.ints
  by_cases h4 : xs.length < 4
  · have h4' : ¬ 4 ≤ xs.length := by omega
    have hd : decide (4 ≤ xs.length) = false := by rw [decide_eq_false_iff_not]; omega
    rw [if_pos h4, hd]
    clear hd
    go_enter Try.func39, Try.ntmps39
    go_wp2
    go_ret2
    exact ⟨rfl, rfl⟩
  · have hd : decide (4 ≤ xs.length) = true := by rw [decide_eq_true_eq]; omega
    rw [if_neg h4, hd]
    obtain ⟨b, o, rfl, hc⟩ := ha (by intro h; subst h; simp at h4)
    have HX := Lib.hid hx; clear hd hx ha
    go_enter Try.func39, Try.ntmps39
    go_wp2_with fail
    go_loop [4, 5, 9] (fun n _ i => ∃ (k : Nat), i = .int .i64 k ∧ k ≤ 4 ∧ n = .int .u32 (getTo xs k)) (fun _ _ i => 4 - (intOf i).toNat)
    case atStart => exact ⟨0, rfl, by omega, rfl⟩
    case round =>
      obtain ⟨k, rfl, hk, rfl⟩ := hrel
      by_cases hlt : k < 4
      · have hcell := hc k (by omega)
        obtain ⟨x0, x1⟩ := HX.out xs[k] (List.getElem_mem (by omega))
        have hgd : xs.getD k 0 = xs[k] := by simp [List.getD, show k < xs.length by omega]
        obtain ⟨x, hx⟩ : ∃ x, x = xs[k] := ⟨_, rfl⟩
        rw [← hx] at hcell x0 x1 hgd
        obtain ⟨g0, g1⟩ := getTo_bd xs HX.out k
        have hs : getTo xs (k + 1) = getTo xs k + x * 2 ^ (8 * k) := by rw [getTo, hgd]
        obtain ⟨G, hG⟩ : ∃ G, G = getTo xs k := ⟨_, rfl⟩
        rw [← hG] at g0 g1 hs ⊢
        have hor := or_u32 G x (8 * k) (by omega) g0 g1 x0 x1
        have hmx : x * 2 ^ (8 * k) % 4294967296 = x * 2 ^ (8 * k) := by
          have hp : (2 : Int) ^ (8 * k) ≤ 16777216 := by
            have : 2 ^ (8 * k) ≤ 2 ^ 24 := Nat.pow_le_pow_right (by decide) (by omega)
            have e : ((2 ^ (8 * k) : Nat) : Int) = (2 : Int) ^ (8 * k) := by simp
            omega
          have hp0 : (0 : Int) < 2 ^ (8 * k) := Int.pow_pos (by omega)
          have m1 : x * 2 ^ (8 * k) ≤ 255 * 16777216 := Int.mul_le_mul x1 hp (by omega) (by omega)
          have m0 : 0 ≤ x * 2 ^ (8 * k) := Int.mul_nonneg x0 (by omega)
          omega
        have HS := Lib.hid hs
        have kk0 : (0 : Int) ≤ (k : Int) := by omega
        have kk1 : (k : Int) < (xs.length : Int) := by omega
        clear hs hgd hG hx hc g1
        go_wp2_with fail
        go_round
        case rel => exact ⟨k + 1, by go_num, by omega, by rw [HS.out]⟩
        case measure => simp [intOf]; omega
      · obtain rfl : k = 4 := by omega
        go_wp2
        go_ret2
        exact ⟨rfl, rfl⟩

set_option maxHeartbeats 800000 in
set_option maxRecDepth 100000 in
theorem small_any (v : Value) (xs : List Int) (w : World) (hv : Rd w v (xs.map (Value.int .i8))) (hl : xs.length ≤ 1000000) :
    Calls Try.prog 42 #[v] w fun e w' => ∃ r, e = .returned r ∧ Own w.heap.size w' 5 r ((smallL xs).map (Value.int .u8)) ∧ Below w.heap.size w w' := by
  obtain ⟨a, c, rfl, hle, hm, ha⟩ := hv.ints
  obtain ⟨i0, hi, hz0, hz1, hz2⟩ := info_parts (show (Try.prog.info? 5).map (fun i => (i.zero, i.size, i.bytes)) = some (some (.int .u8 0), 1, 1) from by kernel_rfl)
  have hsl : ((smallL xs).map (Value.int .u8)).length = xs.length := by simp [smallL]
  have HSL := Lib.hid hsl; clear hsl
  go_enter Try.func42, Try.ntmps42
  go_wp2_with (at_make; refine wpList_makeO w rfl _ _ 24 rfl 5 i0 (.int .u8 0) 1 Try.underlying24 hi hz0 hz1 hz2 (by decide) rfl _ _ xs.length rfl rfl (by omega) ?_)
  intro w1 hown hb1
  obtain ⟨g, hg⟩ : ∃ g, g = w.heap.size := ⟨_, rfl⟩
  rw [← hg] at hown ⊢
  have HG := Lib.hid hg; clear hg
  go_wp2_with fail
  go_loopw [4, 5, 11] (fun _ _ i wr => ∃ (k : Nat), i = .int .i64 k ∧ k ≤ xs.length ∧ Own g wr 5 (.slice (some ⟨g, 0, none⟩) xs.length xs.length) (fill ((smallL xs).map (Value.int .u8)) (List.replicate xs.length (.int .u8 0)) k) ∧ Below w.heap.size w wr) (fun _ _ i _ => xs.length - (intOf i).toNat)
  case atStart => exact ⟨0, rfl, by omega, by rw [fill_zero]; exact hown, hb1⟩
  case round =>
    obtain ⟨k, rfl, hk, hown, hb⟩ := hrel
    by_cases hlt : k < xs.length
    · obtain ⟨b, o, rfl, hc⟩ := ha (by intro h; subst h; simp at hlt)
      have hcell := bl_get hb (hc k hlt)
      obtain ⟨x1, x2, x3, x4, h5, h6, h7⟩ := hown.at (by intro h; have := congrArg List.length h; rw [fill_len _ _ (by rw [HSL.out]; simp), HSL.out, List.length_nil] at this; omega)
      have hl := fill_len ((smallL xs).map (Value.int .u8)) (List.replicate xs.length (.int .u8 0)) (by rw [HSL.out]; simp) k
      rw [HSL.out] at hl
      obtain ⟨y, c9⟩ : ∃ y, wr.cell? ⟨g, k, none⟩ = some y := ⟨_, h5 k (by omega)⟩
      have f9 := h6 k
      have H7 := Lib.hid (h7 k (.int .u8 (xs[k] % 256)) (by omega))
      have hget : ((smallL xs).map (Value.int .u8))[k]? = some (.int .u8 (xs[k] % 256)) := by simp [smallL, hlt]
      have HGT := Lib.hid hget
      obtain ⟨x, hx⟩ : ∃ x, x = xs[k] := ⟨_, rfl⟩
      rw [← hx] at hcell H7 HGT
      have hu8 : IntKind.u8.wrap x = x % 256 := u8conv x
      have hgl : w.heap.size ≤ g := by rw [HG.out]; exact Nat.le_refl _
      have kk0 : (0 : Int) ≤ (k : Int) := by omega
      have kk1 : (k : Int) < (xs.length : Int) := by omega
      clear h5 h6 h7 hl hown x1 x2 x3 x4 hget hx hc ha
      go_wp2_with fail
      go_roundw
      case rel =>
        refine ⟨k + 1, by go_num, by omega, ?_, hb.setCell hgl _⟩
        have := H7.out
        rwa [fill_set _ _ (by rw [HSL.out]; simp) k (by rw [HSL.out]; exact hlt) _ HGT.out] at this
      case measure => simp [intOf]; omega
    · obtain rfl : k = xs.length := by omega
      have e := fill_all ((smallL xs).map (Value.int .u8)) (List.replicate xs.length (.int .u8 0)) (by rw [HSL.out]; simp)
      rw [HSL.out] at e
      rw [e] at hown
      clear e
      go_wp2
      go_ret
      exact ⟨_, rfl, by rw [← HG.out]; exact hown, hb⟩

set_option maxHeartbeats 800000 in
set_option maxRecDepth 100000 in
theorem refSmall_any (v : Value) (xs : List Int) (w : World) (hv : Rd w v (xs.map (Value.int .i8))) (hl : xs.length ≤ 1000000) :
    Calls Try.prog 43 #[v] w fun e w' => ∃ r, e = .returned r ∧ Own w.heap.size w' 5 r ((smallL xs).map (Value.int .u8)) ∧ Below w.heap.size w w' := by
  obtain ⟨a, c, rfl, hle, hm, ha⟩ := hv.ints
  obtain ⟨i0, hi, hz0, hz1, hz2⟩ := info_parts (show (Try.prog.info? 5).map (fun i => (i.zero, i.size, i.bytes)) = some (some (.int .u8 0), 1, 1) from by kernel_rfl)
  go_enter Try.func43, Try.ntmps43
  go_wp2_with fail
  go_loopw [3, 4] (fun r i wr => ∃ (k : Nat), i = .int .i64 k ∧ k ≤ xs.length ∧ Own w.heap.size wr 5 r ((smallL (xs.take k)).map (Value.int .u8)) ∧ Below w.heap.size w wr) (fun _ i _ => xs.length - (intOf i).toNat)
  case atStart => exact ⟨0, rfl, by omega, Own.nil _ _ _, Below.refl _ _⟩
  case round =>
    obtain ⟨k, rfl, hk, hown, hb⟩ := hrel
    by_cases hlt : k < xs.length
    · obtain ⟨b, o, rfl, hc⟩ := ha (by intro h; subst h; simp at hlt)
      have hcell := bl_get hb (hc k hlt)
      have hst : (smallL (xs.take (k + 1))).map (Value.int .u8) = (smallL (xs.take k)).map (Value.int .u8) ++ [.int .u8 (xs[k] % 256)] := by
        unfold smallL; rw [List.take_succ_eq_append_getElem hlt, List.map_append, List.map_append]; rfl
      have hlk : ((smallL (xs.take k)).map (Value.int .u8)).length ≤ 1000000 := by simp [smallL]; omega
      obtain ⟨x, hx⟩ : ∃ x, x = xs[k] := ⟨_, rfl⟩
      rw [← hx] at hcell hst
      have hu8 : IntKind.u8.wrap x = x % 256 := u8conv x
      have HST := Lib.hid hst; have HO := Lib.hid hown; have HLK := Lib.hid hlk
      have kk0 : (0 : Int) ≤ (k : Int) := by omega
      have kk1 : (k : Int) < (xs.length : Int) := by omega
      clear hst hx hc ha hown hlk
      go_wp2_with (at_builtin; refine hold ?_)
      refine unheld ?_
      refine wpList_app1 rfl _ _ 24 rfl w.heap.size 5 i0 (.int .u8 0) 1 Try.underlying24 hi hz0 hz1 hz2 (by decide) rfl _ _ wr (.int .u8 (x % 256)) _ HO.out rfl rfl rfl (by have := HLK.out; omega) hb.size ?_
      intro v' w' hown' hb'
      have HO2 := Lib.hid hown'; clear hown'
      go_wp2_with fail
      go_roundw
      case rel => exact ⟨k + 1, by go_num, by omega, by rw [HST.out]; exact HO2.out, hb.trans hb'⟩
      case measure => simp [intOf]; omega
    · have hkk : xs.take k = xs := List.take_of_length_le (by omega)
      rw [hkk] at hown
      go_wp2
      go_ret
      exact ⟨_, rfl, hown, hb⟩
end Go.Proofs.Ytlganffeaapebaa
