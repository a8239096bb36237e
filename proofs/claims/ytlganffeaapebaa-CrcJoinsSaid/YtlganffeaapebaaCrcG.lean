/- Sums of 32 bits, joined: a matrix applied; squared; the join of two sums. No condition. -/
import Derived.Test.YtlganffeaapebaaCrcF
namespace Go.Proofs.Ytlganffeaapebaa
open Go.RowKit

/-- A step that a matrix tells. -/
structure Lin (f : BitVec 32 → BitVec 32) : Prop where
  xor : ∀ a b, f (a ^^^ b) = f a ^^^ f b
  zero : f 0#32 = 0#32
theorem lin_stn (n : Nat) : Lin (stn n) := ⟨stn_xor n, stn_zero n⟩
def timesTo (f : BitVec 32 → BitVec 32) (V : BitVec 32) : Nat → BitVec 32
  | 0 => 0#32
  | k + 1 => if V.getLsbD k then timesTo f V k ^^^ f (bitv k) else timesTo f V k
def lowB (V : BitVec 32) (k : Nat) : BitVec 32 := BitVec.ofNat 32 (V.toNat % 2 ^ k)
theorem lowB_get (V : BitVec 32) (k i : Nat) (hi : i < 32) : (lowB V k).getLsbD i = (decide (i < k) && V.getLsbD i) := by
  unfold lowB
  rw [BitVec.getLsbD_ofNat, Nat.testBit_mod_two_pow]
  simp [hi, BitVec.getLsbD]
theorem bit_get (k i : Nat) (hi : i < 32) : (bitv k).getLsbD i = decide (i = k) := by
  unfold bitv
  rw [BitVec.getLsbD_shiftLeft]
  have h1 : ∀ i, i < 32 → (1#32 : BitVec 32).getLsbD i = decide (i = 0) := by decide
  rw [h1 (i - k) (by omega)]
  by_cases h : i = k
  · subst h; simp [hi]
  · by_cases h2 : i < k
    · simp [h2, h]
    · simp [h, show ¬ i - k = 0 by omega]
theorem lowB_succ (V : BitVec 32) (k : Nat) : lowB V (k + 1) = if V.getLsbD k then lowB V k ^^^ bitv k else lowB V k := by
  apply BitVec.eq_of_getLsbD_eq
  intro i hi
  cases hv : V.getLsbD k with
  | true =>
    simp only [if_true, BitVec.getLsbD_xor, lowB_get _ _ _ hi, bit_get _ _ hi]
    by_cases h : i = k
    · subst h; simp [hv]
    · by_cases h2 : i < k
      · simp [h, h2, show i < k + 1 by omega]
      · simp [h, h2, show ¬ i < k + 1 by omega]
  | false =>
    simp only [Bool.false_eq_true, if_false, lowB_get _ _ _ hi]
    by_cases h : i = k
    · subst h; simp [hv]
    · by_cases h2 : i < k
      · simp [h2, show i < k + 1 by omega]
      · simp [h2, show ¬ i < k + 1 by omega]
theorem timesTo_low {f : BitVec 32 → BitVec 32} (hf : Lin f) (V : BitVec 32) : ∀ k, timesTo f V k = f (lowB V k)
  | 0 => by
    have : lowB V 0 = 0#32 := by unfold lowB; rw [Nat.pow_zero, Nat.mod_one]
    rw [this, hf.zero]; rfl
  | k + 1 => by
    rw [timesTo, timesTo_low hf V k, lowB_succ]
    cases V.getLsbD k
    · rfl
    · simp only [if_true]; rw [hf.xor]
theorem timesTo_all {f : BitVec 32 → BitVec 32} (hf : Lin f) (V : BitVec 32) : timesTo f V 32 = f V := by
  rw [timesTo_low hf]
  congr 1
  unfold lowB
  rw [Nat.mod_eq_of_lt V.isLt, BitVec.ofNat_toNat]; simp
theorem bit_test (V : BitVec 32) (k : Nat) : bits .and .u32 (uv V / (2 : Int) ^ k) 1 = if V.getLsbD k then 1 else 0 := by
  have h : uv V / (2 : Int) ^ k = uv (V >>> k) := by
    unfold uv
    rw [BitVec.toNat_ushiftRight, Nat.shiftRight_eq_div_pow]
    have : ((2 ^ k : Nat) : Int) = (2 : Int) ^ k := by simp
    rw [← this, Int.natCast_ediv]
  rw [h, show (1 : Int) = uv 1#32 from rfl, uv_and, and_one, BitVec.getLsbD_ushiftRight, Nat.add_zero]
  cases V.getLsbD k <;> rfl

set_option maxHeartbeats 800000 in
set_option maxRecDepth 100000 in
theorem times_any (f : BitVec 32 → BitVec 32) (hf : Lin f) (g : Nat) (V : BitVec 32) (w : World) (hm : At w g 96 (mat f 32)) :
    Calls Try.prog 59 #[.pointer (some ⟨g, 0, none⟩), .int .u32 (uv V)] w fun e w' => e = .returned (.int .u32 (uv (f V))) ∧ w = w' := by
  have HF := Lib.hid (timesTo_all hf V); clear hf
  go_enter Try.func59, Try.ntmps59
  go_wp2_with fail
  go_loop [5, 7] (fun o i => ∃ (k : Nat), i = .int .i64 k ∧ k ≤ 32 ∧ o = .int .u32 (uv (timesTo f V k))) (fun _ i => 32 - (intOf i).toNat)
  case atStart => exact ⟨0, rfl, by omega, rfl⟩
  case round =>
    obtain ⟨k, rfl, hk, rfl⟩ := hrel
    by_cases hlt : k < 32
    · have c9 := hm.cell k
      rw [mat_get _ _ _ hlt, if_pos hlt] at c9
      have ht := bit_test V k
      have hs : timesTo f V (k + 1) = if V.getLsbD k then timesTo f V k ^^^ f (bitv k) else timesTo f V k := rfl
      have hx := uv_xor (timesTo f V k) (f (bitv k))
      cases hb : V.getLsbD k with
      | true =>
        rw [hb, if_pos rfl] at ht hs
        have e1 : (bits .and .u32 (uv V / (2 : Int) ^ k) 1 == 1) = true := by rw [ht]; rfl
        have HS := Lib.hid hs; clear hs ht hb
        go_wp2
        go_round
        case rel => exact ⟨k + 1, by go_num, by omega, by rw [HS.out]⟩
        case measure => simp [intOf]; omega
      | false =>
        rw [hb, if_neg (by simp)] at ht hs
        have e1 : (bits .and .u32 (uv V / (2 : Int) ^ k) 1 == 1) = false := by rw [ht]; rfl
        have HS := Lib.hid hs; clear hs ht hb hx
        go_wp2
        go_round
        case rel => exact ⟨k + 1, by go_num, by omega, by rw [HS.out]⟩
        case measure => simp [intOf]; omega
    · obtain rfl : k = 32 := by omega
      go_wp2
      go_ret
      exact ⟨by rw [← HF.out]; rfl, rfl⟩

set_option maxHeartbeats 800000 in
set_option maxRecDepth 100000 in
theorem join2_any (f : BitVec 32 → BitVec 32) (hf : Lin f) (b g : Nat) (V : BitVec 32) (w : World) (hc : w.cell? ⟨b, 0, none⟩ = some (.pointer (some ⟨g, 0, none⟩))) (hm : At w g 96 (mat f 32)) :
    Calls Try.prog 60 #[.int .u32 (uv V), .pointer (some ⟨b, 0, none⟩)] w fun e w' => e = .returned (.int .u32 (uv (f (f V)))) ∧ Below w.heap.size w w' := by
  have HF := Lib.hid hf; clear hf
  go_enter Try.func60, Try.ntmps60
  go_wp2_with fail
  refine wp_region_vals (fun i => List.lookup i [(3, .int .u32 (uv (f V))), (4, .int .u32 (uv (f (f V))))]) (AV [(3, .int .u32 (uv (f V))), (4, .int .u32 (uv (f (f V))))] []) (by kernel_rfl) (by kernel_rfl) (AV_pers _ _ (by intro p hp; cases hp)) (AV_V _ _) ?_
  intro vs hvs
  (refine wpF_ex ?_; apply Exists.intro; apply Exists.intro; refine ⟨fun wx hwx K Qp hK => ?_, ?_, rfl, rfl, ?_⟩; (have d := bl_get hwx.1 hc; clear hwx; go_wp2_with fail; exact hK); rfl)
  (refine wpF_ex ?_; apply Exists.intro; apply Exists.intro; refine ⟨fun wx hwx K Qp hK => ?_, ?_, rfl, rfl, ?_⟩; (have d := bl_get hwx.1 hc; clear hwx; go_wp2_with fail; exact hK); rfl)
  (refine wpF_ex ?_; apply Exists.intro; apply Exists.intro; refine ⟨fun wx hwx K Qp hK => ?_, ?_, rfl, rfl, ?_⟩; (clear hwx; go_wp2_with fail; exact hK); rfl)
  (refine wpF_valA (.int .u32 (uv (f V))) rfl (hvs 3 _ rfl) ?_; apply Exists.intro; refine ⟨fun wx hwx K Qp hK => ?_, ?_, rfl, ?_⟩; (have hx1 := hwx.1; clear hwx; go_wp2_with fail; refine (times_any f HF.out g V _ (hm.below hx1 hm.lt)).mono ?_; rintro e w' ⟨rfl, rfl⟩; exact hK _ (Below.refl _ _)); rfl)
  (refine wpF_valA (.int .u32 (uv (f (f V)))) rfl (hvs 4 _ rfl) ?_; apply Exists.intro; refine ⟨fun wx hwx K Qp hK => ?_, ?_, rfl, ?_⟩; (have hx1 := hwx.1; clear hwx; go_wp2_with fail; refine (times_any f HF.out g (f V) _ (hm.below hx1 hm.lt)).mono ?_; rintro e w' ⟨rfl, rfl⟩; exact hK _ (Below.refl _ _)); rfl)
  (refine wpF_ex ?_; apply Exists.intro; apply Exists.intro; refine ⟨fun wx hwx K Qp hK => ?_, ?_, rfl, rfl, ?_⟩; (clear hwx; go_wp2_with fail; exact hK); rfl)
  refine wpF_nil ?_
  intro w9 hb9 hp9
  go_wp2
  go_ret
  exact ⟨rfl, hb9⟩
end Go.Proofs.Ytlganffeaapebaa
