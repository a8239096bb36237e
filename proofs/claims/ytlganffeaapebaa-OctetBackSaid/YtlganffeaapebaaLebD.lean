/- What bytes begin with (leb.Get, the document's Get, leb.GetInt, the document's Unfold): each computes the plain function of its name. No condition. -/
import Derived.Test.YtlganffeaapebaaLebB
import Derived.Test.YtlganffeaapebaaLebC
import Derived.Deep.LoopGhost
namespace Go.Proofs.Ytlganffeaapebaa
open Go.RowKit

/-- Three results: a number, how many bytes, why not. -/
def tup3 (r : Int × Int × Int) : Value := .tuple #[.int .u64 r.1, .int .i64 r.2.1, .int .i64 r.2.2]

theorem getAt_step (xs : List Int) (k : Nat) (n c : Int) (r : List Int) (h : xs = c :: r) : getAt xs k n =
    if k = 9 ∧ 1 < c then (0, 0, 21) else if c = 0 ∧ 0 < k then (0, 0, 21) else
    if c < 128 then (n + c % 128 * 128 ^ k, (k : Int) + 1, 0) else getAt r (k + 1) (n + c % 128 * 128 ^ k) := by rw [h, getAt]

theorem drop_cons (xs : List Int) (k : Nat) (h : k < xs.length) : xs.drop k = xs[k] :: xs.drop (k + 1) := List.drop_eq_getElem_cons h

theorem and127 (c : Int) (h0 : 0 ≤ c) (h1 : c ≤ 255) : bits BinOp.and IntKind.u8 c 127 = c % 128 := by
  have h : ∀ x : Fin 256, bits BinOp.and IntKind.u8 ((x.val : Nat) : Int) 127 = ((x.val : Nat) : Int) % 128 := by decide +kernel
  have h' := h ⟨c.toNat, by omega⟩
  rw [show ((c.toNat : Nat) : Int) = c from by omega] at h'
  exact h'

theorem orstep (k : Nat) (m c : Int) (hk : k ≤ 9) (m0 : 0 ≤ m) (m1 : m < 128 ^ k) (h0 : 0 ≤ c) (h1 : c ≤ 255) (h9 : k = 9 → c ≤ 1) :
    bits BinOp.or IntKind.u64 m (IntKind.u64.wrap (IntKind.u64.wrap (bits BinOp.and IntKind.u8 c 127) * 2 ^ (7 * k))) = m + c % 128 * 128 ^ k := by
  rw [and127 c h0 h1]
  have e1 : IntKind.u64.wrap (c % 128) = c % 128 := IntWalk.u64_in _ (by omega)
  have e2 : (2 : Int) ^ (7 * k) = 128 ^ k := by rw [Int.pow_mul]; rfl
  rw [e1, e2]
  obtain ⟨M, rfl⟩ := Int.eq_ofNat_of_zero_le m0
  obtain ⟨x, hx⟩ := Int.eq_ofNat_of_zero_le (show 0 ≤ c % 128 by omega)
  rw [hx]
  have e3 : ((x : Int) * 128 ^ k) = ((x * 128 ^ k : Nat) : Int) := by simp
  have hM : M < 128 ^ k := by
    have e : ((128 : Int) ^ k) = ((128 ^ k : Nat) : Int) := by simp
    rw [e] at m1; omega
  have hb : x * 128 ^ k + M < 18446744073709551616 := by
    have hxl : x ≤ 127 := by omega
    by_cases h : k = 9
    · subst h
      have := h9 rfl
      have : x ≤ 1 := by omega
      have := Nat.mul_le_mul_right (128 ^ 9) this
      omega
    · have hp : 128 ^ k ≤ 128 ^ 8 := Nat.pow_le_pow_right (by decide) (by omega)
      have := Nat.mul_le_mul hxl hp
      omega
  have e4 : IntKind.u64.wrap ((x : Int) * 128 ^ k) = ((x * 128 ^ k : Nat) : Int) := by
    rw [e3]; exact IntWalk.u64_in _ (by omega)
  rw [e4, u64_or_nat _ _ (by omega) (by omega)]
  have e5 : (128 : Nat) ^ k = 2 ^ (7 * k) := by rw [Nat.pow_mul]
  rw [e5] at hM ⊢
  have e6 := Nat.two_pow_add_eq_or_of_lt hM x
  rw [Nat.mul_comm x, Nat.or_comm, ← e6]
  have e7 : (128 : Int) ^ k = ((2 ^ (7 * k) : Nat) : Int) := by rw [← e5]; simp
  rw [e7]
  rw [Int.mul_comm]
  omega

theorem tup3_of (a : Int) (b c : Int) (r : Int × Int × Int) (h : r = (a, b, c)) : tup3 r = .tuple #[.int .u64 a, .int .i64 b, .int .i64 c] := by rw [h]; rfl

theorem getAt_more (k : Nat) (m c : Int) (m0 : 0 ≤ m) (m1 : m < 128 ^ k) : 0 ≤ m + c % 128 * 128 ^ k ∧ m + c % 128 * 128 ^ k < 128 ^ (k + 1) := by
  have hp := pow_pos128 k
  have h1 : 0 ≤ c % 128 * 128 ^ k := Int.mul_nonneg (by omega) (by omega)
  have h2 : c % 128 * 128 ^ k ≤ 127 * 128 ^ k := Int.mul_le_mul_of_nonneg_right (by omega) (by omega)
  rw [Int.pow_succ]
  constructor <;> omega

set_option maxHeartbeats 400000 in
set_option maxRecDepth 100000 in
theorem get_any (v : Value) (xs : List Int) (w : World) (hv : Rd w v (xs.map (Value.int .u8))) (hb : ∀ x ∈ xs, 0 ≤ x ∧ x ≤ 255) (hx : xs.length ≤ 1099511627776) :
    Calls Try.prog 19 #[v] w fun e w' => e = .returned (tup3 (getAt xs 0 0)) ∧ Below w.heap.size w w' := by
  obtain ⟨ao, ca, rfl, _, ha⟩ := hv
  simp only [List.length_map]
  have HB := Lib.hid hb; clear hb
  go_enter Try.func19, Try.ntmps19
  go_wp2
  go_step3
  go_wp2
  go_step3
  go_wp2
  go_loopw [5, 6, 11] (fun n sz i wr => ∃ (k : Nat) (m : Int), i = .int .i64 k ∧ k ≤ xs.length ∧ k ≤ 9 ∧ n = .int .u64 m ∧ 0 ≤ m ∧ m < 128 ^ k ∧ sz = .int .i64 0 ∧ getAt (xs.drop k) k m = getAt xs 0 0 ∧ Below w.heap.size w wr)
    (fun _ _ i _ => xs.length - (intOf i).toNat)
  case atStart => exact ⟨0, 0, rfl, by omega, by omega, rfl, by omega, by simp, rfl, rfl, Below.refl _ _⟩
  case round =>
    obtain ⟨k, m, rfl, hk, hk9, rfl, hm0, hm1, rfl, hg, hbw⟩ := hrel
    have HG := Lib.hid hg; have HM := Lib.hid hm1; clear hg hm1
    by_cases hlt : k < xs.length
    · obtain ⟨b, o, rfl, hc⟩ := ha (by intro h; simp at h; subst h; simp at hlt)
      have hcell := bl_get hbw (hc k (by simpa using hlt))
      simp only [List.getElem_map] at hcell
      have hcb := HB.out xs[k] (List.getElem_mem hlt)
      have hs := getAt_step (xs.drop k) k m xs[k] _ (drop_cons xs k hlt)
      rw [HG.out] at hs
      obtain ⟨c, hcc⟩ : ∃ c, c = xs[k] := ⟨_, rfl⟩
      rw [← hcc] at hcell hcb hs
      obtain ⟨hc0, hc1⟩ := hcb
      have HC := Lib.hid hcc; clear hcc hc ha
      by_cases h1 : k = 9 ∧ 1 < c
      · rw [if_pos h1] at hs
        have HS := Lib.hid hs; clear hs
        obtain ⟨rfl, h1⟩ := h1
        go_wp2
        (try rw [Exit.noGoto_ret]); go_ret3
        exact ⟨by rw [HS.out]; rfl, hbw⟩
      · rw [if_neg h1] at hs
        by_cases h2 : c = 0 ∧ 0 < k
        · rw [if_pos h2] at hs
          have HS := Lib.hid hs; clear hs h1
          obtain ⟨rfl, h2⟩ := h2
          by_cases h9 : k = 9
          · subst h9
            go_wp2
            (try rw [Exit.noGoto_ret]); go_ret3
            exact ⟨by rw [HS.out]; rfl, hbw⟩
          · go_wp2
            (try rw [Exit.noGoto_ret]); go_ret3
            exact ⟨by rw [HS.out]; rfl, hbw⟩
        · rw [if_neg h2] at hs
          by_cases h3 : c < 128
          · rw [if_pos h3] at hs
            have HS := Lib.hid hs; clear hs
            by_cases h9 : k = 9
            · subst h9
              have hc2 : c ≤ 1 := by omega
              have hc3 : 1 ≤ c := by omega
              clear h1 h2
              go_wp2
              (try rw [Exit.noGoto_ret]); go_ret3
              refine ⟨?_, hbw⟩
              have e := orstep 9 m c (by omega) hm0 HM.out hc0 hc1 (fun _ => hc2)
              rw [HS.out, ← e]; rfl
            · clear h1
              by_cases h4 : k = 0
              · subst h4
                simp only [Nat.add_zero] at hcell
                clear h2
                by_cases h5 : c = 0
                · subst h5
                  go_wp2
                  (try rw [Exit.noGoto_ret]); go_ret3
                  refine ⟨?_, hbw⟩
                  have e := orstep 0 m 0 (by omega) hm0 HM.out (by omega) (by omega) (by omega)
                  simp only [Nat.mul_zero, Int.pow_zero, Int.mul_one] at e
                  rw [HS.out]; simp only [Int.pow_zero, Int.mul_one]; rw [← e]; rfl
                · have hc3 : 1 ≤ c := by omega
                  go_wp2
                  (try rw [Exit.noGoto_ret]); go_ret3
                  refine ⟨?_, hbw⟩
                  have e := orstep 0 m c (by omega) hm0 HM.out (by omega) (by omega) (by omega)
                  simp only [Nat.mul_zero, Int.pow_zero, Int.mul_one] at e
                  rw [HS.out]; simp only [Int.pow_zero, Int.mul_one]; rw [← e]; rfl
              · have hc3 : 1 ≤ c := by omega
                clear h2
                go_wp2
                (try rw [Exit.noGoto_ret]); go_ret3
                refine ⟨?_, hbw⟩
                have e := orstep k m c (by omega) hm0 HM.out hc0 hc1 (by omega)
                rw [HS.out, ← e]; rfl
          · rw [if_neg h3] at hs
            have HS := Lib.hid hs; clear hs
            have h9 : k < 9 := by omega
            clear h1 h2
            go_wp2
            go_roundw
            case rel =>
              have e := orstep k m c (by omega) hm0 HM.out hc0 hc1 (by omega)
              have e2 := getAt_more k m c hm0 HM.out
              exact ⟨k + 1, m + c % 128 * 128 ^ k, by go_num, by omega, by omega, by rw [e], e2.1, e2.2, rfl, HS.out.symm, hbw⟩
            case measure => simp [intOf]; omega
    · have hv : getAt xs 0 0 = (0, 0, 20) := by rw [← HG.out, List.drop_of_length_le (by omega)]; rfl
      have HV := Lib.hid hv; clear hv
      go_wp2
      (try rw [Exit.noGoto_ret]); go_ret3
      exact ⟨by rw [HV.out]; rfl, hbw⟩
end Go.Proofs.Ytlganffeaapebaa
