/- Plain laws of numbers by powers of two, rounded to the nearest, halves away from 0. No program here. No condition. -/
import Derived.Test.YtgecmooedhnenaaBase
namespace Go.Proofs.Ytgecmooedhnenaa

/-- A number by 2 to the s, to the nearest, halves up. -/
def rn (m s : Nat) : Nat := if s = 0 then m else m / 2 ^ s + m / 2 ^ (s - 1) % 2
def rnd (v s : Int) : Int := if s < 0 ∨ 62 < s then 0 else if 0 ≤ v then (rn v.toNat s.toNat : Int) else -(rn (-v).toNat s.toNat : Int)

theorem rn_succ (m s : Nat) : rn m (s + 1) = (m / 2 ^ s + 1) / 2 := by
  unfold rn
  rw [if_neg (by omega), Nat.add_sub_cancel, Nat.pow_succ, ← Nat.div_div_eq_div_mul]
  omega
theorem rn_half (m s : Nat) (hs : 0 < s) : rn m s = (m + 2 ^ (s - 1)) / 2 ^ s := by
  obtain ⟨t, rfl⟩ : ∃ t, s = t + 1 := ⟨s - 1, by omega⟩
  rw [rn_succ, Nat.add_sub_cancel, Nat.pow_succ, ← Nat.div_div_eq_div_mul, Nat.add_div_right _ (Nat.two_pow_pos t)]
theorem rn_mono (m n s : Nat) (h : m ≤ n) : rn m s ≤ rn n s := by
  by_cases hs : s = 0
  · subst hs; simpa [rn] using h
  · rw [rn_half _ _ (by omega), rn_half _ _ (by omega)]
    exact Nat.div_le_div_right (by omega)
theorem rn_le (m s : Nat) : rn m s ≤ m := by
  by_cases hs : s = 0
  · subst hs; simp [rn]
  · obtain ⟨t, rfl⟩ : ∃ t, s = t + 1 := ⟨s - 1, by omega⟩
    rw [rn_succ]
    have := Nat.div_le_self m (2 ^ t)
    omega
theorem rn_zero (s : Nat) : rn 0 s = 0 := by have := rn_le 0 s; omega
theorem rnd_mono (v u s : Int) (h : v ≤ u) : rnd v s ≤ rnd u s := by
  unfold rnd
  split
  · omega
  · split
    · rw [if_pos (by omega)]
      have := rn_mono v.toNat u.toNat s.toNat (by omega)
      omega
    · split
      · omega
      · have := rn_mono (-u).toNat (-v).toNat s.toNat (by omega)
        omega
theorem rnd_neg (v s : Int) : rnd (-v) s = -rnd v s := by
  unfold rnd
  split
  · omega
  · by_cases h : v = 0
    · subst h; simp [rn_zero]
    · by_cases h1 : 0 ≤ v
      · rw [if_neg (by omega), if_pos h1, Int.neg_neg]
      · rw [if_pos (by omega), if_neg h1, Int.neg_neg]
theorem rnd_abs (v s : Int) : -(v.natAbs : Int) ≤ rnd v s ∧ rnd v s ≤ v.natAbs := by
  unfold rnd
  split
  · omega
  · split
    · have := rn_le v.toNat s.toNat; omega
    · have := rn_le (-v).toNat s.toNat; omega
theorem rnd_bd (v s : Int) (B : Int) (h1 : -B ≤ v) (h2 : v ≤ B) : -B ≤ rnd v s ∧ rnd v s ≤ B := by
  have := rnd_abs v s; omega

/-- At most half a step away. -/
theorem rn_near (m s : Nat) : 2 * m ≤ 2 * (rn m s * 2 ^ s) + 2 ^ s ∧ 2 * (rn m s * 2 ^ s) ≤ 2 * m + 2 ^ s := by
  by_cases hs : s = 0
  · subst hs; simp [rn]
  · obtain ⟨t, rfl⟩ : ∃ t, s = t + 1 := ⟨s - 1, by omega⟩
    rw [rn_half _ _ (by omega), Nat.add_sub_cancel]
    have h1 := Nat.div_add_mod (m + 2 ^ t) (2 ^ (t + 1))
    have h2 := Nat.mod_lt (m + 2 ^ t) (Nat.two_pow_pos (t + 1))
    have e : 2 ^ (t + 1) = 2 * 2 ^ t := by rw [Nat.pow_succ]; omega
    rw [Nat.mul_comm] at h1
    generalize hX : (m + 2 ^ t) / 2 ^ (t + 1) * 2 ^ (t + 1) = X at *
    generalize (m + 2 ^ t) % 2 ^ (t + 1) = Y at *
    rw [e] at h2 ⊢
    omega

/-- The document's way: by the quotient and the rest that Go's division gives. -/
theorem ref_round (v : Int) (s : Nat) :
    (if 0 ≤ v.tmod (2 ^ s) ∧ (2 : Int) ^ s - v.tmod (2 ^ s) ≤ v.tmod (2 ^ s) ∧ (1 : Int) < 2 ^ s then v.tdiv (2 ^ s) + 1
      else if v.tmod (2 ^ s) < 0 ∧ (2 : Int) ^ s + v.tmod (2 ^ s) ≤ -v.tmod (2 ^ s) then v.tdiv (2 ^ s) - 1 else v.tdiv (2 ^ s)) =
    if 0 ≤ v then (rn v.toNat s : Int) else -(rn (-v).toNat s : Int) := by
  have hp : (0 : Int) < 2 ^ s := Int.pow_pos (by decide)
  have key : ∀ m : Nat, (rn m s : Int) = if (2 : Int) ^ s - (m : Int) % 2 ^ s ≤ (m : Int) % 2 ^ s ∧ (1 : Int) < 2 ^ s then (m : Int) / 2 ^ s + 1 else (m : Int) / 2 ^ s := by
    intro m
    have e : ((2 : Int) ^ s) = ((2 ^ s : Nat) : Int) := by simp
    rw [e]
    by_cases hs : s = 0
    · subst hs; simp [rn]
    · obtain ⟨t, rfl⟩ : ∃ t, s = t + 1 := ⟨s - 1, by omega⟩
      have e2 : 2 ^ (t + 1) = 2 * 2 ^ t := by rw [Nat.pow_succ]; omega
      have hz := Nat.two_pow_pos t
      unfold rn
      rw [if_neg (by omega), Nat.add_sub_cancel]
      have h1 := Nat.div_add_mod m (2 ^ (t + 1))
      have h2 := Nat.mod_lt m (Nat.two_pow_pos (t + 1))
      -- the bit below
      have hb : m / 2 ^ t % 2 = if 2 ^ t ≤ m % 2 ^ (t + 1) then 1 else 0 := by
        rw [e2] at h1 h2 ⊢
        have h3 : m / 2 ^ t = 2 * (m / (2 * 2 ^ t)) + (m % (2 * 2 ^ t)) / 2 ^ t := by
          conv => lhs; rw [← h1]
          rw [Nat.mul_assoc, Nat.mul_comm (2 ^ t) (m / (2 * 2 ^ t)), ← Nat.mul_assoc, Nat.add_comm, Nat.add_mul_div_right _ _ hz, Nat.add_comm]
        rw [h3]
        split
        · rename_i h
          have : m % (2 * 2 ^ t) / 2 ^ t = 1 := Nat.div_eq_of_lt_le (by omega) (by omega)
          omega
        · rename_i h
          have : m % (2 * 2 ^ t) / 2 ^ t = 0 := Nat.div_eq_of_lt (by omega)
          omega
      rw [hb]
      have c1 : ((m : Int) % ((2 ^ (t + 1) : Nat) : Int)) = ((m % 2 ^ (t + 1) : Nat) : Int) := by simp
      have c2 : ((m : Int) / ((2 ^ (t + 1) : Nat) : Int)) = ((m / 2 ^ (t + 1) : Nat) : Int) := by simp
      rw [c1, c2]
      generalize m % 2 ^ (t + 1) = R at *
      generalize m / 2 ^ (t + 1) = D at *
      rw [e2] at *
      generalize 2 ^ t = Z at *
      split <;> split <;> omega
  by_cases hv : 0 ≤ v
  · rw [if_pos hv, Int.tmod_eq_emod_of_nonneg hv, Int.tdiv_eq_ediv_of_nonneg hv, key v.toNat, Int.toNat_of_nonneg hv]
    have h1 := Int.emod_nonneg v (show (2 : Int) ^ s ≠ 0 by omega)
    generalize v % 2 ^ s = R at *
    generalize (2 : Int) ^ s = Z at *
    by_cases hc : Z - R ≤ R ∧ 1 < Z
    · rw [if_pos ⟨h1, hc⟩, if_pos hc]
    · rw [if_neg (fun h => hc h.2), if_neg (by omega), if_neg hc]
  · rw [if_neg hv]
    obtain ⟨u, rfl⟩ : ∃ u, v = -u := ⟨-v, by omega⟩
    have hu : 0 ≤ u := by omega
    rw [Int.neg_neg, Int.neg_tmod, Int.neg_tdiv, Int.tmod_eq_emod_of_nonneg hu, Int.tdiv_eq_ediv_of_nonneg hu, key u.toNat, Int.toNat_of_nonneg hu]
    have h1 := Int.emod_nonneg u (show (2 : Int) ^ s ≠ 0 by omega)
    have h3 : (2 : Int) ^ s = 1 → u % 2 ^ s = 0 := fun h => by rw [h]; omega
    generalize u % 2 ^ s = R at *
    generalize u / 2 ^ s = D at *
    generalize (2 : Int) ^ s = Z at *
    split <;> split <;> (try split) <;> omega

def clampI (v lo hi : Int) : Int := if v < lo then lo else if hi < v then hi else v
theorem clampI_mono (v u lo hi : Int) (h : v ≤ u) (hl : lo ≤ hi) : clampI v lo hi ≤ clampI u lo hi := by unfold clampI; split <;> split <;> (try split) <;> (try split) <;> omega

def rightQ (mult shift : Int) : Bool := decide (0 < mult) && decide (0 ≤ shift) && decide (shift ≤ 62)
def heldQ (acc mult shift zero lo hi : Int) : Int := if rightQ mult shift = true then clampI (rnd (acc * mult) shift + zero) lo hi else 0
end Go.Proofs.Ytgecmooedhnenaa
