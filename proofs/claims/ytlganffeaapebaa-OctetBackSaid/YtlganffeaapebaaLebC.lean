/- Plain laws of numbers as bytes: what is got, that it comes back, in one form alone. No program here. No condition. -/
import Derived.Test.YtlganffeaapebaaLebA
namespace Go.Proofs.Ytlganffeaapebaa

def val : List Int → Int
  | [] => 0
  | c :: r => c % 128 + 128 * val r

/-- The first place from which a number ends, counted from k on, below place 10. -/
def fin : List Int → Nat → Option Nat
  | [], _ => none
  | c :: r, k => if 10 ≤ k then none else if c < 128 then some 0 else (fin r (k + 1)).map (· + 1)

def getAt : List Int → Nat → Int → Int × Int × Int
  | [], _, _ => (0, 0, 20)
  | c :: r, k, n =>
    if k = 9 ∧ 1 < c then (0, 0, 21) else if c = 0 ∧ 0 < k then (0, 0, 21) else
    if c < 128 then (n + c % 128 * 128 ^ k, (k : Int) + 1, 0) else getAt r (k + 1) (n + c % 128 * 128 ^ k)

def refGet (xs : List Int) (k : Nat) (n : Int) : Int × Int × Int :=
  match fin xs k with
  | none => (0, 0, if 10 ≤ xs.length + k then 21 else 20)
  | some j => if (j + k = 9 ∧ 1 < xs.getD j 0) ∨ (0 < j + k ∧ xs.getD j 0 = 0) then (0, 0, 21) else (n + 128 ^ k * val (xs.take (j + 1)), (k : Int) + j + 1, 0)

theorem fin_lt : ∀ (xs : List Int) (k j : Nat), fin xs k = some j → j < xs.length ∧ j + k < 10
  | [], _, _, h => by simp [fin] at h
  | c :: r, k, j, h => by
    rw [fin] at h
    split at h
    · simp at h
    · split at h
      · simp at h; subst h; simp; omega
      · obtain ⟨i, hi, rfl⟩ := Option.map_eq_some_iff.1 h
        have := fin_lt r (k + 1) i hi
        simp; omega

theorem getAt_eq : ∀ (xs : List Int) (k : Nat) (n : Int), k ≤ 9 → getAt xs k n = refGet xs k n
  | [], k, n, hk => by simp [getAt, refGet, fin]; omega
  | c :: r, k, n, hk => by
    have e10 : ¬ 10 ≤ k := by omega
    by_cases h128 : c < 128
    · have hf : fin (c :: r) k = some 0 := by rw [fin, if_neg e10, if_pos h128]
      rw [getAt, refGet, hf]
      simp only [List.getD_cons_zero, Nat.zero_add]
      by_cases h1 : k = 9 ∧ 1 < c
      · rw [if_pos h1, if_pos (.inl h1)]
      · rw [if_neg h1]
        by_cases h2 : c = 0 ∧ 0 < k
        · rw [if_pos h2, if_pos (.inr ⟨h2.2, h2.1⟩)]
        · rw [if_neg h2, if_pos h128, if_neg (by intro h; rcases h with h | h; exact h1 h; exact h2 ⟨h.2, h.1⟩)]
          simp [val, Int.mul_comm]
    · by_cases h9 : k = 9
      · subst h9
        rw [getAt, if_pos ⟨rfl, by omega⟩, refGet]
        have hf : fin (c :: r) 9 = none := by
          rw [fin, if_neg e10, if_neg h128]
          cases hr : fin r (9 + 1) with
          | none => rfl
          | some j => have := fin_lt r _ _ hr; omega
        rw [hf]; simp
      · rw [getAt, if_neg (by omega), if_neg (by omega), if_neg h128, getAt_eq r (k + 1) _ (by omega), refGet, refGet]
        have hf : fin (c :: r) k = (fin r (k + 1)).map (· + 1) := by rw [fin, if_neg e10, if_neg h128]
        rw [hf]
        cases hr : fin r (k + 1) with
        | none => simp; omega
        | some j =>
          simp only [Option.map_some, List.getD_cons_succ]
          have e : j + (k + 1) = j + 1 + k := by omega
          rw [e]
          split
          · rfl
          · simp only [List.take_succ_cons, val, Prod.mk.injEq]
            refine ⟨?_, by omega, trivial⟩
            rw [Int.mul_add, Int.pow_succ, ← Int.mul_assoc, Int.mul_comm (c % 128)]
            omega

theorem putL_ne (n : Nat) : putL n ≠ [] := by rw [putL]; split <;> simp

theorem pow_pos128 (k : Nat) : (0 : Int) < 128 ^ k := Int.pow_pos (by decide)

/-- What was put is got, whatever stands behind it. -/
theorem get_put (b : List Int) : ∀ (n k : Nat) (acc : Int), k ≤ 9 → n < 128 ^ (9 - k) * 2 → (k = 0 ∨ 0 < n) →
    getAt (putL n ++ b) k acc = (acc + 128 ^ k * n, (k : Int) + (putL n).length, 0) := by
  intro n
  induction n using Nat.strongRecOn with
  | _ n ih =>
    intro k acc hk hn hz
    by_cases h : n < 128
    · have e : putL n = [(n : Int)] := by rw [putL, if_pos h]
      rw [e, List.singleton_append, getAt, if_neg (by rintro ⟨rfl, h1⟩; simp at hn; omega), if_neg (by omega), if_pos (by omega)]
      have : (n : Int) % 128 = n := by omega
      simp [this, Int.mul_comm]
    · have e : putL n = ((n % 128 + 128 : Nat) : Int) :: putL (n / 128) := by rw [putL, if_neg h]
      have h9 : k ≠ 9 := by rintro rfl; simp at hn; omega
      have hd : n / 128 < 128 ^ (9 - (k + 1)) * 2 := by
        have e2 : 9 - k = (9 - (k + 1)) + 1 := by omega
        rw [e2, Nat.pow_succ] at hn
        rw [Nat.div_lt_iff_lt_mul (by decide)]
        rw [Nat.mul_right_comm] at hn; exact hn
      rw [e, List.cons_append, getAt, if_neg (by omega), if_neg (by omega), if_neg (by omega), ih (n / 128) (by omega) (k + 1) _ (by omega) hd (.inr (by omega))]
      have e3 : ((n % 128 + 128 : Nat) : Int) % 128 = ((n % 128 : Nat) : Int) := by omega
      rw [e3]
      simp only [Prod.mk.injEq, List.length_cons]
      refine ⟨?_, by omega, trivial⟩
      have e4 : (n : Int) = ((n % 128 : Nat) : Int) + 128 * ((n / 128 : Nat) : Int) := by omega
      conv => rhs; rw [e4]
      rw [Int.mul_add, Int.pow_succ, ← Int.mul_assoc, Int.mul_comm (((n % 128 : Nat) : Int))]
      omega

/-- A beginning of it is too short. -/
theorem get_short : ∀ (n k j : Nat) (acc : Int), k ≤ 9 → n < 128 ^ (9 - k) * 2 → j < (putL n).length → getAt ((putL n).take j) k acc = (0, 0, 20) := by
  intro n
  induction n using Nat.strongRecOn with
  | _ n ih =>
    intro k j acc hk hn hj
    cases j with
    | zero => simp [getAt]
    | succ j =>
      by_cases h : n < 128
      · have e : putL n = [(n : Int)] := by rw [putL, if_pos h]
        rw [e] at hj; simp at hj
      · have e : putL n = ((n % 128 + 128 : Nat) : Int) :: putL (n / 128) := by rw [putL, if_neg h]
        have h9 : k ≠ 9 := by rintro rfl; simp at hn; omega
        have hd : n / 128 < 128 ^ (9 - (k + 1)) * 2 := by
          have e2 : 9 - k = (9 - (k + 1)) + 1 := by omega
          rw [e2, Nat.pow_succ] at hn
          rw [Nat.div_lt_iff_lt_mul (by decide)]
          rw [Nat.mul_right_comm] at hn; exact hn
        rw [e] at hj ⊢
        simp at hj
        rw [List.take_succ_cons, getAt, if_neg (by omega), if_neg (by omega), if_neg (by omega)]
        exact ih (n / 128) (by omega) (k + 1) j _ (by omega) hd hj

theorem val_nonneg : ∀ (xs : List Int), 0 ≤ val xs
  | [] => by simp [val]
  | c :: r => by have := val_nonneg r; rw [val]; omega

/-- One form alone: the bytes of a number that was got are those from which it was got. -/
theorem put_val : ∀ (xs : List Int) (k j : Nat), (∀ x ∈ xs, 0 ≤ x ∧ x ≤ 255) → fin xs k = some j → (0 < k + j → xs.getD j 0 ≠ 0) →
    putL (val (xs.take (j + 1))).toNat = xs.take (j + 1) ∧ (0 < k + j → 0 < val (xs.take (j + 1)))
  | [], _, _, _, h, _ => by simp [fin] at h
  | c :: r, k, j, hb, h, hz => by
    have hc := hb c (by simp)
    rw [fin] at h
    split at h
    · simp at h
    · split at h
      · rename_i h128
        simp at h; subst h
        simp only [List.take_succ_cons, List.take_zero, val, List.getD_cons_zero] at hz ⊢
        have e : c % 128 + 128 * 0 = c := by omega
        rw [e, putL, if_pos (by omega)]
        refine ⟨by simp; omega, fun hk => ?_⟩
        have := hz (by omega)
        omega
      · rename_i h128
        obtain ⟨i, hi, rfl⟩ := Option.map_eq_some_iff.1 h
        have ih := put_val r (k + 1) i (fun x hx => hb x (by simp [hx])) hi (fun _ => by have := hz (by omega); simpa using this)
        have hp := ih.2 (by omega)
        simp only [List.take_succ_cons, val] at ih hp ⊢
        refine ⟨?_, fun _ => by omega⟩
        rw [putL, if_neg (by omega)]
        have e1 : (c % 128 + 128 * val (r.take (i + 1))).toNat / 128 = (val (r.take (i + 1))).toNat := by omega
        rw [e1, ih.1]
        congr 1
        omega

theorem get_back (xs : List Int) (hb : ∀ x ∈ xs, 0 ≤ x ∧ x ≤ 255) (w m : Int) (h : getAt xs 0 0 = (w, m, 0)) : 0 < m ∧ m ≤ xs.length ∧ putL w.toNat = xs.take m.toNat := by
  rw [getAt_eq xs 0 0 (by omega), refGet] at h
  cases hf : fin xs 0 with
  | none => rw [hf] at h; simp at h; split at h <;> omega
  | some j =>
    rw [hf] at h
    have hj := fin_lt xs 0 j hf
    simp only [Nat.add_zero] at h
    split at h
    · simp at h
    · rename_i hn
      simp at h
      obtain ⟨rfl, rfl⟩ := h
      have := put_val xs 0 j hb hf (fun h0 => by intro he; exact hn (.inr ⟨by omega, he⟩))
      refine ⟨by omega, by omega, ?_⟩
      have e : ((j : Int) + 1).toNat = j + 1 := by omega
      rw [e]; exact this.1

def unfoldN (n : Int) : Int := if n % 2 = 0 then n / 2 else -(n / 2) - 1
theorem unfold_fold (v : Int) (f : Int) (hf : f = if 0 ≤ v then 2 * v else 2 * (-(v + 1)) + 1) : unfoldN f = v := by
  unfold unfoldN; subst hf; split <;> split <;> omega
end Go.Proofs.Ytlganffeaapebaa
