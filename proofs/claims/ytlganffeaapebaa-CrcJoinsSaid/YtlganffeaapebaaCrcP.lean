/- Plain laws of the sums of 32 bits: a register behind a bit, behind bytes; by half bytes; joined; one byte that is another one. No program here. No condition. -/
import Derived.Test.YtlganffeaapebaaBase
namespace Go.Proofs.Ytlganffeaapebaa

def poly : BitVec 32 := 3988292384#32
/-- A register behind one bit. -/
def st (v : BitVec 32) : BitVec 32 := (v >>> 1) ^^^ (if v.getLsbD 0 then poly else 0#32)
def stn : Nat → BitVec 32 → BitVec 32
  | 0, v => v
  | n + 1, v => stn n (st v)
/-- Behind one byte. -/
def byte (v : BitVec 32) (c : Int) : BitVec 32 := stn 8 (v ^^^ BitVec.ofInt 32 c)
def runB (v : BitVec 32) (l : List Int) : BitVec 32 := l.foldl byte v

theorem st_xor (a b : BitVec 32) : st (a ^^^ b) = st a ^^^ st b := by
  unfold st
  rw [BitVec.ushiftRight_xor_distrib, BitVec.getLsbD_xor]
  cases ha : a.getLsbD 0 <;> cases hb : b.getLsbD 0 <;> simp
  · rw [BitVec.xor_assoc]
  · rw [BitVec.xor_assoc, BitVec.xor_comm (b >>> 1) poly, BitVec.xor_assoc]
  · rw [BitVec.xor_assoc, ← BitVec.xor_assoc poly, BitVec.xor_comm poly (b >>> 1), BitVec.xor_assoc (b >>> 1), BitVec.xor_self, BitVec.xor_zero]
theorem stn_xor : ∀ (n : Nat) (a b : BitVec 32), stn n (a ^^^ b) = stn n a ^^^ stn n b
  | 0, _, _ => rfl
  | n + 1, a, b => by rw [stn, stn, stn, st_xor, stn_xor n]
theorem st_zero : st 0#32 = 0#32 := by decide
theorem stn_zero : ∀ n, stn n 0#32 = 0#32
  | 0 => rfl
  | n + 1 => by rw [stn, st_zero, stn_zero n]
theorem stn_add : ∀ (m n : Nat) (v : BitVec 32), stn (m + n) v = stn n (stn m v)
  | 0, n, v => by simp [stn]
  | m + 1, n, v => by rw [show m + 1 + n = (m + n) + 1 from by omega, stn, stn_add m n, stn]

/-- Low bits 0 are shifted out. -/
theorem stn_high (v : BitVec 32) : stn 4 ((v >>> 4) <<< 4) = v >>> 4 := by
  have h : ∀ (u : BitVec 32), u.getLsbD 0 = false → st u = u >>> 1 := fun u hu => by unfold st; rw [hu]; simp
  have e1 : st ((v >>> 4) <<< 4) = ((v >>> 4) <<< 4) >>> 1 := h _ (by simp)
  have e2 : st (((v >>> 4) <<< 4) >>> 1) = ((v >>> 4) <<< 4) >>> 1 >>> 1 := h _ (by simp)
  have e3 : st (((v >>> 4) <<< 4) >>> 1 >>> 1) = ((v >>> 4) <<< 4) >>> 1 >>> 1 >>> 1 := h _ (by simp)
  have e4 : st (((v >>> 4) <<< 4) >>> 1 >>> 1 >>> 1) = ((v >>> 4) <<< 4) >>> 1 >>> 1 >>> 1 >>> 1 := h _ (by simp)
  show st (st (st (st ((v >>> 4) <<< 4)))) = _
  rw [e1, e2, e3, e4]
  apply BitVec.eq_of_getLsbD_eq
  intro i hi
  simp only [BitVec.getLsbD_ushiftRight, BitVec.getLsbD_shiftLeft]
  by_cases h28 : i < 28
  · have a1 : 1 + (1 + (1 + (1 + i))) = i + 4 := by omega
    have a2 : i + 4 < 32 := by omega
    have a3 : ¬ (i + 4 < 4) := by omega
    have a4 : 4 + (i + 4 - 4) = i + 4 := by omega
    have a5 : 4 + i = i + 4 := by omega
    simp [a1, a2, a3, a5]
  · have a1 : 1 + (1 + (1 + (1 + i))) = i + 4 := by omega
    have a2 : ¬ i + 4 < 32 := by omega
    have a5 : v.getLsbD (4 + i) = false := BitVec.getLsbD_of_ge _ _ (by omega)
    simp [a1, a2, a5]

theorem low4 : ∀ i, i < 32 → (15#32 : BitVec 32).getLsbD i = decide (i < 4) := by decide
theorem split4 (v : BitVec 32) : v = ((v >>> 4) <<< 4) ^^^ (v &&& 15#32) := by
  apply BitVec.eq_of_getLsbD_eq
  intro i hi
  simp only [BitVec.getLsbD_xor, BitVec.getLsbD_and, BitVec.getLsbD_shiftLeft, low4 i hi, BitVec.getLsbD_ushiftRight]
  by_cases h : i < 4
  · simp [h]
  · have : 4 + (i - 4) = i := by omega
    simp [h, this, hi]

/-- Half a byte by a table. -/
theorem half_step (v : BitVec 32) : stn 4 v = (v >>> 4) ^^^ stn 4 (v &&& 15#32) := by
  conv => lhs; rw [split4 v]
  rw [stn_xor, stn_high]

theorem runB_append (v : BitVec 32) (a b : List Int) : runB v (a ++ b) = runB (runB v a) b := by simp [runB]
theorem byte_xor (a b : BitVec 32) (c : Int) : byte (a ^^^ b) c = stn 8 a ^^^ byte b c := by
  unfold byte; rw [BitVec.xor_assoc, stn_xor]
theorem runB_xor : ∀ (l : List Int) (a b : BitVec 32), runB (a ^^^ b) l = stn (8 * l.length) a ^^^ runB b l
  | [], a, b => by simp [runB, stn]
  | c :: l, a, b => by
    show runB (byte (a ^^^ b) c) l = _
    rw [byte_xor, runB_xor l]
    rw [show 8 * (c :: l).length = 8 + 8 * l.length from by simp; omega, stn_add]
    rfl

/-- What stands behind 'n' bytes more: both sums, joined. -/
theorem join_sums (a b : List Int) : stn (8 * b.length) (~~~ (runB (BitVec.allOnes 32) a)) ^^^ ~~~ (runB (BitVec.allOnes 32) b) = ~~~ (runB (BitVec.allOnes 32) (a ++ b)) := by
  have e : ∀ x : BitVec 32, ~~~ x = x ^^^ BitVec.allOnes 32 := fun x => (BitVec.xor_allOnes).symm
  rw [runB_append]
  have h1 : runB (BitVec.allOnes 32) b = stn (8 * b.length) (BitVec.allOnes 32) ^^^ runB 0#32 b := by
    have := runB_xor b (BitVec.allOnes 32) 0#32; rwa [BitVec.xor_zero] at this
  have h2 : runB (runB (BitVec.allOnes 32) a) b = stn (8 * b.length) (runB (BitVec.allOnes 32) a) ^^^ runB 0#32 b := by
    have := runB_xor b (runB (BitVec.allOnes 32) a) 0#32; rwa [BitVec.xor_zero] at this
  rw [e (runB (BitVec.allOnes 32) a), e (runB (BitVec.allOnes 32) b), e (runB (runB (BitVec.allOnes 32) a) b), h1, h2, stn_xor]
  generalize stn (8 * b.length) (BitVec.allOnes 32) = F
  generalize stn (8 * b.length) (runB (BitVec.allOnes 32) a) = X
  generalize runB 0#32 b = Y
  rw [BitVec.xor_assoc X F, ← BitVec.xor_assoc F (F ^^^ Y), ← BitVec.xor_assoc F F Y, BitVec.xor_self, BitVec.zero_xor, ← BitVec.xor_assoc]

/-- A register that is none stays none: what two differ in is never lost. -/
theorem st_inj (v : BitVec 32) (h : st v = 0#32) : v = 0#32 := by
  unfold st at h
  cases h0 : v.getLsbD 0 with
  | true =>
    exfalso
    rw [h0] at h
    have := congrArg (fun x : BitVec 32 => x.getLsbD 31) h
    simp [poly] at this
  | false =>
    rw [h0] at h
    simp at h
    ext i hi
    cases i with
    | zero => simpa [BitVec.getLsbD_eq_getElem hi] using h0
    | succ i =>
      have := congrArg (fun x : BitVec 32 => x.getLsbD i) h
      simp [BitVec.getLsbD_ushiftRight, Nat.add_comm 1 i, BitVec.getLsbD_eq_getElem hi] at this
      simpa using this
theorem stn_inj : ∀ (n : Nat) (v : BitVec 32), stn n v = 0#32 → v = 0#32
  | 0, _, h => h
  | n + 1, v, h => st_inj v (stn_inj n _ h)
theorem run_inj (l : List Int) (a b : BitVec 32) (h : runB a l = runB b l) : a = b := by
  have e : a = (a ^^^ b) ^^^ b := by rw [BitVec.xor_assoc, BitVec.xor_self, BitVec.xor_zero]
  have h1 := runB_xor l (a ^^^ b) b
  rw [← e, h] at h1
  have h2 : stn (8 * l.length) (a ^^^ b) = 0#32 := by
    have := congrArg (· ^^^ runB b l) h1
    simp only [BitVec.xor_self, BitVec.xor_assoc, BitVec.xor_zero] at this
    exact this.symm
  have h3 := stn_inj _ _ h2
  rw [e, h3, BitVec.zero_xor]
theorem byte_inj (v : BitVec 32) (c d : Int) (h : byte v c = byte v d) : BitVec.ofInt 32 c = BitVec.ofInt 32 d := by
  unfold byte at h
  rw [stn_xor, stn_xor] at h
  have h1 : stn 8 (BitVec.ofInt 32 c ^^^ BitVec.ofInt 32 d) = 0#32 := by
    rw [stn_xor]
    have := congrArg (stn 8 v ^^^ ·) h
    simp only [← BitVec.xor_assoc, BitVec.xor_self, BitVec.zero_xor] at this
    rw [this, BitVec.xor_self]
  have h2 := stn_inj _ _ h1
  have e : BitVec.ofInt 32 c = (BitVec.ofInt 32 c ^^^ BitVec.ofInt 32 d) ^^^ BitVec.ofInt 32 d := by rw [BitVec.xor_assoc, BitVec.xor_self, BitVec.xor_zero]
  rw [e, h2, BitVec.zero_xor]
/-- One byte that is another one is told. -/
theorem tells (v : BitVec 32) (a b : List Int) (c d : Int) (hc : 0 ≤ c ∧ c ≤ 255) (hd : 0 ≤ d ∧ d ≤ 255) (h : c ≠ d) : runB v (a ++ c :: b) ≠ runB v (a ++ d :: b) := by
  intro he
  rw [runB_append, runB_append] at he
  have h1 := run_inj b _ _ (show runB (byte (runB v a) c) b = runB (byte (runB v a) d) b from he)
  have h2 := congrArg BitVec.toNat (byte_inj _ _ _ h1)
  rw [BitVec.toNat_ofInt, BitVec.toNat_ofInt] at h2
  omega
end Go.Proofs.Ytlganffeaapebaa
