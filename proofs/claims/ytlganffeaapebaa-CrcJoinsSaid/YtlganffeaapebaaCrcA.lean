/- Sums of 32 bits: the operations on a register as the model reckons them; the table. No condition. -/
import Derived.Test.YtlganffeaapebaaCrcP
import Derived.Test.YtlganffeaapebaaAt
import Derived.Outline
namespace Go.Proofs.Ytlganffeaapebaa
open Go.RowKit

/-- A register's number. -/
def uv (v : BitVec 32) : Int := (v.toNat : Int)
theorem uv_bd (v : BitVec 32) : 0 ≤ uv v ∧ uv v ≤ 4294967295 := by have := v.isLt; unfold uv; omega
theorem uv_ofInt (v : BitVec 32) : BitVec.ofInt 32 (uv v) = v := by
  unfold uv; rw [BitVec.ofInt_natCast, BitVec.ofNat_toNat]; simp
theorem of_uv (n : Int) (h0 : 0 ≤ n) (h1 : n ≤ 4294967295) : uv (BitVec.ofInt 32 n) = n := by
  unfold uv; rw [BitVec.toNat_ofInt]; omega
theorem wrap_uv (v : BitVec 32) : IntKind.u32.wrap (uv v) = uv v := by
  have := v.isLt
  rw [IntKind.wrap_u32']; unfold uv; omega
theorem uv_xor (a b : BitVec 32) : bits .xor .u32 (uv a) (uv b) = uv (a ^^^ b) := by
  show IntKind.u32.wrap ((BitVec.ofInt 32 (uv a) ^^^ BitVec.ofInt 32 (uv b)).toNat : Int) = _
  rw [uv_ofInt, uv_ofInt]; exact wrap_uv _
theorem uv_and (a b : BitVec 32) : bits .and .u32 (uv a) (uv b) = uv (a &&& b) := by
  show IntKind.u32.wrap ((BitVec.ofInt 32 (uv a) &&& BitVec.ofInt 32 (uv b)).toNat : Int) = _
  rw [uv_ofInt, uv_ofInt]; exact wrap_uv _
theorem uv_half (v : BitVec 32) : uv v / (2 : Int) = uv (v >>> 1) := by
  unfold uv; rw [BitVec.toNat_ushiftRight, Nat.shiftRight_eq_div_pow]; omega
theorem uv_16 (v : BitVec 32) : uv v / (16 : Int) = uv (v >>> 4) := by
  unfold uv; rw [BitVec.toNat_ushiftRight, Nat.shiftRight_eq_div_pow]; omega
theorem uv_neg (v : BitVec 32) : -uv v % 4294967296 = uv (-v) := by
  unfold uv; rw [BitVec.toNat_neg]; have := v.isLt; omega
theorem and_one (v : BitVec 32) : v &&& 1#32 = if v.getLsbD 0 then 1#32 else 0#32 := by
  apply BitVec.eq_of_getLsbD_eq
  intro i hi
  have h1 : ∀ i, i < 32 → (1#32 : BitVec 32).getLsbD i = decide (i = 0) := by decide
  rw [BitVec.getLsbD_and, h1 i hi]
  by_cases h : i = 0
  · subst h; cases hv : v.getLsbD 0 <;> simp
  · cases hv : v.getLsbD 0 <;> simp [h, h1 i hi]
theorem uv_st (v : BitVec 32) : bits .xor .u32 (uv v / 2) (bits .and .u32 3988292384 (-bits .and .u32 (uv v) 1 % 4294967296)) = uv (st v) := by
  have e1 : (1 : Int) = uv 1#32 := rfl
  have e2 : (3988292384 : Int) = uv poly := rfl
  rw [uv_half, e1, uv_and, uv_neg, e2, uv_and, uv_xor]
  congr 1
  unfold st
  rw [and_one]
  cases v.getLsbD 0
  · simp
  · have : poly &&& 4294967295#32 = poly := by decide
    simp [this]
theorem stn_succ (m : Nat) (v : BitVec 32) : stn (m + 1) v = st (stn m v) := by rw [stn_add]; rfl

def tblAt (i : Nat) : Int := uv (stn 4 (BitVec.ofNat 32 i))
def tbl (k : Nat) : Array Value := ((List.range 16).map fun i => Value.int .u32 (if i < k then tblAt i else 0)).toArray
theorem tbl_size (k : Nat) : (tbl k).size = 16 := by simp [tbl]
theorem tbl_zero : tbl 0 = #[.int .u32 0, .int .u32 0, .int .u32 0, .int .u32 0, .int .u32 0, .int .u32 0, .int .u32 0, .int .u32 0, .int .u32 0, .int .u32 0, .int .u32 0, .int .u32 0, .int .u32 0, .int .u32 0, .int .u32 0, .int .u32 0] := rfl
theorem tbl_get (k i : Nat) (h : i < 16) : (tbl k)[i]? = some (.int .u32 (if i < k then tblAt i else 0)) := by
  unfold tbl; simp [h]
theorem tbl_no (k i : Nat) (h : ¬ i < 16) : (tbl k)[i]? = none := by
  rw [Array.getElem?_eq_none]; rw [tbl_size]; omega
theorem tbl_set (k : Nat) : (tbl k).setIfInBounds k (.int .u32 (tblAt k)) = tbl (k + 1) := by
  apply Array.ext_getElem?
  intro i
  rw [Array.getElem?_setIfInBounds, tbl_size]
  by_cases hi : i < 16
  · rw [tbl_get _ _ hi, tbl_get _ _ hi]
    by_cases hik : k = i
    · subst hik; simp [hi]
    · rw [if_neg hik]
      by_cases h : i < k
      · rw [if_pos h, if_pos (by omega)]
      · rw [if_neg h, if_neg (by omega)]
  · rw [tbl_no _ _ hi, tbl_no _ _ hi]; split <;> simp; omega
theorem tbl_one (k : Nat) : (tbl k).all (·.oneCell') = true := by
  unfold tbl; rw [List.all_toArray, List.all_eq_true]; intro v hv
  simp only [List.mem_map] at hv
  obtain ⟨i, _, rfl⟩ := hv
  rfl

set_option maxHeartbeats 800000 in
set_option maxRecDepth 100000 in
theorem table_any (w : World) : Calls Try.prog 25 #[] w fun e w' => e = .returned (.agg (tbl 16)) ∧ Below w.heap.size w w' := by
  go_enter Try.func25, Try.ntmps25
  go_wp2_with fail
  go_loopw [4] (fun i wr => ∃ (k : Nat), i = .int .i64 k ∧ k ≤ 16 ∧ At wr w.heap.size 45 (tbl 0) ∧ At wr (w.heap.size + 1) 45 (tbl k) ∧ Below w.heap.size w wr) (fun i _ => 16 - (intOf i).toNat)
  case atStart =>
    rw [← tbl_zero]
    refine ⟨0, rfl, by omega, (At.new _ _ _).alloc _, ?_, ((Below.refl _ _).alloc (Nat.le_refl _) _).alloc (by simp) _⟩
    have := At.new (w.alloc (.cells (tbl 0) 45)) 45 (tbl 0)
    simpa using this
  case round =>
    obtain ⟨k, rfl, hk, h0, h1, hb⟩ := hrel
    by_cases hlt : k < 16
    · have c1 := h1.cell k
      have f1 := h1.free k
      rw [tbl_get k k hlt] at c1
      go_wp2_with fail
      go_loop [3, 9] (fun v j => ∃ (m : Nat), j = .int .i64 m ∧ m ≤ 4 ∧ v = .int .u32 (uv (stn m (BitVec.ofNat 32 k)))) (fun _ j => 4 - (intOf j).toNat)
      case atStart => exact ⟨0, rfl, by omega, by rw [show uv (stn 0 (BitVec.ofNat 32 k)) = (k : Int) from by unfold stn uv; rw [BitVec.toNat_ofNat]; omega]⟩
      case round =>
        obtain ⟨m, rfl, hm, rfl⟩ := hrel
        by_cases hlt2 : m < 4
        · go_wp2_with fail
          go_round
          case rel => exact ⟨m + 1, by go_num, by omega, by rw [uv_st, stn_succ]⟩
          case measure => simp [intOf]; omega
        · obtain rfl : m = 4 := by omega
          go_wp2_with fail
          go_roundw
          case rel =>
            refine ⟨k + 1, by go_num, by omega, h0.other (by simp) _, ?_, hb.setCell (by simp) _⟩
            rw [← tbl_set]; exact h1.set k _
          case measure => simp [intOf]; omega
    · obtain rfl : k = 16 := by omega
      have hr := (h0.row (tbl 16))
      go_wp2_with (first | (refine wpList_load_row rfl 45 _ rfl _ rfl _ _ _ _ h1 Try.underlying45 rfl (by kernel_rfl) ?_) | (refine wpList_store_row rfl 45 _ _ rfl _ _ rfl rfl _ _ h0 (by kernel_rfl) rfl (by kernel_rfl) ?_))
      refine bodyPost_ret (v := .agg (tbl 16)) ?_ rfl ⟨rfl, bl_row hb (Nat.le_refl _) _⟩
      exact results_cell_row rfl _ _ w.heap.size 45 (tbl 16) (0, 0) _ rfl hr Try.underlying45 rfl (by kernel_rfl)
end Go.Proofs.Ytlganffeaapebaa
