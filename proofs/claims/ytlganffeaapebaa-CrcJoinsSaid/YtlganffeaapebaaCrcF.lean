/- Sums of 32 bits, joined: what becomes of each bit of a register. No condition. -/
import Derived.Test.YtlganffeaapebaaCrcC
import Derived.Test.YtlganffeaapebaaAv
import Derived.Outline
namespace Go.Proofs.Ytlganffeaapebaa
open Go.RowKit

set_option maxHeartbeats 800000 in
set_option maxRecDepth 100000 in
theorem join1_any (V : BitVec 32) (w : World) : Calls Try.prog 58 #[.int .u32 (uv V)] w fun e w' => e = .returned (.int .u32 (uv (stn 8 V))) ∧ Below w.heap.size w w' := by
  have e8 : runB V [0] = stn 8 V := by unfold runB byte; simp
  go_enter Try.func58, Try.ntmps58
  go_wp2_with fail
  refine (crcRun_any V _ [0] _ (Rd.newF w 5 [.int .u8 0] (0, 0) (by simp)) (by simp) (by simp)).mono ?_
  rintro e w1 ⟨rfl, hb1⟩
  rw [e8]
  go_wp2
  go_ret
  exact ⟨rfl, ((Below.refl _ _).alloc (Nat.le_refl _) _).trans (hb1.mono (by simp))⟩

def bitv (k : Nat) : BitVec 32 := 1#32 <<< k
theorem uv_bit (k : Nat) : (2 : Int) ^ k % 4294967296 = uv (bitv k) := by
  unfold uv bitv
  rw [BitVec.toNat_shiftLeft, Nat.shiftLeft_eq]
  have : ((2 ^ k : Nat) : Int) = (2 : Int) ^ k := by simp
  rw [← this]
  simp
/-- The matrix of a step. -/
def mat (f : BitVec 32 → BitVec 32) (k : Nat) : Array Value := ((List.range 32).map fun i => Value.int .u32 (if i < k then uv (f (bitv i)) else 0)).toArray
theorem mat_size (f : BitVec 32 → BitVec 32) (k : Nat) : (mat f k).size = 32 := by simp [mat]
theorem mat_get (f : BitVec 32 → BitVec 32) (k i : Nat) (h : i < 32) : (mat f k)[i]? = some (.int .u32 (if i < k then uv (f (bitv i)) else 0)) := by
  unfold mat; simp [h]
theorem mat_no (f : BitVec 32 → BitVec 32) (k i : Nat) (h : ¬ i < 32) : (mat f k)[i]? = none := by
  rw [Array.getElem?_eq_none]; rw [mat_size]; omega
theorem mat_set (f : BitVec 32 → BitVec 32) (k : Nat) : (mat f k).setIfInBounds k (.int .u32 (uv (f (bitv k)))) = mat f (k + 1) := by
  apply Array.ext_getElem?
  intro i
  rw [Array.getElem?_setIfInBounds, mat_size]
  by_cases hi : i < 32
  · rw [mat_get _ _ _ hi, mat_get _ _ _ hi]
    by_cases hik : k = i
    · subst hik; simp [hi]
    · rw [if_neg hik]
      by_cases h : i < k
      · rw [if_pos h, if_pos (by omega)]
      · rw [if_neg h, if_neg (by omega)]
  · rw [mat_no _ _ _ hi, mat_no _ _ _ hi]; split <;> simp; omega
theorem mat_zero (f : BitVec 32 → BitVec 32) : mat f 0 = Array.replicate 32 (Value.int .u32 0) := by
  apply Array.ext_getElem?
  intro i
  by_cases hi : i < 32
  · rw [mat_get _ _ _ hi]; simp [hi]
  · rw [mat_no _ _ _ hi]; simp [hi]

theorem join1_bit (k : Nat) (w : World) : Calls Try.prog 58 #[.int .u32 ((2 : Int) ^ k % 4294967296)] w fun e w' => e = .returned (.int .u32 (uv (stn 8 (bitv k)))) ∧ Below w.heap.size w w' := by
  rw [uv_bit]; exact join1_any _ _

set_option maxHeartbeats 800000 in
set_option maxRecDepth 100000 in
theorem made1_any (w : World) : Calls Try.prog 57 #[.func (.func 58) #[] #[]] w fun e w' =>
    ∃ u, e = .returned u ∧ (∃ g, u = .pointer (some ⟨g, 0, none⟩) ∧ w.heap.size ≤ g ∧ At w' g 96 (mat (stn 8) 32)) ∧ Below w.heap.size w w' := by
  go_enter Try.func57, Try.ntmps57
  go_wp2_with fail
  go_loopw [7] (fun i wr => ∃ (k : Nat), i = .int .i64 k ∧ k ≤ 32 ∧ At wr w.heap.size 96 (mat (stn 8) k) ∧ Below w.heap.size w wr) (fun i _ => 32 - (intOf i).toNat)
  case atStart =>
    refine ⟨0, rfl, by omega, ?_, (Below.refl _ _).alloc (Nat.le_refl _) _⟩
    rw [mat_zero]; exact At.new _ _ _
  case round =>
    obtain ⟨k, rfl, hk, h0, hb⟩ := hrel
    by_cases hlt : k < 32
    · have hltB : decide ((k : Int) < 32) = true := by rw [decide_eq_true_eq]; omega
      have hk0 : (0 : Int) ≤ (k : Int) := by omega
      have hk32 : (k : Int) < 32 := by omega
      go_wp2_with fail
      refine wp_region_tailA 8 (fun i => List.lookup i [(5, .int .u32 (uv (stn 8 (bitv k))))]) (AV [(5, .int .u32 (uv (stn 8 (bitv k))))] []) (by kernel_rfl) (by kernel_rfl) (by kernel_rfl) (AV_pers _ _ (by intro p hp; cases hp)) (AV_V _ _) ?_
      intro vs hvs
      simp only [List.take_succ_cons, List.take_zero, List.drop_succ_cons, List.drop_zero]
      (refine wpF_ex ?_; apply Exists.intro; apply Exists.intro; refine ⟨fun wx hwx K Qp hK => ?_, ?_, rfl, rfl, ?_⟩; (clear hwx; go_wp2_with fail; exact hK); rfl)
      (refine wpF_ex ?_; apply Exists.intro; apply Exists.intro; refine ⟨fun wx hwx K Qp hK => ?_, ?_, rfl, rfl, ?_⟩; (clear hwx; go_wp2_with fail; exact hK); rfl)
      (refine wpF_ex ?_; apply Exists.intro; apply Exists.intro; refine ⟨fun wx hwx K Qp hK => ?_, ?_, rfl, rfl, ?_⟩; (clear hwx; go_wp2_with fail; exact hK); rfl)
      (refine wpF_ex ?_; apply Exists.intro; apply Exists.intro; refine ⟨fun wx hwx K Qp hK => ?_, ?_, rfl, rfl, ?_⟩; (clear hwx; go_wp2_with fail; exact hK); rfl)
      (refine wpF_ex ?_; apply Exists.intro; apply Exists.intro; refine ⟨fun wx hwx K Qp hK => ?_, ?_, rfl, rfl, ?_⟩; (clear hwx; go_wp2_with fail; exact hK); rfl)
      (refine wpF_valA (.int .u32 (uv (stn 8 (bitv k)))) rfl (hvs 5 _ rfl) ?_; apply Exists.intro; refine ⟨fun wx hwx K Qp hK => ?_, ?_, rfl, ?_⟩; (clear hwx; go_wp2_with fail; refine (join1_bit _ _).mono ?_; rintro e w' ⟨rfl, hb⟩; exact hK _ hb); rfl)
      (refine wpF_ex ?_; apply Exists.intro; apply Exists.intro; refine ⟨fun wx hwx K Qp hK => ?_, ?_, rfl, rfl, ?_⟩; (clear hwx; go_wp2_with fail; exact hK); rfl)
      (refine wpF_ex ?_; apply Exists.intro; apply Exists.intro; refine ⟨fun wx hwx K Qp hK => ?_, ?_, rfl, rfl, ?_⟩; (clear hwx; go_wp2_with fail; exact hK); rfl)
      refine wpF_nil ?_
      intro w9 hb9 hp9
      have h9 := h0.below hb9 h0.lt
      have c9 := h9.cell k
      have f9 := h9.free k
      rw [mat_get _ _ _ hlt] at c9
      go_wp2
      go_roundw
      case rel =>
        refine ⟨k + 1, by go_num, by omega, ?_, (hb.trans (hb9.mono hb.size)).setCell (by simp) _⟩
        rw [← mat_set]; exact h9.set k _
      case measure => simp [intOf]; omega
    · obtain rfl : k = 32 := by omega
      go_wp2
      go_ret
      exact ⟨_, rfl, ⟨_, rfl, Nat.le_refl _, h0⟩, hb⟩
end Go.Proofs.Ytlganffeaapebaa
