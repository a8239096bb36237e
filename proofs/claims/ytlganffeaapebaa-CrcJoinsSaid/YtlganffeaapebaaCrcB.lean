/- Sums of 32 bits: registers behind bytes, of the program and of the document. No condition. -/
import Derived.Test.YtlganffeaapebaaCrcA
namespace Go.Proofs.Ytlganffeaapebaa
open Go.RowKit

theorem and15 (v : BitVec 32) : bits .and .u32 (uv v) 15 = ((v &&& 15#32).toNat : Int) ∧ (v &&& 15#32).toNat < 16 := by
  refine ⟨uv_and v 15#32, ?_⟩
  rw [BitVec.toNat_and]
  exact Nat.lt_of_le_of_lt Nat.and_le_right (by decide)
/-- Half a byte by the table's number. -/
theorem half_uv (v : BitVec 32) : bits .xor .u32 (uv (v >>> 4)) (tblAt (v &&& 15#32).toNat) = uv (stn 4 v) := by
  unfold tblAt; rw [uv_xor, half_step v]; simp
theorem xor_in (v : BitVec 32) (c : Int) (h0 : 0 ≤ c) (h1 : c ≤ 255) : bits .xor .u32 (uv v) c = uv (v ^^^ BitVec.ofInt 32 c) := by
  conv => lhs; rw [← of_uv c h0 (by omega)]
  rw [uv_xor]
theorem runB_take (V : BitVec 32) (l : List Int) (k : Nat) (hk : k < l.length) : runB V (l.take (k + 1)) = byte (runB V (l.take k)) l[k] := by
  unfold runB; rw [List.take_succ_eq_append_getElem hk, List.foldl_append]; rfl

set_option maxHeartbeats 800000 in
set_option maxRecDepth 100000 in
theorem crcRun_any (V : BitVec 32) (v : Value) (l : List Int) (w : World) (hv : Rd w v (l.map (Value.int .u8))) (hl : l.length ≤ 1099511627776) (hx : ∀ x ∈ l, 0 ≤ x ∧ x ≤ 255) :
    Calls Try.prog 54 #[.int .u32 (uv V), v] w fun e w' => e = .returned (.int .u32 (uv (runB V l))) ∧ Below w.heap.size w w' := by
  obtain ⟨ao, ca, rfl, _, ha⟩ := hv
  simp only [List.length_map]
  have HX := Lib.hid hx; clear hx
  go_enter Try.func54, Try.ntmps54
  go_wp2_with fail
  refine (table_any _).mono ?_
  rintro e w1 ⟨rfl, hb1⟩
  have s1 := tbl_size 16
  go_wp2_with (refine wpList_storeNew _ (tbl 16) 45 rfl _ _ rfl rfl rfl (by kernel_rfl) rfl (by kernel_rfl) ?_)
  obtain ⟨w2, hw2⟩ : ∃ w2, w2 = w1.alloc (.cells (tbl 16) 45) := ⟨_, rfl⟩
  have ht := At.new w1 45 (tbl 16)
  have hb2 : Below w.heap.size w w2 := by rw [hw2]; exact hb1.alloc hb1.size _
  rw [← hw2] at ht ⊢
  clear hw2 hb1
  go_loop [0, 11] (fun r i => ∃ (k : Nat), i = .int .i64 k ∧ k ≤ l.length ∧ r = .int .u32 (uv (runB V (l.take k)))) (fun _ i => l.length - (intOf i).toNat)
  case atStart => exact ⟨0, rfl, by omega, by simp [runB]⟩
  case round =>
    obtain ⟨k, rfl, hk, rfl⟩ := hrel
    by_cases hlt : k < l.length
    · obtain ⟨b, o, rfl, hc⟩ := ha (by intro h; simp at h; subst h; simp at hlt)
      have hcell := bl_get hb2 (hc k (by simpa using hlt))
      simp only [List.getElem_map] at hcell
      obtain ⟨c0, c1⟩ := HX.out l[k] (List.getElem_mem hlt)
      have hrun := runB_take V l k hlt
      obtain ⟨c, hc'⟩ : ∃ c, c = l[k] := ⟨_, rfl⟩
      rw [← hc'] at hcell c0 c1 hrun
      obtain ⟨X, hX⟩ : ∃ X, X = runB V (l.take k) := ⟨_, rfl⟩
      rw [← hX] at hrun ⊢
      have HR := Lib.hid hrun
      clear hX hrun hc' hc ha
      have e1 := xor_in X c c0 c1
      obtain ⟨Y, hY⟩ : ∃ Y, Y = X ^^^ BitVec.ofInt 32 c := ⟨_, rfl⟩
      rw [← hY] at e1
      obtain ⟨e2, n1⟩ := and15 Y
      have e3 := uv_16 Y
      have e4 := half_uv Y
      obtain ⟨i1, hi1⟩ : ∃ i, i = (Y &&& 15#32).toNat := ⟨_, rfl⟩
      rw [← hi1] at e2 n1 e4
      obtain ⟨Z, hZ⟩ : ∃ Z, Z = stn 4 Y := ⟨_, rfl⟩
      rw [← hZ] at e4
      obtain ⟨f2, n2⟩ := and15 Z
      have f3 := uv_16 Z
      have f4 := half_uv Z
      obtain ⟨i2, hi2⟩ : ∃ i, i = (Z &&& 15#32).toNat := ⟨_, rfl⟩
      rw [← hi2] at f2 n2 f4
      have d1 := ht.cell i1
      have d2 := ht.cell i2
      rw [tbl_get _ _ n1, if_pos n1] at d1
      rw [tbl_get _ _ n2, if_pos n2] at d2
      have HE : Hid (stn 4 Z = byte X c) := by rw [hZ, hY]; exact (stn_add 4 4 _).symm
      clear hY hZ hi1 hi2
      go_wp2_with fail
      go_round
      case rel => exact ⟨k + 1, by go_num, by omega, by rw [HR.out, ← HE.out]⟩
      case measure => simp [intOf]; omega
    · have hkk : l.take k = l := List.take_of_length_le (by omega)
      rw [hkk]
      go_wp2
      go_ret
      exact ⟨rfl, hb2⟩

set_option maxHeartbeats 800000 in
set_option maxRecDepth 100000 in
theorem refStep_any (V : BitVec 32) (w : World) : Calls Try.prog 56 #[.int .u32 (uv V)] w fun e w' => e = .returned (.int .u32 (uv (st V))) ∧ w = w' := by
  have hb := uv_bd V
  have h2 : uv V % 2 = if V.getLsbD 0 then 1 else 0 := by
    unfold uv
    have : V.getLsbD 0 = decide (V.toNat % 2 = 1) := by simp [BitVec.getLsbD, Nat.testBit_zero]
    rw [this]
    by_cases h : V.toNat % 2 = 1
    · simp [h]; omega
    · simp [h]; omega
  cases hv : V.getLsbD 0 with
  | true =>
    have e1 : ((uv V % 2) == 1) = true := by rw [h2, hv]; rfl
    have e3 := uv_half V
    have e2 : bits .xor .u32 (uv (V >>> 1)) 3988292384 = uv (st V) := by
      rw [show (3988292384 : Int) = uv poly from rfl, uv_xor]; unfold st; rw [hv]; rfl
    clear h2 hv
    go_enter Try.func56, Try.ntmps56
    go_wp2
    go_ret
    exact ⟨rfl, rfl⟩
  | false =>
    have e1 : ((uv V % 2) == 1) = false := by rw [h2, hv]; rfl
    have e3 : uv V / (2 : Int) = uv (st V) := by rw [uv_half]; unfold st; rw [hv]; simp
    clear h2 hv
    go_enter Try.func56, Try.ntmps56
    go_wp2
    go_ret
    exact ⟨congrArg (fun n => Ending.returned (.int .u32 n)) e3, rfl⟩

set_option maxHeartbeats 800000 in
set_option maxRecDepth 100000 in
theorem refRun_any (V : BitVec 32) (v : Value) (l : List Int) (w : World) (hv : Rd w v (l.map (Value.int .u8))) (hl : l.length ≤ 1099511627776) (hx : ∀ x ∈ l, 0 ≤ x ∧ x ≤ 255) :
    Calls Try.prog 55 #[.int .u32 (uv V), v] w fun e w' => e = .returned (.int .u32 (uv (runB V l))) ∧ w = w' := by
  obtain ⟨ao, ca, rfl, _, ha⟩ := hv
  simp only [List.length_map]
  have HX := Lib.hid hx; clear hx
  go_enter Try.func55, Try.ntmps55
  go_wp2_with fail
  go_loop [0, 5, 6] (fun r i _ => ∃ (k : Nat), i = .int .i64 k ∧ k ≤ l.length ∧ r = .int .u32 (uv (runB V (l.take k)))) (fun _ i _ => l.length - (intOf i).toNat)
  case atStart => exact ⟨0, rfl, by omega, by simp [runB]⟩
  case round =>
    obtain ⟨k, rfl, hk, rfl⟩ := hrel
    by_cases hlt : k < l.length
    · obtain ⟨b, o, rfl, hc⟩ := ha (by intro h; simp at h; subst h; simp at hlt)
      have hcell := hc k (by simpa using hlt)
      simp only [List.getElem_map] at hcell
      obtain ⟨c0, c1⟩ := HX.out l[k] (List.getElem_mem hlt)
      have hrun := runB_take V l k hlt
      obtain ⟨c, hc'⟩ : ∃ c, c = l[k] := ⟨_, rfl⟩
      rw [← hc'] at hcell c0 c1 hrun
      obtain ⟨X, hX⟩ : ∃ X, X = runB V (l.take k) := ⟨_, rfl⟩
      rw [← hX] at hrun ⊢
      have HR := Lib.hid hrun
      clear hX hrun hc' hc ha
      have e1 := xor_in X c c0 c1
      go_wp2_with fail
      go_loop [0, 6] (fun r j => ∃ (m : Nat), j = .int .i64 m ∧ m ≤ 8 ∧ r = .int .u32 (uv (stn m (X ^^^ BitVec.ofInt 32 c)))) (fun _ j => 8 - (intOf j).toNat)
      case atStart => exact ⟨0, rfl, by omega, rfl⟩
      case round =>
        obtain ⟨m, rfl, hm, rfl⟩ := hrel
        by_cases hlt2 : m < 8
        · go_wp2_with fail
          refine (refStep_any _ _).mono ?_
          rintro e w' ⟨rfl, rfl⟩
          go_wp2_with fail
          go_round
          case rel => exact ⟨m + 1, by go_num, by omega, by rw [stn_succ]⟩
          case measure => simp [intOf]; omega
        · obtain rfl : m = 8 := by omega
          go_wp2_with fail
          go_round
          case rel => exact ⟨k + 1, by go_num, by omega, by rw [HR.out]; rfl⟩
          case measure => simp [intOf]; omega
    · have hkk : l.take k = l := List.take_of_length_le (by omega)
      rw [hkk]
      go_wp2
      go_ret
      exact ⟨rfl, rfl⟩
end Go.Proofs.Ytlganffeaapebaa
