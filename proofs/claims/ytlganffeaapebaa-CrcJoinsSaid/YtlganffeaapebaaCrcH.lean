/- CrcJoins: sums are joined. No condition. -/
import Derived.Test.YtlganffeaapebaaCrcG
namespace Go.Proofs.Ytlganffeaapebaa
open Go.RowKit

theorem join2_bit (f : BitVec 32 → BitVec 32) (hf : Lin f) (b g : Nat) (k : Nat) (w : World) (hc : w.cell? ⟨b, 0, none⟩ = some (.pointer (some ⟨g, 0, none⟩))) (hm : At w g 96 (mat f 32)) :
    Calls Try.prog 60 #[.int .u32 ((2 : Int) ^ k % 4294967296), .pointer (some ⟨b, 0, none⟩)] w fun e w' => e = .returned (.int .u32 (uv (f (f (bitv k))))) ∧ Below w.heap.size w w' := by
  rw [uv_bit]; exact join2_any f hf b g _ w hc hm

set_option maxHeartbeats 800000 in
set_option maxRecDepth 100000 in
theorem made2_any (f : BitVec 32 → BitVec 32) (hf : Lin f) (b g : Nat) (w : World) (hc : w.cell? ⟨b, 0, none⟩ = some (.pointer (some ⟨g, 0, none⟩))) (hm : At w g 96 (mat f 32)) :
    Calls Try.prog 57 #[.func (.func 60) #[] #[.pointer (some ⟨b, 0, none⟩)]] w fun e w' =>
    ∃ u, e = .returned u ∧ (∃ g, u = .pointer (some ⟨g, 0, none⟩) ∧ w.heap.size ≤ g ∧ At w' g 96 (mat (fun v => f (f v)) 32)) ∧ Below w.heap.size w w' := by
  have HF := Lib.hid hf; clear hf
  go_enter Try.func57, Try.ntmps57
  go_wp2_with fail
  go_loopw [7] (fun i wr => ∃ (k : Nat), i = .int .i64 k ∧ k ≤ 32 ∧ At wr w.heap.size 96 (mat (fun v => f (f v)) k) ∧ Below w.heap.size w wr) (fun i _ => 32 - (intOf i).toNat)
  case atStart =>
    refine ⟨0, rfl, by omega, ?_, (Below.refl _ _).alloc (Nat.le_refl _) _⟩
    rw [mat_zero]; exact At.new _ _ _
  case round =>
    obtain ⟨k, rfl, hk, h0, hb⟩ := hrel
    by_cases hlt : k < 32
    · have hltB : decide ((k : Int) < 32) = true := by rw [decide_eq_true_eq]; omega
      have hk0 : (0 : Int) ≤ (k : Int) := by omega
      have hk32 : (k : Int) < 32 := by omega
      have hcr := bl_get hb hc
      have hmr := hm.below hb hm.lt
      go_wp2_with fail
      refine wp_region_tailA 8 (fun i => List.lookup i [(5, .int .u32 (uv (f (f (bitv k)))))]) (AV [(5, .int .u32 (uv (f (f (bitv k)))))] []) (by kernel_rfl) (by kernel_rfl) (by kernel_rfl) (AV_pers _ _ (by intro p hp; cases hp)) (AV_V _ _) ?_
      intro vs hvs
      simp only [List.take_succ_cons, List.take_zero, List.drop_succ_cons, List.drop_zero]
      (refine wpF_ex ?_; apply Exists.intro; apply Exists.intro; refine ⟨fun wx hwx K Qp hK => ?_, ?_, rfl, rfl, ?_⟩; (clear hwx; go_wp2_with fail; exact hK); rfl)
      (refine wpF_ex ?_; apply Exists.intro; apply Exists.intro; refine ⟨fun wx hwx K Qp hK => ?_, ?_, rfl, rfl, ?_⟩; (clear hwx; go_wp2_with fail; exact hK); rfl)
      (refine wpF_ex ?_; apply Exists.intro; apply Exists.intro; refine ⟨fun wx hwx K Qp hK => ?_, ?_, rfl, rfl, ?_⟩; (clear hwx; go_wp2_with fail; exact hK); rfl)
      (refine wpF_ex ?_; apply Exists.intro; apply Exists.intro; refine ⟨fun wx hwx K Qp hK => ?_, ?_, rfl, rfl, ?_⟩; (clear hwx; go_wp2_with fail; exact hK); rfl)
      (refine wpF_ex ?_; apply Exists.intro; apply Exists.intro; refine ⟨fun wx hwx K Qp hK => ?_, ?_, rfl, rfl, ?_⟩; (clear hwx; go_wp2_with fail; exact hK); rfl)
      (refine wpF_valA (.int .u32 (uv (f (f (bitv k))))) rfl (hvs 5 _ rfl) ?_; apply Exists.intro; refine ⟨fun wx hwx K Qp hK => ?_, ?_, rfl, ?_⟩; (have hx1 := hwx.1; clear hwx; go_wp2_with fail; refine (join2_bit f HF.out b g k _ (bl_get hx1 hcr) (hmr.below hx1 hmr.lt)).mono ?_; rintro e w' ⟨rfl, hb⟩; exact hK _ hb); rfl)
      (refine wpF_ex ?_; apply Exists.intro; apply Exists.intro; refine ⟨fun wx hwx K Qp hK => ?_, ?_, rfl, rfl, ?_⟩; (clear hwx; go_wp2_with fail; exact hK); rfl)
      (refine wpF_ex ?_; apply Exists.intro; apply Exists.intro; refine ⟨fun wx hwx K Qp hK => ?_, ?_, rfl, rfl, ?_⟩; (clear hwx; go_wp2_with fail; exact hK); rfl)
      refine wpF_nil ?_
      intro w9 hb9 hp9
      have h9 := h0.below hb9 h0.lt
      have c9 := h9.cell k
      have f9 := h9.free k
      rw [mat_get _ _ _ hlt] at c9
      go_wp2
      go_roundw
      case rel =>
        refine ⟨k + 1, by go_num, by omega, ?_, (hb.trans (hb9.mono hb.size)).setCell (by simp) _⟩
        rw [← mat_set]; exact h9.set k _
      case measure => simp [intOf]; omega
    · obtain rfl : k = 32 := by omega
      go_wp2
      go_ret
      exact ⟨_, rfl, ⟨_, rfl, Nat.le_refl _, h0⟩, hb⟩

theorem stn_twice (j : Nat) : (fun v => stn (8 * 2 ^ j) (stn (8 * 2 ^ j) v)) = stn (8 * 2 ^ (j + 1)) := by
  funext v
  rw [← stn_add]; congr 1; rw [Nat.pow_succ]; omega
theorem pow_half (N j : Nat) : N / 2 ^ (j + 1) = N / 2 ^ j / 2 := by rw [Nat.pow_succ, Nat.div_div_eq_div_mul]
theorem pow_mod (N j : Nat) : N % 2 ^ (j + 1) = N % 2 ^ j + 2 ^ j * (N / 2 ^ j % 2) := by rw [Nat.pow_succ, Nat.mod_mul]

set_option maxHeartbeats 1600000 in
set_option maxRecDepth 100000 in
theorem crcJoin_any (A B : BitVec 32) (N : Nat) (w : World) (hN : N < 2 ^ 63) :
    Calls Try.prog 30 #[.int .u32 (uv A), .int .u32 (uv B), .int .u64 (N : Int)] w fun e w' => e = .returned (.int .u32 (uv (stn (8 * N) A ^^^ B))) ∧ Below w.heap.size w w' := by
  go_enter Try.func30, Try.ntmps30
  go_wp2_with fail
  refine (made1_any _).mono ?_
  rintro e w1 ⟨u, rfl, ⟨g, rfl, hg, hm⟩, hb1⟩
  go_wp2_with fail
  obtain ⟨w2, hw2⟩ : ∃ w2, w2 = w1.alloc (.cells #[.pointer (some ⟨g, 0, none⟩)] 81) := ⟨_, rfl⟩
  have hv := At.new w1 81 #[.pointer (some ⟨g, 0, none⟩)]
  have hb2 : Below w.heap.size w w2 := by rw [hw2]; exact hb1.alloc hb1.size _
  have hm2 : At w2 g 96 (mat (stn 8) 32) := by rw [hw2]; exact hm.alloc _
  have hne : w1.heap.size ≠ g := by have := hm.lt; omega
  have hsz : w.heap.size ≤ w1.heap.size := hb1.size
  rw [← hw2] at hv ⊢
  clear hw2 hb1 hm
  go_loopw [0, 2] (fun a n wr => ∃ (j g : Nat), n = .int .u64 ((N / 2 ^ j : Nat) : Int) ∧ a = .int .u32 (uv (stn (8 * (N % 2 ^ j)) A)) ∧ At wr w1.heap.size 81 #[.pointer (some ⟨g, 0, none⟩)] ∧ At wr g 96 (mat (stn (8 * 2 ^ j)) 32) ∧ w1.heap.size ≠ g ∧ Below w.heap.size w wr) (fun _ n _ => (intOf n).toNat)
  case atStart => exact ⟨0, g, by simp, by simp [Nat.mod_one, stn], hv, hm2, hne, hb2⟩
  case round =>
    obtain ⟨j, g, rfl, rfl, hv, hm, hne, hb⟩ := hrel
    clear hm2 hb2
    have hh := pow_half N j
    have hmo := pow_mod N j
    have hlt : N / 2 ^ j < 2 ^ 63 := Nat.lt_of_le_of_lt (Nat.div_le_self _ _) hN
    obtain ⟨n, hn⟩ : ∃ n, n = N / 2 ^ j := ⟨_, rfl⟩
    rw [← hn] at hh hmo hlt ⊢
    have c0 := hv.cell 0
    simp only [List.getElem?_toArray, List.getElem?_cons_zero] at c0
    have f0 := hv.free 0
    by_cases hz : n = 0
    · subst hz
      have HN : Hid (N % 2 ^ j = N) := by
        refine Lib.hid ?_
        rcases Nat.lt_or_ge N (2 ^ j) with h | h
        · exact Nat.mod_eq_of_lt h
        · exact absurd hn.symm (by have := Nat.div_pos h (Nat.two_pow_pos j); omega)
      have hx := uv_xor (stn (8 * (N % 2 ^ j)) A) B
      clear hh hmo hn
      go_wp2
      go_ret
      exact ⟨by rw [HN.out]; rfl, hb⟩
    · have hn1 : 1 ≤ n := by omega
      have ha : bits .and .u64 (n : Int) 1 = ((n % 2 : Nat) : Int) := by
        have := u64_and_nat n 1 (by omega) (by omega)
        rw [Nat.and_one_is_mod] at this; exact this
      have hlin := Lib.hid (lin_stn (8 * 2 ^ j))
      have HH := Lib.hid hh; have HM := Lib.hid hmo; have HNN := Lib.hid hn; have HZ := Lib.hid hz
      have HC := Lib.hid hv; have HMM := Lib.hid hm
      clear hh hmo hn hz
      by_cases hodd : n % 2 = 1
      · have e1 : (bits .and .u64 (n : Int) 1 == 1) = true := by rw [ha, hodd]; rfl
        have HO := Lib.hid hodd
        clear ha hodd
        go_wp2_with fail
        refine (times_any _ hlin.out g _ _ HMM.out).mono ?_
        rintro e w3 ⟨rfl, rfl⟩
        go_wp2_with fail
        refine (made2_any _ hlin.out _ g _ c0 HMM.out).mono ?_
        rintro e w3 ⟨u, rfl, ⟨g2, rfl, hg2, hm2⟩, hb3⟩
        rw [stn_twice] at hm2
        have hv3 := HC.out.below hb3 HC.out.lt
        have c0 := hv3.cell 0
        have f0 := hv3.free 0
        simp only [List.getElem?_toArray, List.getElem?_cons_zero] at c0
        have hlt3 := HC.out.lt
        go_wp2
        go_roundw
        case rel =>
          refine ⟨j + 1, g2, by rw [HH.out]; go_num, ?_, hv3.set 0 _, hm2.other (by simp; omega) _, by omega, (bl_step hb hb3).setCell hsz _⟩
          rw [← stn_add, HM.out, HO.out]; congr 4; omega
        case measure => simp [intOf]; omega
      · have e1 : (bits .and .u64 (n : Int) 1 == 1) = false := by rw [ha, show n % 2 = 0 by omega]; rfl
        have HO : Hid (n % 2 = 0) := Lib.hid (by omega)
        clear ha hodd
        go_wp2_with fail
        refine (made2_any _ hlin.out _ g _ c0 HMM.out).mono ?_
        rintro e w3 ⟨u, rfl, ⟨g2, rfl, hg2, hm2⟩, hb3⟩
        rw [stn_twice] at hm2
        have hv3 := HC.out.below hb3 HC.out.lt
        have c0 := hv3.cell 0
        have f0 := hv3.free 0
        simp only [List.getElem?_toArray, List.getElem?_cons_zero] at c0
        have hlt3 := HC.out.lt
        go_wp2
        go_roundw
        case rel =>
          refine ⟨j + 1, g2, by rw [HH.out]; go_num, ?_, hv3.set 0 _, hm2.other (by simp; omega) _, by omega, (bl_step hb hb3).setCell hsz _⟩
          rw [HM.out, HO.out]; simp
        case measure => simp [intOf]; omega
end Go.Proofs.Ytlganffeaapebaa
