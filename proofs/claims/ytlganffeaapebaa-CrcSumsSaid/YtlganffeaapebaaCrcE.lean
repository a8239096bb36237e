/- CrcSums: the sums are those of the document. No condition. -/
import Derived.Test.YtlganffeaapebaaCrcC
import Derived.Test.YtlganffeaapebaaFresh
namespace Go.Proofs.Ytlganffeaapebaa
open Go.RowKit

set_option maxHeartbeats 800000 in
set_option maxRecDepth 100000 in
theorem refTable_any (x : Int) (w : World) (x0 : 0 ≤ x) (hn : x < 16) : Calls Try.prog 29 #[.int .i64 x] w fun e w' => e = .returned (.int .u32 (tblAt x.toNat)) ∧ w = w' := by
  obtain ⟨n, rfl⟩ := Int.eq_ofNat_of_zero_le x0
  rw [Int.toNat_natCast]
  have e0 : (n : Int) = uv (BitVec.ofNat 32 n) := by unfold uv; rw [BitVec.toNat_ofNat]; omega
  have H1 := Lib.hid (refStep_any (BitVec.ofNat 32 n) w)
  rw [← e0] at H1
  have H0 := Lib.hid e0; clear e0
  go_enter Try.func29, Try.ntmps29
  go_wp2_with fail
  refine H1.out.mono ?_
  rintro e w' ⟨rfl, rfl⟩
  go_wp2_with fail
  refine (refStep_any _ _).mono ?_
  rintro e w' ⟨rfl, rfl⟩
  go_wp2_with fail
  refine (refStep_any _ _).mono ?_
  rintro e w' ⟨rfl, rfl⟩
  go_wp2_with fail
  refine (refStep_any _ _).mono ?_
  rintro e w' ⟨rfl, rfl⟩
  go_wp2
  go_ret
  exact ⟨rfl, rfl⟩

set_option maxHeartbeats 1600000 in
set_option maxRecDepth 100000 in
theorem crcSums_walk (v : Value) (l : List Int) (s i : Int) (w : World) (hv : Rd w v (l.map (Value.int .u8))) (hx : ∀ x ∈ l, 0 ≤ x ∧ x ≤ 255) (s0 : 0 ≤ s) (s1 : s ≤ 4294967295) (i0 : 0 ≤ i) (i1 : i ≤ 255) :
    Calls Try.prog 7 #[v, .int .u32 s, .int .u8 i] w fun e w' => e = .returned (.bool true) ∧ Below w.heap.size w w' := by
  have hv0 := hv
  obtain ⟨ao, ca, rfl, hcap, ha⟩ := hv0
  simp only [List.length_map] at hv hcap ⊢
  have HX := Lib.hid hx; clear hx ha hcap
  by_cases h2000 : l.length ≤ 2000
  · obtain ⟨S, rfl⟩ : ∃ S : BitVec 32, s = uv S := ⟨_, (of_uv s s0 s1).symm⟩
    have hn16 : (i % 16).toNat < 16 := by omega
    have hn16' : i % 16 < 16 := by omega
    have hn0 : 0 ≤ i % 16 := by omega
    go_enter Try.func7, Try.ntmps7
    go_wp2_with fail
    refine (table_any _).mono ?_
    rintro e w1 ⟨rfl, hb1⟩
    have st := tbl_size 16
    go_wp2_with (refine wpList_storeNew _ (tbl 16) 45 rfl _ _ rfl rfl rfl (by kernel_rfl) rfl (by kernel_rfl) ?_)
    obtain ⟨w2, hw2⟩ : ∃ w2, w2 = w1.alloc (.cells (tbl 16) 45) := ⟨_, rfl⟩
    have ht := At.new w1 45 (tbl 16)
    have hb2 : Below w.heap.size w w2 := by rw [hw2]; exact hb1.alloc hb1.size _
    rw [← hw2] at ht ⊢
    have hcell := ht.cell (i % 16).toNat
    rw [tbl_get _ _ hn16, if_pos hn16] at hcell
    have hv2 := hv.below hb2 (Nat.le_refl _)
    clear hw2 hb1 ht
    refine wp_region_known (fun | 1 => some (.int .u32 (uv (sumOf l))) | 3 => some (.int .u32 (uv (sumOf l))) | 8 => some (.int .u32 (uv (moreOf S l))) | 11 => some (.int .u32 (uv (moreOf S l))) | 22 => some (.int .u32 (tblAt (i % 16).toNat)) | 26 => some (.bool true) | _ => none) (by kernel_rfl) (by kernel_rfl) ?_
    intro vs hvs
    (refine wpF_ex ?_; apply Exists.intro; apply Exists.intro; refine ⟨fun wx hwx K Qp hK => ?_, ?_, rfl, rfl, ?_⟩; (clear hwx; go_wp2_with fail; exact hK); rfl)
    (refine wpF_valx (.int .u32 (uv (sumOf l))) rfl hvs ?_; apply Exists.intro; refine ⟨fun wx hwx K Qp hK => ?_, ?_, rfl, ?_⟩; (skip; go_wp2_with fail; refine (crcOf_any _ l _ (hv2.below hwx.1 (Nat.le_refl _)) (by omega) HX.out).mono ?_; rintro e w' ⟨rfl, hb⟩; exact hK _ hb); rfl)
    (refine wpF_ex ?_; apply Exists.intro; apply Exists.intro; refine ⟨fun wx hwx K Qp hK => ?_, ?_, rfl, rfl, ?_⟩; (clear hwx; go_wp2_with fail; exact hK); rfl)
    (refine wpF_valx (.int .u32 (uv (sumOf l))) rfl hvs ?_; apply Exists.intro; refine ⟨fun wx hwx K Qp hK => ?_, ?_, rfl, ?_⟩; (skip; go_wp2_with fail; refine (refOf_any _ l _ (hv2.below hwx.1 (Nat.le_refl _)) (by omega) HX.out).mono ?_; rintro e w' ⟨rfl, rfl⟩; exact hK _ (Below.refl _ _)); rfl)
    (refine wpF_ex ?_; apply Exists.intro; apply Exists.intro; refine ⟨fun wx hwx K Qp hK => ?_, ?_, rfl, rfl, ?_⟩; (clear hwx; go_wp2_with fail; exact hK); rfl)
    (refine wpF_ex ?_; apply Exists.intro; apply Exists.intro; refine ⟨fun wx hwx K Qp hK => ?_, ?_, rfl, rfl, ?_⟩; (clear hwx; go_wp2_with fail; exact hK); rfl)
    (refine wpF_ex ?_; apply Exists.intro; apply Exists.intro; refine ⟨fun wx hwx K Qp hK => ?_, ?_, rfl, rfl, ?_⟩; (clear hwx; go_wp2_with fail; exact hK); rfl)
    (refine wpF_ex ?_; apply Exists.intro; apply Exists.intro; refine ⟨fun wx hwx K Qp hK => ?_, ?_, rfl, rfl, ?_⟩; (clear hwx; go_wp2_with fail; exact hK); rfl)
    (refine wpF_valx (.int .u32 (uv (moreOf S l))) rfl hvs ?_; apply Exists.intro; refine ⟨fun wx hwx K Qp hK => ?_, ?_, rfl, ?_⟩; (skip; go_wp2_with fail; refine (crcMore_any S _ l _ (hv2.below hwx.1 (Nat.le_refl _)) (by omega) HX.out).mono ?_; rintro e w' ⟨rfl, hb⟩; exact hK _ hb); rfl)
    (refine wpF_ex ?_; apply Exists.intro; apply Exists.intro; refine ⟨fun wx hwx K Qp hK => ?_, ?_, rfl, rfl, ?_⟩; (clear hwx; go_wp2_with fail; exact hK); rfl)
    (refine wpF_ex ?_; apply Exists.intro; apply Exists.intro; refine ⟨fun wx hwx K Qp hK => ?_, ?_, rfl, rfl, ?_⟩; (clear hwx; go_wp2_with fail; exact hK); rfl)
    (refine wpF_valx (.int .u32 (uv (moreOf S l))) rfl hvs ?_; apply Exists.intro; refine ⟨fun wx hwx K Qp hK => ?_, ?_, rfl, ?_⟩; (skip; go_wp2_with fail; refine (refMore_any S _ l _ (hv2.below hwx.1 (Nat.le_refl _)) (by omega) HX.out).mono ?_; rintro e w' ⟨rfl, rfl⟩; exact hK _ (Below.refl _ _)); rfl)
    (refine wpF_ex ?_; apply Exists.intro; apply Exists.intro; refine ⟨fun wx hwx K Qp hK => ?_, ?_, rfl, rfl, ?_⟩; (clear hwx; go_wp2_with fail; exact hK); rfl)
    (refine wpF_ex ?_; apply Exists.intro; apply Exists.intro; refine ⟨fun wx hwx K Qp hK => ?_, ?_, rfl, rfl, ?_⟩; (clear hwx; go_wp2_with fail; exact hK); rfl)
    (refine wpF_ex ?_; apply Exists.intro; apply Exists.intro; refine ⟨fun wx hwx K Qp hK => ?_, ?_, rfl, rfl, ?_⟩; (clear hwx; go_wp2_with fail; exact hK); rfl)
    (refine wpF_ex ?_; apply Exists.intro; apply Exists.intro; refine ⟨fun wx hwx K Qp hK => ?_, ?_, rfl, rfl, ?_⟩; (clear hwx; go_wp2_with fail; exact hK); rfl)
    (refine wpF_ex ?_; apply Exists.intro; apply Exists.intro; refine ⟨fun wx hwx K Qp hK => ?_, ?_, rfl, rfl, ?_⟩; (clear hwx; go_wp2_with fail; exact hK); rfl)
    (refine wpF_ex ?_; apply Exists.intro; apply Exists.intro; refine ⟨fun wx hwx K Qp hK => ?_, ?_, rfl, rfl, ?_⟩; (clear hwx; go_wp2_with fail; exact hK); rfl)
    (refine wpF_ex ?_; apply Exists.intro; apply Exists.intro; refine ⟨fun wx hwx K Qp hK => ?_, ?_, rfl, rfl, ?_⟩; (have d := bl_get hwx.1 hcell; clear hwx; go_wp2_with fail; exact hK); rfl)
    (refine wpF_ex ?_; apply Exists.intro; apply Exists.intro; refine ⟨fun wx hwx K Qp hK => ?_, ?_, rfl, rfl, ?_⟩; (clear hwx; go_wp2_with fail; exact hK); rfl)
    (refine wpF_ex ?_; apply Exists.intro; apply Exists.intro; refine ⟨fun wx hwx K Qp hK => ?_, ?_, rfl, rfl, ?_⟩; (clear hwx; go_wp2_with fail; exact hK); rfl)
    (refine wpF_ex ?_; apply Exists.intro; apply Exists.intro; refine ⟨fun wx hwx K Qp hK => ?_, ?_, rfl, rfl, ?_⟩; (clear hwx; go_wp2_with fail; exact hK); rfl)
    (refine wpF_valx (.int .u32 (tblAt (i % 16).toNat)) rfl hvs ?_; apply Exists.intro; refine ⟨fun wx hwx K Qp hK => ?_, ?_, rfl, ?_⟩; (clear hwx; go_wp2_with fail; refine (refTable_any _ _ hn0 hn16').mono ?_; rintro e w' ⟨rfl, rfl⟩; exact hK _ (Below.refl _ _)); rfl)
    (refine wpF_ex ?_; apply Exists.intro; apply Exists.intro; refine ⟨fun wx hwx K Qp hK => ?_, ?_, rfl, rfl, ?_⟩; (clear hwx; go_wp2_with fail; exact hK); rfl)
    (refine wpF_ex ?_; apply Exists.intro; apply Exists.intro; refine ⟨fun wx hwx K Qp hK => ?_, ?_, rfl, rfl, ?_⟩; (clear hwx; go_wp2_with fail; exact hK); rfl)
    (refine wpF_ex ?_; apply Exists.intro; apply Exists.intro; refine ⟨fun wx hwx K Qp hK => ?_, ?_, rfl, rfl, ?_⟩; (clear hwx; go_wp2_with fail; exact hK); rfl)
    (refine wpF_valx (.bool true) rfl hvs ?_; apply Exists.intro; refine ⟨fun wx hwx K Qp hK => ?_, ?_, rfl, ?_⟩; (clear hwx; go_wp2_with fail; refine (known07_any _).mono ?_; rintro e w' ⟨rfl, hb⟩; exact hK _ hb); rfl)
    (refine wpF_ex ?_; apply Exists.intro; apply Exists.intro; refine ⟨fun wx hwx K Qp hK => ?_, ?_, rfl, rfl, ?_⟩; (clear hwx; go_wp2_with fail; exact hK); rfl)
    (refine wpF_ex ?_; apply Exists.intro; apply Exists.intro; refine ⟨fun wx hwx K Qp hK => ?_, ?_, rfl, rfl, ?_⟩; (clear hwx; go_wp2_with fail; exact hK); rfl)
    refine wpF_nil ?_
    intro w9 hb9
    go_wp2
    go_ret
    exact ⟨rfl, bl_step hb2 hb9⟩
  · go_enter Try.func7, Try.ntmps7
    go_wp2_with (go_at_call 23; refine (known07_any _).mono ?_; rintro e w9 ⟨rfl, hb9⟩)
    go_ret
    exact ⟨rfl, hb9⟩
end Go.Proofs.Ytlganffeaapebaa
