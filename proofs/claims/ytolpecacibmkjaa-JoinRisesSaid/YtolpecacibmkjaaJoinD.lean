/- JoinRises. No condition. -/
import Derived.Test.YtolpecacibmkjaaJoinC
namespace Go.Proofs.Ytolpecacibmkjaa
open Go.RowKit

theorem i8_add (x b : Int) (h0 : -128 ≤ x) (h1 : x + b ≤ 127) (hb : 0 ≤ b) : IntKind.i8.wrap (x + IntKind.i8.wrap b) = x + b := by
  unfold IntKind.wrap
  simp only [IntKind.bits, IntKind.signed]
  have : (2 : Int) ^ 8 = 256 := rfl
  have h7 : (2 : Int) ^ 7 = 128 := rfl
  simp
  (repeat' split) <;> omega

set_option maxHeartbeats 1600000 in
set_option maxRecDepth 100000 in
theorem joinRises_walk (x y b : Int) (n : Nd) (w : World) (ok : n.Ok) (x0 : -128 ≤ x) (x1 : x ≤ 127) (y0 : -128 ≤ y) (y1 : y ≤ 127) (b0 : 0 ≤ b) (b1 : b ≤ 255) :
    Calls Try.prog 10 #[.int .i8 x, .int .i8 y, .int .u8 b, .agg n.cs] w fun e w' => e = .returned (.bool true) ∧ Below w.heap.size w w' := by
  by_cases hlo : n.lo ≤ n.hi
  · by_cases hs : x + b ≤ 127
    · have s0 : -128 ≤ x + b := by omega
      have hw := i8_add x b x0 hs b0
      obtain ⟨A, hA⟩ : ∃ A, A = joinQ x y n := ⟨_, rfl⟩
      obtain ⟨B, hB⟩ : ∃ B, B = joinQ (x + b) y n := ⟨_, rfl⟩
      obtain ⟨C, hC⟩ : ∃ C, C = joinQ y x n := ⟨_, rfl⟩
      obtain ⟨D, hD⟩ : ∃ D, D = joinQ y (x + b) n := ⟨_, rfl⟩
      have o1 : A ≤ B := by rw [hA, hB]; exact joinQ_mono1 _ _ _ _ (by omega) hlo
      have o2 : C ≤ D := by rw [hC, hD]; exact joinQ_mono2 _ _ _ _ (by omega) hlo
      have HA := Lib.hid hA; have HB := Lib.hid hB; have HC := Lib.hid hC; have HD := Lib.hid hD; clear hA hB hC hD
      go_enter Try.func10, Try.ntmps10
      have hn := NdAt.new w n 51
      have c17 := hn 17 _ rfl
      have c18 := hn 18 _ rfl
      go_wp2_with fail
      clear c17 c18
      refine wp_region_known (fun | 3 => some (.int .i8 A) | 10 => some (.int .i8 B) | 16 => some (.int .i8 C) | 23 => some (.int .i8 D) | 27 => some (.bool true) | _ => none) (by kernel_rfl) (by kernel_rfl) ?_
      intro vs hvs
      (refine wpF_ex ?_; apply Exists.intro; apply Exists.intro; refine ⟨fun wx hwx K Qp hK => ?_, ?_, rfl, rfl, ?_⟩; (clear hwx; go_wp2_with fail; exact hK); rfl)
      (refine wpF_ex ?_; apply Exists.intro; apply Exists.intro; refine ⟨fun wx hwx K Qp hK => ?_, ?_, rfl, rfl, ?_⟩; (clear hwx; go_wp2_with fail; exact hK); rfl)
      (refine wpF_ex ?_; apply Exists.intro; apply Exists.intro; refine ⟨fun wx hwx K Qp hK => ?_, ?_, rfl, rfl, ?_⟩; (refine wp_loadN (hn.below hwx.1) _ rfl rfl ?_; exact hK); rfl)
      (refine wpF_valx (.int .i8 A) rfl hvs ?_; apply Exists.intro; refine ⟨fun wx hwx K Qp hK => ?_, ?_, rfl, ?_⟩; (clear hwx; go_wp2_with fail; refine ((joinOne_any x y n _ ok x0 x1 y0 y1).mono (fun e w' h => show e = .returned (.int .i8 A) ∧ _ from ⟨by rw [HA.out]; exact h.1, h.2⟩)).mono ?_; rintro e w' ⟨rfl, hb⟩; exact hK _ hb); rfl)
      (refine wpF_ex ?_; apply Exists.intro; apply Exists.intro; refine ⟨fun wx hwx K Qp hK => ?_, ?_, rfl, rfl, ?_⟩; (clear hwx; go_wp2_with fail; exact hK); rfl)
      (refine wpF_ex ?_; apply Exists.intro; apply Exists.intro; refine ⟨fun wx hwx K Qp hK => ?_, ?_, rfl, rfl, ?_⟩; (clear hwx; go_wp2_with fail; exact hK); rfl)
      (refine wpF_ex ?_; apply Exists.intro; apply Exists.intro; refine ⟨fun wx hwx K Qp hK => ?_, ?_, rfl, rfl, ?_⟩; (clear hwx; go_wp2_with fail; exact hK); rfl)
      (refine wpF_ex ?_; apply Exists.intro; apply Exists.intro; refine ⟨fun wx hwx K Qp hK => ?_, ?_, rfl, rfl, ?_⟩; (clear hwx; go_wp2_with fail; exact hK); rfl)
      (refine wpF_ex ?_; apply Exists.intro; apply Exists.intro; refine ⟨fun wx hwx K Qp hK => ?_, ?_, rfl, rfl, ?_⟩; (clear hwx; go_wp2_with fail; exact hK); rfl)
      (refine wpF_ex ?_; apply Exists.intro; apply Exists.intro; refine ⟨fun wx hwx K Qp hK => ?_, ?_, rfl, rfl, ?_⟩; (refine wp_loadN (hn.below hwx.1) _ rfl rfl ?_; exact hK); rfl)
      (refine wpF_valx (.int .i8 B) rfl hvs ?_; apply Exists.intro; refine ⟨fun wx hwx K Qp hK => ?_, ?_, rfl, ?_⟩; (clear hwx; go_wp2_with fail; refine ((joinOne_any (x + b) y n _ ok s0 hs y0 y1).mono (fun e w' h => show e = .returned (.int .i8 B) ∧ _ from ⟨by rw [HB.out]; exact h.1, h.2⟩)).mono ?_; rintro e w' ⟨rfl, hb⟩; exact hK _ hb); rfl)
      (refine wpF_ex ?_; apply Exists.intro; apply Exists.intro; refine ⟨fun wx hwx K Qp hK => ?_, ?_, rfl, rfl, ?_⟩; (clear hwx; go_wp2_with fail; exact hK); rfl)
      (refine wpF_ex ?_; apply Exists.intro; apply Exists.intro; refine ⟨fun wx hwx K Qp hK => ?_, ?_, rfl, rfl, ?_⟩; (clear hwx; go_wp2_with fail; exact hK); rfl)
      (refine wpF_ex ?_; apply Exists.intro; apply Exists.intro; refine ⟨fun wx hwx K Qp hK => ?_, ?_, rfl, rfl, ?_⟩; (clear hwx; go_wp2_with fail; exact hK); rfl)
      (refine wpF_ex ?_; apply Exists.intro; apply Exists.intro; refine ⟨fun wx hwx K Qp hK => ?_, ?_, rfl, rfl, ?_⟩; (clear hwx; go_wp2_with fail; exact hK); rfl)
      (refine wpF_ex ?_; apply Exists.intro; apply Exists.intro; refine ⟨fun wx hwx K Qp hK => ?_, ?_, rfl, rfl, ?_⟩; (refine wp_loadN (hn.below hwx.1) _ rfl rfl ?_; exact hK); rfl)
      (refine wpF_valx (.int .i8 C) rfl hvs ?_; apply Exists.intro; refine ⟨fun wx hwx K Qp hK => ?_, ?_, rfl, ?_⟩; (clear hwx; go_wp2_with fail; refine ((joinOne_any y x n _ ok y0 y1 x0 x1).mono (fun e w' h => show e = .returned (.int .i8 C) ∧ _ from ⟨by rw [HC.out]; exact h.1, h.2⟩)).mono ?_; rintro e w' ⟨rfl, hb⟩; exact hK _ hb); rfl)
      (refine wpF_ex ?_; apply Exists.intro; apply Exists.intro; refine ⟨fun wx hwx K Qp hK => ?_, ?_, rfl, rfl, ?_⟩; (clear hwx; go_wp2_with fail; exact hK); rfl)
      (refine wpF_ex ?_; apply Exists.intro; apply Exists.intro; refine ⟨fun wx hwx K Qp hK => ?_, ?_, rfl, rfl, ?_⟩; (clear hwx; go_wp2_with fail; exact hK); rfl)
      (refine wpF_ex ?_; apply Exists.intro; apply Exists.intro; refine ⟨fun wx hwx K Qp hK => ?_, ?_, rfl, rfl, ?_⟩; (clear hwx; go_wp2_with fail; exact hK); rfl)
      (refine wpF_ex ?_; apply Exists.intro; apply Exists.intro; refine ⟨fun wx hwx K Qp hK => ?_, ?_, rfl, rfl, ?_⟩; (clear hwx; go_wp2_with fail; exact hK); rfl)
      (refine wpF_ex ?_; apply Exists.intro; apply Exists.intro; refine ⟨fun wx hwx K Qp hK => ?_, ?_, rfl, rfl, ?_⟩; (clear hwx; go_wp2_with fail; exact hK); rfl)
      (refine wpF_ex ?_; apply Exists.intro; apply Exists.intro; refine ⟨fun wx hwx K Qp hK => ?_, ?_, rfl, rfl, ?_⟩; (refine wp_loadN (hn.below hwx.1) _ rfl rfl ?_; exact hK); rfl)
      (refine wpF_valx (.int .i8 D) rfl hvs ?_; apply Exists.intro; refine ⟨fun wx hwx K Qp hK => ?_, ?_, rfl, ?_⟩; (clear hwx; go_wp2_with fail; refine ((joinOne_any y (x + b) n _ ok y0 y1 s0 hs).mono (fun e w' h => show e = .returned (.int .i8 D) ∧ _ from ⟨by rw [HD.out]; exact h.1, h.2⟩)).mono ?_; rintro e w' ⟨rfl, hb⟩; exact hK _ hb); rfl)
      (refine wpF_ex ?_; apply Exists.intro; apply Exists.intro; refine ⟨fun wx hwx K Qp hK => ?_, ?_, rfl, rfl, ?_⟩; (clear hwx; go_wp2_with fail; exact hK); rfl)
      (refine wpF_ex ?_; apply Exists.intro; apply Exists.intro; refine ⟨fun wx hwx K Qp hK => ?_, ?_, rfl, rfl, ?_⟩; (clear hwx; go_wp2_with fail; exact hK); rfl)
      (refine wpF_ex ?_; apply Exists.intro; apply Exists.intro; refine ⟨fun wx hwx K Qp hK => ?_, ?_, rfl, rfl, ?_⟩; (clear hwx; go_wp2_with fail; exact hK); rfl)
      (refine wpF_valx (.bool true) rfl hvs ?_; apply Exists.intro; refine ⟨fun wx hwx K Qp hK => ?_, ?_, rfl, ?_⟩; (clear hwx; go_wp2_with fail; refine (known20_any _).mono ?_; rintro e w' ⟨rfl, hb⟩; exact hK _ hb); rfl)
      (refine wpF_ex ?_; apply Exists.intro; apply Exists.intro; refine ⟨fun wx hwx K Qp hK => ?_, ?_, rfl, rfl, ?_⟩; (clear hwx; go_wp2_with fail; exact hK); rfl)
      (refine wpF_ex ?_; apply Exists.intro; apply Exists.intro; refine ⟨fun wx hwx K Qp hK => ?_, ?_, rfl, rfl, ?_⟩; (clear hwx; go_wp2_with fail; exact hK); rfl)
      refine wpF_nil ?_
      intro w9 hb9
      go_wp2
      go_ret
      exact ⟨rfl, ((Below.refl _ _).alloc (Nat.le_refl _) _).trans (hb9.mono (by simp))⟩
    · go_enter Try.func10, Try.ntmps10
      have hn := NdAt.new w n 51
      have c17 := hn 17 _ rfl
      have c18 := hn 18 _ rfl
      go_wp2_with fail
      refine (known20_any _).mono ?_
      rintro e w1 ⟨rfl, hb1⟩
      go_wp2
      go_ret
      exact ⟨rfl, ((Below.refl _ _).alloc (Nat.le_refl _) _).trans (hb1.mono (by simp))⟩
  · go_enter Try.func10, Try.ntmps10
    have hn := NdAt.new w n 51
    have c17 := hn 17 _ rfl
    have c18 := hn 18 _ rfl
    go_wp2_with fail
    refine (known20_any _).mono ?_
    rintro e w1 ⟨rfl, hb1⟩
    go_wp2
    go_ret
    exact ⟨rfl, ((Below.refl _ _).alloc (Nat.le_refl _) _).trans (hb1.mono (by simp))⟩
end Go.Proofs.Ytolpecacibmkjaa
