/- Two numbers as one: join.One. No condition. -/
import Derived.Test.YtolpecacibmkjaaJoinA
namespace Go.Proofs.Ytolpecacibmkjaa
open Go.RowKit

theorem mul_bd9 (a m : Int) (a0 : -255 ≤ a) (a1 : a ≤ 255) (m0 : -2147483648 ≤ m) (m1 : m ≤ 2147483647) : -547608330240 ≤ a * m ∧ a * m ≤ 547608330240 := by
  have h1 : (a.natAbs * m.natAbs : Nat) ≤ 255 * 2147483648 := Nat.mul_le_mul (by omega) (by omega)
  have := Int.natAbs_mul a m
  omega

theorem clampI_bd (v lo hi : Int) (l0 : -128 ≤ lo) (l1 : lo ≤ 127) (k0 : -128 ≤ hi) (k1 : hi ≤ 127) : -128 ≤ clampI v lo hi ∧ clampI v lo hi ≤ 127 := by
  unfold clampI; split <;> (try split) <;> omega

theorem joinQ_bd (x y : Int) (n : Nd) (hn : n.Ok) : -128 ≤ joinQ x y n ∧ joinQ x y n ≤ 127 := by
  obtain ⟨l0, l1⟩ := wf_i8 hn.lo
  obtain ⟨k0, k1⟩ := wf_i8 hn.hi
  unfold joinQ
  split
  · exact clampI_bd _ _ _ l0 l1 k0 k1
  · omega

set_option maxHeartbeats 1600000 in
set_option maxRecDepth 100000 in
theorem joinOne_any (x y : Int) (n : Nd) (w : World) (ok : n.Ok) (x0 : -128 ≤ x) (x1 : x ≤ 127) (y0 : -128 ≤ y) (y1 : y ≤ 127) :
    Calls Try.prog 36 #[.int .i8 x, .int .i8 y, .agg n.cs] w fun e w' => e = .returned (.int .i8 (joinQ x y n)) ∧ Below w.heap.size w w' := by
  obtain ⟨za0, za1⟩ := wf_i8 ok.za
  obtain ⟨zb0, zb1⟩ := wf_i8 ok.zb
  obtain ⟨qm0, qm1⟩ := wf_i32 ok.qm
  obtain ⟨rm0, rm1⟩ := wf_i32 ok.rm
  obtain ⟨qz0, qz1⟩ := wf_i8 ok.qz
  obtain ⟨lo0, lo1⟩ := wf_i8 ok.lo
  obtain ⟨hi0, hi1⟩ := wf_i8 ok.hi
  clear ok
  cases hq : mayQ n with
  | false =>
    have e : joinQ x y n = 0 := by unfold joinQ; rw [hq]; simp
    rw [e]; clear e
    have HQ := Lib.hid hq; clear hq
    go_enter Try.func36, Try.ntmps36
    have hn := NdAt.new w n 51
    go_wp2_with (refine wpList_loadN hn rfl _ rfl rfl ?_)
    refine (joinMay_any n _).mono ?_
    rintro e w1 ⟨rfl, hb1⟩
    rw [HQ.out]
    go_wp2
    go_ret
    exact ⟨rfl, ((Below.refl _ _).alloc (Nat.le_refl _) _).trans (hb1.mono (by simp))⟩
  | true =>
    have e : joinQ x y n = clampI (rnd ((x - n.za) * n.qm) n.qs + rnd ((y - n.zb) * n.rm) n.rs + n.qz) n.lo n.hi := by unfold joinQ; rw [hq]; simp
    rw [e]; clear e
    have HQ := Lib.hid hq; clear hq
    obtain ⟨bx0, bx1⟩ := mul_bd9 (x - n.za) n.qm (by omega) (by omega) qm0 qm1
    obtain ⟨by0, by1⟩ := mul_bd9 (y - n.zb) n.rm (by omega) (by omega) rm0 rm1
    obtain ⟨X, hX⟩ : ∃ X, X = rnd ((x - n.za) * n.qm) n.qs := ⟨_, rfl⟩
    obtain ⟨Y, hY⟩ : ∃ Y, Y = rnd ((y - n.zb) * n.rm) n.rs := ⟨_, rfl⟩
    obtain ⟨X0, X1⟩ := rnd_bd _ n.qs _ bx0 bx1
    obtain ⟨Y0, Y1⟩ := rnd_bd _ n.rs _ by0 by1
    rw [← hX] at X0 X1
    rw [← hY] at Y0 Y1
    rw [← hX, ← hY]
    have HX := Lib.hid hX; have HY := Lib.hid hY; clear hX hY bx0 bx1 by0 by1
    go_enter Try.func36, Try.ntmps36
    have hn := NdAt.new w n 51
    go_wp2_with (refine wpList_loadN hn rfl _ rfl rfl ?_)
    refine (joinMay_any n _).mono ?_
    rintro e w1 ⟨rfl, hb1⟩
    rw [HQ.out]
    replace hn := hn.below hb1
    go_wp2_with fail
    refine wp_region_known (fun | 5 => some (.int .i64 X) | 11 => some (.int .i64 Y) | 22 => some (.int .i8 (clampI (X + Y + n.qz) n.lo n.hi)) | _ => none) (by kernel_rfl) (by kernel_rfl) ?_
    intro vs hvs
    (refine wpF_ex ?_; apply Exists.intro; apply Exists.intro; refine ⟨fun wx hwx K Qp hK => ?_, ?_, rfl, rfl, ?_⟩; (clear hwx; go_wp2_with fail; exact hK); rfl)
    (refine wpF_ex ?_; apply Exists.intro; apply Exists.intro; refine ⟨fun wx hwx K Qp hK => ?_, ?_, rfl, rfl, ?_⟩; (clear hwx; go_wp2_with fail; exact hK); rfl)
    (refine wpF_ex ?_; apply Exists.intro; apply Exists.intro; refine ⟨fun wx hwx K Qp hK => ?_, ?_, rfl, rfl, ?_⟩; (have c7 := (hn.below hwx.1) 7 _ rfl; clear hwx; go_wp2_with fail; exact hK); rfl)
    (refine wpF_ex ?_; apply Exists.intro; apply Exists.intro; refine ⟨fun wx hwx K Qp hK => ?_, ?_, rfl, rfl, ?_⟩; (clear hwx; go_wp2_with fail; exact hK); rfl)
    (refine wpF_ex ?_; apply Exists.intro; apply Exists.intro; refine ⟨fun wx hwx K Qp hK => ?_, ?_, rfl, rfl, ?_⟩; (have c11 := (hn.below hwx.1) 11 _ rfl; have c12 := (hn.below hwx.1) 12 _ rfl; have c13 := (hn.below hwx.1) 13 _ rfl; clear hwx; go_wp2_with fail; exact hK); rfl)
    (refine wpF_valx (.int .i64 X) rfl hvs ?_; apply Exists.intro; refine ⟨fun wx hwx K Qp hK => ?_, ?_, rfl, ?_⟩; (clear hwx; go_wp2_with fail; refine ((joinScaled_any _ _ _ _ _ _ x0 x1 za0 za1 qm0 qm1).mono (fun e w' h => show e = .returned (.int .i64 X) ∧ _ from ⟨by rw [HX.out]; exact h.1, h.2⟩)).mono ?_; rintro e w' ⟨rfl, hb⟩; exact hK _ hb); rfl)
    (refine wpF_ex ?_; apply Exists.intro; apply Exists.intro; refine ⟨fun wx hwx K Qp hK => ?_, ?_, rfl, rfl, ?_⟩; (clear hwx; go_wp2_with fail; exact hK); rfl)
    (refine wpF_ex ?_; apply Exists.intro; apply Exists.intro; refine ⟨fun wx hwx K Qp hK => ?_, ?_, rfl, rfl, ?_⟩; (clear hwx; go_wp2_with fail; exact hK); rfl)
    (refine wpF_ex ?_; apply Exists.intro; apply Exists.intro; refine ⟨fun wx hwx K Qp hK => ?_, ?_, rfl, rfl, ?_⟩; (have c8 := (hn.below hwx.1) 8 _ rfl; clear hwx; go_wp2_with fail; exact hK); rfl)
    (refine wpF_ex ?_; apply Exists.intro; apply Exists.intro; refine ⟨fun wx hwx K Qp hK => ?_, ?_, rfl, rfl, ?_⟩; (clear hwx; go_wp2_with fail; exact hK); rfl)
    (refine wpF_ex ?_; apply Exists.intro; apply Exists.intro; refine ⟨fun wx hwx K Qp hK => ?_, ?_, rfl, rfl, ?_⟩; (have c14 := (hn.below hwx.1) 14 _ rfl; have c15 := (hn.below hwx.1) 15 _ rfl; have c16 := (hn.below hwx.1) 16 _ rfl; clear hwx; go_wp2_with fail; exact hK); rfl)
    (refine wpF_valx (.int .i64 Y) rfl hvs ?_; apply Exists.intro; refine ⟨fun wx hwx K Qp hK => ?_, ?_, rfl, ?_⟩; (clear hwx; go_wp2_with fail; refine ((joinScaled_any _ _ _ _ _ _ y0 y1 zb0 zb1 rm0 rm1).mono (fun e w' h => show e = .returned (.int .i64 Y) ∧ _ from ⟨by rw [HY.out]; exact h.1, h.2⟩)).mono ?_; rintro e w' ⟨rfl, hb⟩; exact hK _ hb); rfl)
    (refine wpF_ex ?_; apply Exists.intro; apply Exists.intro; refine ⟨fun wx hwx K Qp hK => ?_, ?_, rfl, rfl, ?_⟩; (clear hwx; go_wp2_with fail; exact hK); rfl)
    (refine wpF_ex ?_; apply Exists.intro; apply Exists.intro; refine ⟨fun wx hwx K Qp hK => ?_, ?_, rfl, rfl, ?_⟩; (clear hwx; go_wp2_with fail; exact hK); rfl)
    (refine wpF_ex ?_; apply Exists.intro; apply Exists.intro; refine ⟨fun wx hwx K Qp hK => ?_, ?_, rfl, rfl, ?_⟩; (clear hwx; go_wp2_with fail; exact hK); rfl)
    (refine wpF_ex ?_; apply Exists.intro; apply Exists.intro; refine ⟨fun wx hwx K Qp hK => ?_, ?_, rfl, rfl, ?_⟩; (have c13 := (hn.below hwx.1) 13 _ rfl; clear hwx; go_wp2_with fail; exact hK); rfl)
    (refine wpF_ex ?_; apply Exists.intro; apply Exists.intro; refine ⟨fun wx hwx K Qp hK => ?_, ?_, rfl, rfl, ?_⟩; (clear hwx; go_wp2_with fail; exact hK); rfl)
    (refine wpF_ex ?_; apply Exists.intro; apply Exists.intro; refine ⟨fun wx hwx K Qp hK => ?_, ?_, rfl, rfl, ?_⟩; (clear hwx; go_wp2_with fail; exact hK); rfl)
    (refine wpF_ex ?_; apply Exists.intro; apply Exists.intro; refine ⟨fun wx hwx K Qp hK => ?_, ?_, rfl, rfl, ?_⟩; (clear hwx; go_wp2_with fail; exact hK); rfl)
    (refine wpF_ex ?_; apply Exists.intro; apply Exists.intro; refine ⟨fun wx hwx K Qp hK => ?_, ?_, rfl, rfl, ?_⟩; (have c17 := (hn.below hwx.1) 17 _ rfl; clear hwx; go_wp2_with fail; exact hK); rfl)
    (refine wpF_ex ?_; apply Exists.intro; apply Exists.intro; refine ⟨fun wx hwx K Qp hK => ?_, ?_, rfl, rfl, ?_⟩; (clear hwx; go_wp2_with fail; exact hK); rfl)
    (refine wpF_ex ?_; apply Exists.intro; apply Exists.intro; refine ⟨fun wx hwx K Qp hK => ?_, ?_, rfl, rfl, ?_⟩; (have c18 := (hn.below hwx.1) 18 _ rfl; clear hwx; go_wp2_with fail; exact hK); rfl)
    (refine wpF_valx (.int .i8 (clampI (X + Y + n.qz) n.lo n.hi)) rfl hvs ?_; apply Exists.intro; refine ⟨fun wx hwx K Qp hK => ?_, ?_, rfl, ?_⟩; (clear hwx; go_wp2_with fail; refine (clamp_any _ _ _ _ lo0 lo1 hi0 hi1).mono ?_; rintro e w' ⟨rfl, rfl⟩; exact hK _ (Below.refl _ _)); rfl)
    (refine wpF_ex ?_; apply Exists.intro; apply Exists.intro; refine ⟨fun wx hwx K Qp hK => ?_, ?_, rfl, rfl, ?_⟩; (clear hwx; go_wp2_with fail; exact hK); rfl)
    refine wpF_nil ?_
    intro w9 hb9
    go_wp2
    go_ret
    exact ⟨rfl, (((Below.refl _ _).alloc (Nat.le_refl _) _).trans (hb1.mono (by simp))).trans (hb9.mono (by have := hb1.size; simp at this; omega))⟩
end Go.Proofs.Ytolpecacibmkjaa
