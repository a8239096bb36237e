/- FixPuts. No condition. -/
import Derived.Test.YtolpecacibmkjaaFixG
import Derived.Test.YtolpecacibmkjaaAv
namespace Go.Proofs.Ytolpecacibmkjaa
open Go.RowKit

set_option maxHeartbeats 3200000 in
set_option maxRecDepth 100000 in
theorem fixPuts_walk (v : Value) (xs : List Int) (m s z lo hi : Int) (w : World) (hv : Rd w v (xs.map (Value.int .i32))) (hb : ∀ x ∈ xs, -2147483648 ≤ x ∧ x ≤ 2147483647)
    (m0 : -2147483648 ≤ m) (m1 : m ≤ 2147483647) (z0 : -128 ≤ z) (z1 : z ≤ 127) (l0 : -128 ≤ lo) (l1 : lo ≤ 127) (k0 : -128 ≤ hi) (k1 : hi ≤ 127) :
    Calls Try.prog 6 #[v, .agg #[.int .i32 m, .int .i64 s, .int .i8 z], .int .i8 lo, .int .i8 hi] w fun e w' => e = .returned (.bool true) ∧ Below w.heap.size w w' := by
  have HB := Lib.hid hb; clear hb
  have hv0 := hv
  obtain ⟨ao, ca, rfl, _, ha⟩ := hv0
  simp only [List.length_map] at hv ⊢
  have f0 : (w.alloc (.cells #[.int .i32 m, .int .i64 s, .int .i8 z] 28)).cell? ⟨w.heap.size, 0, none⟩ = some (.int .i32 m) := by rw [World.cell?_alloc_at _ _ _ _ rfl]; rfl
  have f1 : (w.alloc (.cells #[.int .i32 m, .int .i64 s, .int .i8 z] 28)).cell? ⟨w.heap.size, 1, none⟩ = some (.int .i64 s) := by rw [World.cell?_alloc_at _ _ _ _ rfl]; rfl
  have f2 : (w.alloc (.cells #[.int .i32 m, .int .i64 s, .int .i8 z] 28)).cell? ⟨w.heap.size, 2, none⟩ = some (.int .i8 z) := by rw [World.cell?_alloc_at _ _ _ _ rfl]; rfl
  have hwb : Below w.heap.size w (w.alloc (.cells #[.int .i32 m, .int .i64 s, .int .i8 z] 28)) := (Below.refl _ _).alloc (Nat.le_refl _) _
  by_cases h200 : xs.length ≤ 200
  · go_enter Try.func6, Try.ntmps6
    go_wp2
    obtain ⟨wa, hwa⟩ : ∃ wa, wa = w.alloc (.cells #[.int .i32 m, .int .i64 s, .int .i8 z] 28) := ⟨_, rfl⟩
    rw [← hwa] at f0 f1 f2 hwb ⊢
    clear hwa
    go_loopw [9] (fun i wr => ∃ (k : Nat), i = .int .i64 k ∧ k ≤ xs.length ∧ Below wa.heap.size wa wr) (fun i _ => xs.length - (intOf i).toNat)
    case atStart => exact ⟨0, rfl, by omega, Below.refl _ _⟩
    case round =>
      obtain ⟨k, rfl, hk, hbw⟩ := hrel
      have c0 := bl_get hbw f0
      have c1 := bl_get hbw f1
      have c2 := bl_get hbw f2
      have hbr := bl_step hwb hbw
      by_cases hlt : k < xs.length
      · obtain ⟨b, o, rfl, hc⟩ := ha (by intro h; simp at h; subst h; simp at hlt)
        have hcell := bl_get hbr (hc k (by simpa using hlt))
        simp only [List.getElem_map] at hcell
        obtain ⟨e0, e1⟩ := HB.out xs[k] (List.getElem_mem hlt)
        obtain ⟨c, hcc⟩ : ∃ c, c = xs[k] := ⟨_, rfl⟩
        rw [← hcc] at hcell e0 e1
        obtain ⟨A, hA⟩ : ∃ A, A = heldQ c m s z (-128) 127 := ⟨_, rfl⟩
        obtain ⟨C, hC⟩ : ∃ C, C = heldQ c m s z lo hi := ⟨_, rfl⟩
        have HA := Lib.hid hA; have HC := Lib.hid hC; clear hA hC hcc hc ha f0 f1 f2 hv
        go_wp2_with fail
        refine wp_region_known (fun | 5 => some (.int .i8 A) | 11 => some (.int .i8 A) | 21 => some (.int .i8 C) | 29 => some (.int .i8 C) | _ => none) (by kernel_rfl) (by kernel_rfl) ?_
        intro vs hvs
        (refine wpF_ex ?_; apply Exists.intro; apply Exists.intro; refine ⟨fun wx hwx K Qp hK => ?_, ?_, rfl, rfl, ?_⟩; (clear hwx; go_wp2_with fail; exact hK); rfl)
        (refine wpF_ex ?_; apply Exists.intro; apply Exists.intro; refine ⟨fun wx hwx K Qp hK => ?_, ?_, rfl, rfl, ?_⟩; (clear hwx; go_wp2_with fail; exact hK); rfl)
        (refine wpF_ex ?_; apply Exists.intro; apply Exists.intro; refine ⟨fun wx hwx K Qp hK => ?_, ?_, rfl, rfl, ?_⟩; (clear hwx; go_wp2_with fail; exact hK); rfl)
        (refine wpF_ex ?_; apply Exists.intro; apply Exists.intro; refine ⟨fun wx hwx K Qp hK => ?_, ?_, rfl, rfl, ?_⟩; (have d := bl_get hwx.1 hcell; clear hwx; go_wp2_with fail; exact hK); rfl)
        (refine wpF_ex ?_; apply Exists.intro; apply Exists.intro; refine ⟨fun wx hwx K Qp hK => ?_, ?_, rfl, rfl, ?_⟩; (have d0 := bl_get hwx.1 c0; have d1 := bl_get hwx.1 c1; have d2 := bl_get hwx.1 c2; clear hwx; go_wp2_with fail; exact hK); rfl)
        (refine wpF_valx (.int .i8 A) rfl hvs ?_; apply Exists.intro; refine ⟨fun wx hwx K Qp hK => ?_, ?_, rfl, ?_⟩; (clear hwx; go_wp2_with fail; refine ((put8_any _ _ _ _ _ e0 e1 m0 m1 z0 z1).mono (fun e w' h => show e = .returned (.int .i8 A) ∧ _ from ⟨by rw [HA.out]; exact h.1, h.2⟩)).mono ?_; rintro e w' ⟨rfl, hb⟩; exact hK _ hb); rfl)
        (refine wpF_ex ?_; apply Exists.intro; apply Exists.intro; refine ⟨fun wx hwx K Qp hK => ?_, ?_, rfl, rfl, ?_⟩; (clear hwx; go_wp2_with fail; exact hK); rfl)
        (refine wpF_ex ?_; apply Exists.intro; apply Exists.intro; refine ⟨fun wx hwx K Qp hK => ?_, ?_, rfl, rfl, ?_⟩; (clear hwx; go_wp2_with fail; exact hK); rfl)
        (refine wpF_ex ?_; apply Exists.intro; apply Exists.intro; refine ⟨fun wx hwx K Qp hK => ?_, ?_, rfl, rfl, ?_⟩; (clear hwx; go_wp2_with fail; exact hK); rfl)
        (refine wpF_ex ?_; apply Exists.intro; apply Exists.intro; refine ⟨fun wx hwx K Qp hK => ?_, ?_, rfl, rfl, ?_⟩; (have d := bl_get hwx.1 hcell; clear hwx; go_wp2_with fail; exact hK); rfl)
        (refine wpF_ex ?_; apply Exists.intro; apply Exists.intro; refine ⟨fun wx hwx K Qp hK => ?_, ?_, rfl, rfl, ?_⟩; (have d0 := bl_get hwx.1 c0; have d1 := bl_get hwx.1 c1; have d2 := bl_get hwx.1 c2; clear hwx; go_wp2_with fail; exact hK); rfl)
        (refine wpF_valx (.int .i8 A) rfl hvs ?_; apply Exists.intro; refine ⟨fun wx hwx K Qp hK => ?_, ?_, rfl, ?_⟩; (clear hwx; go_wp2_with fail; refine ((refHeld_any _ _ _ _ _ _ _ e0 e1 m0 m1 z0 z1 (by omega) (by omega) (by omega) (by omega)).mono (fun e w' h => show e = .returned (.int .i8 A) ∧ _ from ⟨by rw [HA.out]; exact h.1, h.2⟩)).mono ?_; rintro e w' ⟨rfl, hb⟩; exact hK _ hb); rfl)
        (refine wpF_ex ?_; apply Exists.intro; apply Exists.intro; refine ⟨fun wx hwx K Qp hK => ?_, ?_, rfl, rfl, ?_⟩; (clear hwx; go_wp2_with fail; exact hK); rfl)
        (refine wpF_ex ?_; apply Exists.intro; apply Exists.intro; refine ⟨fun wx hwx K Qp hK => ?_, ?_, rfl, rfl, ?_⟩; (clear hwx; go_wp2_with fail; exact hK); rfl)
        (refine wpF_ex ?_; apply Exists.intro; apply Exists.intro; refine ⟨fun wx hwx K Qp hK => ?_, ?_, rfl, rfl, ?_⟩; (clear hwx; go_wp2_with fail; exact hK); rfl)
        (refine wpF_ex ?_; apply Exists.intro; apply Exists.intro; refine ⟨fun wx hwx K Qp hK => ?_, ?_, rfl, rfl, ?_⟩; (clear hwx; go_wp2_with fail; exact hK); rfl)
        (refine wpF_ex ?_; apply Exists.intro; apply Exists.intro; refine ⟨fun wx hwx K Qp hK => ?_, ?_, rfl, rfl, ?_⟩; (clear hwx; go_wp2_with fail; exact hK); rfl)
        (refine wpF_ex ?_; apply Exists.intro; apply Exists.intro; refine ⟨fun wx hwx K Qp hK => ?_, ?_, rfl, rfl, ?_⟩; (have d := bl_get hwx.1 hcell; clear hwx; go_wp2_with fail; exact hK); rfl)
        (refine wpF_ex ?_; apply Exists.intro; apply Exists.intro; refine ⟨fun wx hwx K Qp hK => ?_, ?_, rfl, rfl, ?_⟩; (have d0 := bl_get hwx.1 c0; have d1 := bl_get hwx.1 c1; have d2 := bl_get hwx.1 c2; clear hwx; go_wp2_with fail; exact hK); rfl)
        (refine wpF_ex ?_; apply Exists.intro; apply Exists.intro; refine ⟨fun wx hwx K Qp hK => ?_, ?_, rfl, rfl, ?_⟩; (clear hwx; go_wp2_with fail; exact hK); rfl)
        (refine wpF_ex ?_; apply Exists.intro; apply Exists.intro; refine ⟨fun wx hwx K Qp hK => ?_, ?_, rfl, rfl, ?_⟩; (clear hwx; go_wp2_with fail; exact hK); rfl)
        (refine wpF_valx (.int .i8 C) rfl hvs ?_; apply Exists.intro; refine ⟨fun wx hwx K Qp hK => ?_, ?_, rfl, ?_⟩; (clear hwx; go_wp2_with fail; refine ((held_any _ _ _ _ _ _ _ e0 e1 m0 m1 z0 z1 l0 l1 k0 k1).mono (fun e w' h => show e = .returned (.int .i8 C) ∧ _ from ⟨by rw [HC.out]; exact h.1, h.2⟩)).mono ?_; rintro e w' ⟨rfl, hb⟩; exact hK _ hb); rfl)
        (refine wpF_ex ?_; apply Exists.intro; apply Exists.intro; refine ⟨fun wx hwx K Qp hK => ?_, ?_, rfl, rfl, ?_⟩; (clear hwx; go_wp2_with fail; exact hK); rfl)
        (refine wpF_ex ?_; apply Exists.intro; apply Exists.intro; refine ⟨fun wx hwx K Qp hK => ?_, ?_, rfl, rfl, ?_⟩; (clear hwx; go_wp2_with fail; exact hK); rfl)
        (refine wpF_ex ?_; apply Exists.intro; apply Exists.intro; refine ⟨fun wx hwx K Qp hK => ?_, ?_, rfl, rfl, ?_⟩; (clear hwx; go_wp2_with fail; exact hK); rfl)
        (refine wpF_ex ?_; apply Exists.intro; apply Exists.intro; refine ⟨fun wx hwx K Qp hK => ?_, ?_, rfl, rfl, ?_⟩; (have d := bl_get hwx.1 hcell; clear hwx; go_wp2_with fail; exact hK); rfl)
        (refine wpF_ex ?_; apply Exists.intro; apply Exists.intro; refine ⟨fun wx hwx K Qp hK => ?_, ?_, rfl, rfl, ?_⟩; (have d0 := bl_get hwx.1 c0; have d1 := bl_get hwx.1 c1; have d2 := bl_get hwx.1 c2; clear hwx; go_wp2_with fail; exact hK); rfl)
        (refine wpF_ex ?_; apply Exists.intro; apply Exists.intro; refine ⟨fun wx hwx K Qp hK => ?_, ?_, rfl, rfl, ?_⟩; (clear hwx; go_wp2_with fail; exact hK); rfl)
        (refine wpF_ex ?_; apply Exists.intro; apply Exists.intro; refine ⟨fun wx hwx K Qp hK => ?_, ?_, rfl, rfl, ?_⟩; (clear hwx; go_wp2_with fail; exact hK); rfl)
        (refine wpF_valx (.int .i8 C) rfl hvs ?_; apply Exists.intro; refine ⟨fun wx hwx K Qp hK => ?_, ?_, rfl, ?_⟩; (clear hwx; go_wp2_with fail; refine ((refHeld_any _ _ _ _ _ _ _ e0 e1 m0 m1 z0 z1 l0 l1 k0 k1).mono (fun e w' h => show e = .returned (.int .i8 C) ∧ _ from ⟨by rw [HC.out]; exact h.1, h.2⟩)).mono ?_; rintro e w' ⟨rfl, hb⟩; exact hK _ hb); rfl)
        (refine wpF_ex ?_; apply Exists.intro; apply Exists.intro; refine ⟨fun wx hwx K Qp hK => ?_, ?_, rfl, rfl, ?_⟩; (clear hwx; go_wp2_with fail; exact hK); rfl)
        (refine wpF_ex ?_; apply Exists.intro; apply Exists.intro; refine ⟨fun wx hwx K Qp hK => ?_, ?_, rfl, rfl, ?_⟩; (clear hwx; go_wp2_with fail; exact hK); rfl)
        refine wpF_nil ?_
        intro w9 hb9
        go_wp2
        go_roundw
        case rel => exact ⟨k + 1, by go_num, by omega, bl_step hbw hb9⟩
        case measure => simp [intOf]; omega
      · have hhl : (heldL xs m s z lo hi).length ≤ 1099511627776 := by unfold heldL; split <;> simp <;> omega
        replace hv := hv.below hbr (Nat.le_refl _)
        obtain ⟨q, hq⟩ : ∃ q, q = rightQ m s := ⟨_, rfl⟩
        have HQ := Lib.hid hq; have HA := Lib.hid ha; clear hq ha f0 f1 f2
        go_wp2_with fail
        refine wp_region_vals (fun i => List.lookup i [(1, .bool q), (3, .bool q), (16, .bool true), (19, .bool true)]) (AV [(1, .bool q), (3, .bool q), (16, .bool true), (19, .bool true)] [(10, fun v w => Rd w v ((heldL xs m s z lo hi).map (Value.int .i8))), (15, fun v w => Rd w v ((heldL xs m s z lo hi).map (Value.int .i8)))])
          (by kernel_rfl) (by kernel_rfl) (AV_pers _ _ (by intro p hp; simp only [List.mem_cons, List.not_mem_nil, or_false] at hp; rcases hp with rfl | rfl <;> exact fun v w w' h hb => Rd.below h hb (Nat.le_refl _))) (AV_V _ _) ?_
        intro vs hvs
        (refine wpF_ex ?_; apply Exists.intro; apply Exists.intro; refine ⟨fun wx hwx K Qp hK => ?_, ?_, rfl, rfl, ?_⟩; (have d0 := bl_get hwx.1 c0; have d1 := bl_get hwx.1 c1; have d2 := bl_get hwx.1 c2; clear hwx; go_wp2_with fail; exact hK); rfl)
        (refine wpF_valA (.bool q) rfl (hvs 1 _ rfl) ?_; apply Exists.intro; refine ⟨fun wx hwx K Qp hK => ?_, ?_, rfl, ?_⟩; (clear hwx; go_wp2_with fail; refine ((right_any _ _ _ _).mono (fun e w' h => show e = .returned (.bool q) ∧ _ from ⟨by rw [HQ.out]; exact h.1, h.2⟩)).mono ?_; rintro e w' ⟨rfl, hb⟩; exact hK _ hb); rfl)
        (refine wpF_ex ?_; apply Exists.intro; apply Exists.intro; refine ⟨fun wx hwx K Qp hK => ?_, ?_, rfl, rfl, ?_⟩; (have d0 := bl_get hwx.1 c0; have d1 := bl_get hwx.1 c1; have d2 := bl_get hwx.1 c2; clear hwx; go_wp2_with fail; exact hK); rfl)
        (refine wpF_valA (.bool q) rfl (hvs 3 _ rfl) ?_; apply Exists.intro; refine ⟨fun wx hwx K Qp hK => ?_, ?_, rfl, ?_⟩; (clear hwx; go_wp2_with fail; refine ((refRight_any _ _ _ _).mono (fun e w' h => show e = .returned (.bool q) ∧ _ from ⟨by rw [HQ.out]; exact h.1, h.2⟩)).mono ?_; rintro e w' ⟨rfl, hb⟩; exact hK _ hb); rfl)
        (refine wpF_ex ?_; apply Exists.intro; apply Exists.intro; refine ⟨fun wx hwx K Qp hK => ?_, ?_, rfl, rfl, ?_⟩; (clear hwx; go_wp2_with fail; exact hK); rfl)
        (refine wpF_ex ?_; apply Exists.intro; apply Exists.intro; refine ⟨fun wx hwx K Qp hK => ?_, ?_, rfl, rfl, ?_⟩; (clear hwx; go_wp2_with fail; exact hK); rfl)
        (refine wpF_ex ?_; apply Exists.intro; apply Exists.intro; refine ⟨fun wx hwx K Qp hK => ?_, ?_, rfl, rfl, ?_⟩; (clear hwx; go_wp2_with fail; exact hK); rfl)
        (refine wpF_ex ?_; apply Exists.intro; apply Exists.intro; refine ⟨fun wx hwx K Qp hK => ?_, ?_, rfl, rfl, ?_⟩; (have d0 := bl_get hwx.1 c0; have d1 := bl_get hwx.1 c1; have d2 := bl_get hwx.1 c2; clear hwx; go_wp2_with fail; exact hK); rfl)
        (refine wpF_ex ?_; apply Exists.intro; apply Exists.intro; refine ⟨fun wx hwx K Qp hK => ?_, ?_, rfl, rfl, ?_⟩; (clear hwx; go_wp2_with fail; exact hK); rfl)
        (refine wpF_ex ?_; apply Exists.intro; apply Exists.intro; refine ⟨fun wx hwx K Qp hK => ?_, ?_, rfl, rfl, ?_⟩; (clear hwx; go_wp2_with fail; exact hK); rfl)
        (refine wpF_newx _ rfl ?_; apply Exists.intro; refine ⟨fun wx hwx K Qp hK => ?_, rfl, rfl, ?_⟩; (have hv9 := hv.below hwx.1 (Nat.le_refl _); clear hwx; go_wp2_with fail; refine (fixAll_any _ xs m s z lo hi _ hv9 (by omega) HB.out m0 m1 z0 z1 l0 l1 k0 k1).mono ?_; rintro e w' ⟨u, rfl, ho, hb⟩; exact hK _ _ hb ho.rd))
        (refine wpF_ex ?_; apply Exists.intro; apply Exists.intro; refine ⟨fun wx hwx K Qp hK => ?_, ?_, rfl, rfl, ?_⟩; (clear hwx; go_wp2_with fail; exact hK); rfl)
        (refine wpF_ex ?_; apply Exists.intro; apply Exists.intro; refine ⟨fun wx hwx K Qp hK => ?_, ?_, rfl, rfl, ?_⟩; (have d0 := bl_get hwx.1 c0; have d1 := bl_get hwx.1 c1; have d2 := bl_get hwx.1 c2; clear hwx; go_wp2_with fail; exact hK); rfl)
        (refine wpF_ex ?_; apply Exists.intro; apply Exists.intro; refine ⟨fun wx hwx K Qp hK => ?_, ?_, rfl, rfl, ?_⟩; (clear hwx; go_wp2_with fail; exact hK); rfl)
        (refine wpF_ex ?_; apply Exists.intro; apply Exists.intro; refine ⟨fun wx hwx K Qp hK => ?_, ?_, rfl, rfl, ?_⟩; (clear hwx; go_wp2_with fail; exact hK); rfl)
        (refine wpF_newx _ rfl ?_; apply Exists.intro; refine ⟨fun wx hwx K Qp hK => ?_, rfl, rfl, ?_⟩; (have hv9 := hv.below hwx.1 (Nat.le_refl _); clear hwx; go_wp2_with fail; refine (refAll_any _ xs m s z lo hi _ hv9 (by omega) HB.out m0 m1 z0 z1 l0 l1 k0 k1).mono ?_; rintro e w' ⟨u, rfl, ho, hb⟩; exact hK _ _ hb ho.rd))
        (refine wpF_valA (.bool true) rfl (hvs 16 _ rfl) ?_; apply Exists.intro; refine ⟨fun wx hwx K Qp hK => ?_, ?_, rfl, ?_⟩; (have r15 := hwx.2 _ List.mem_cons_self (by kernel_rfl); have r10 := hwx.2 _ (List.mem_cons_of_mem _ List.mem_cons_self) (by kernel_rfl); clear hwx; go_wp2_with fail; refine (same8_eq _ _ (heldL xs m s z lo hi) _ r10 r15 hhl).mono ?_; rintro e w' ⟨rfl, n, rfl⟩; exact hK _ bl_drewN); rfl)
        (refine wpF_ex ?_; apply Exists.intro; apply Exists.intro; refine ⟨fun wx hwx K Qp hK => ?_, ?_, rfl, rfl, ?_⟩; (clear hwx; go_wp2_with fail; exact hK); rfl)
        (refine wpF_ex ?_; apply Exists.intro; apply Exists.intro; refine ⟨fun wx hwx K Qp hK => ?_, ?_, rfl, rfl, ?_⟩; (clear hwx; go_wp2_with fail; exact hK); rfl)
        (refine wpF_valA (.bool true) rfl (hvs 19 _ rfl) ?_; apply Exists.intro; refine ⟨fun wx hwx K Qp hK => ?_, ?_, rfl, ?_⟩; (clear hwx; go_wp2_with fail; refine (known02_any _).mono ?_; rintro e w' ⟨rfl, hb⟩; exact hK _ hb); rfl)
        (refine wpF_ex ?_; apply Exists.intro; apply Exists.intro; refine ⟨fun wx hwx K Qp hK => ?_, ?_, rfl, rfl, ?_⟩; (clear hwx; go_wp2_with fail; exact hK); rfl)
        (refine wpF_ex ?_; apply Exists.intro; apply Exists.intro; refine ⟨fun wx hwx K Qp hK => ?_, ?_, rfl, rfl, ?_⟩; (clear hwx; go_wp2_with fail; exact hK); rfl)
        refine wpF_nil ?_
        intro w9 hb9 _
        go_wp2
        go_ret
        exact ⟨rfl, bl_step hbr hb9⟩
  · go_enter Try.func6, Try.ntmps6
    go_wp2_with fail
    refine (known02_any _).mono ?_
    rintro e w1 ⟨rfl, hb1⟩
    go_wp2
    go_ret
    exact ⟨rfl, bl_step hwb hb1⟩
end Go.Proofs.Ytolpecacibmkjaa
