/- Sums as numbers, one number as another one: by the program and by the document. No condition. -/
import Derived.Test.YtolpecacibmkjaaTensor
import Derived.Test.YtolpecacibmkjaaNodeA
import Derived.Test.YtolpecacibmkjaaFixH
namespace Go.Proofs.Ytolpecacibmkjaa
open Go.RowKit

set_option maxHeartbeats 800000 in
set_option maxRecDepth 100000 in
theorem tRight_any (u : Value) (T : Tns) (ok : T.Ok) (w : World) (h : TnV .i8 w u T) :
    Calls Try.prog 57 #[u] w fun e w' => e = .returned (.bool (tRight T)) ∧ Below w.heap.size w w' := by
  obtain ⟨v, rfl, hv⟩ := h
  obtain ⟨a, c, rfl, hle, hm, ha⟩ := hv.ints
  obtain ⟨E0, E1⟩ := elems_bd T.h T.x T.c
  have HT : Hid (tRight T = (decide (0 < elems T.h T.x T.c) && decide (elems T.h T.x T.c = (T.d.length : Int)))) := rfl
  go_enter Try.func57, Try.ntmps57
  go_wp2_with fail
  refine (elems_any T.h T.x T.c _ ok.h0 ok.h1 ok.x0 ok.x1 ok.c0 ok.c1).mono ?_
  rintro e w1 ⟨rfl, hb1⟩
  obtain ⟨hA, hb, hs⟩ := blk1 hb1
  have d3 := hA.cell 3
  simp only [List.getElem?_toArray, List.getElem?_cons_zero, List.getElem?_cons_succ] at d3
  obtain ⟨E, hE⟩ : ∃ E, E = elems T.h T.x T.c := ⟨_, rfl⟩
  rw [← hE] at HT E0 E1 ⊢
  clear hE hb1 hA
  by_cases h0 : 0 < E
  · by_cases h1 : E = (T.d.length : Int)
    · have hq : (E == (T.d.length : Int)) = true := by rw [beq_iff_eq]; exact h1
      have HT2 : Hid (tRight T = true) := by refine Lib.hid ?_; rw [HT.out, decide_eq_true h0, decide_eq_true h1]; rfl
      clear h1
      go_wp2
      go_ret
      exact ⟨by rw [HT2.out]; rfl, hb⟩
    · have hq : (E == (T.d.length : Int)) = false := by rw [beq_eq_false_iff_ne]; exact h1
      have HT2 : Hid (tRight T = false) := by refine Lib.hid ?_; rw [HT.out]; simp [h1]
      clear h1
      go_wp2
      go_ret
      exact ⟨by rw [HT2.out]; rfl, hb⟩
  · have HT2 : Hid (tRight T = false) := by refine Lib.hid ?_; rw [HT.out]; simp [h0]
    go_wp2
    go_ret
    exact ⟨by rw [HT2.out]; rfl, hb⟩

set_option maxHeartbeats 800000 in
set_option maxRecDepth 100000 in
theorem refTRight_any (u : Value) (T : Tns) (ok : T.Ok) (w : World) (h : TnV .i8 w u T) :
    Calls Try.prog 45 #[u] w fun e w' => e = .returned (.bool (tRight T)) ∧ Below w.heap.size w w' := by
  obtain ⟨v, rfl, hv⟩ := h
  obtain ⟨a, c, rfl, hle, hm, ha⟩ := hv.ints
  obtain ⟨E0, E1⟩ := elems_bd T.h T.x T.c
  have HT : Hid (tRight T = (decide (0 < elems T.h T.x T.c) && decide (elems T.h T.x T.c = (T.d.length : Int)))) := rfl
  have HC := Lib.hid (fun wx => refElems_any T.h T.x T.c wx ok.h0 ok.h1 ok.x0 ok.x1 ok.c0 ok.c1)
  obtain ⟨E, hE⟩ : ∃ E, E = elems T.h T.x T.c := ⟨_, rfl⟩
  rw [← hE] at HT E0 E1 HC
  clear hE
  obtain ⟨hA, hb, hs⟩ := blk1 (Below.refl (w.alloc (.cells #[.int .i64 T.h, .int .i64 T.x, .int .i64 T.c, .slice a T.d.length c] 66)).heap.size _)
  have d0 := hA.cell 0
  have d1 := hA.cell 1
  have d2 := hA.cell 2
  have d3 := hA.cell 3
  simp only [List.getElem?_toArray, List.getElem?_cons_zero, List.getElem?_cons_succ] at d0 d1 d2 d3
  clear hA
  have HB := Lib.hid hb; clear hb
  by_cases h0 : 0 < E
  · have h0B : decide (0 < E) = true := by rw [decide_eq_true_eq]; exact h0
    by_cases h1 : E = (T.d.length : Int)
    · have hq : (E == (T.d.length : Int)) = true := by rw [beq_iff_eq]; exact h1
      have HT2 : Hid (tRight T = true) := by refine Lib.hid ?_; rw [HT.out, decide_eq_true h0, decide_eq_true h1]; rfl
      clear h1
      go_enter Try.func45, Try.ntmps45
      go_wp2_with fail
      refine wp_region_vals (fun i => List.lookup i [(2, .int .i64 E), (7, .int .i64 E)]) (AV [(2, .int .i64 E), (7, .int .i64 E)] []) (by kernel_rfl) (by kernel_rfl) (AV_pers _ _ (by intro p hp; cases hp)) (AV_V _ _) ?_
      intro vs hvs
      (refine wpF_ex ?_; apply Exists.intro; apply Exists.intro; refine ⟨fun wx hwx K Qp hK => ?_, ?_, rfl, rfl, ?_⟩; (clear hwx; go_wp2_with fail; exact hK); rfl)
      (refine wpF_ex ?_; apply Exists.intro; apply Exists.intro; refine ⟨fun wx hwx K Qp hK => ?_, ?_, rfl, rfl, ?_⟩; (have q0 := bl_get hwx.1 d0; have q1 := bl_get hwx.1 d1; have q2 := bl_get hwx.1 d2; clear hwx; go_wp2_with fail; exact hK); rfl)
      (refine wpF_valA (.int .i64 E) rfl (hvs 2 _ rfl) ?_; apply Exists.intro; refine ⟨fun wx hwx K Qp hK => ?_, ?_, rfl, ?_⟩; (clear hwx; go_wp2_with fail; refine (HC.out _).mono ?_; rintro e w' ⟨rfl, hb⟩; exact hK _ hb); rfl)
      (refine wpF_ex ?_; apply Exists.intro; apply Exists.intro; refine ⟨fun wx hwx K Qp hK => ?_, ?_, rfl, rfl, ?_⟩; (clear hwx; go_wp2_with fail; exact hK); rfl)
      (refine wpF_ex ?_; apply Exists.intro; apply Exists.intro; refine ⟨fun wx hwx K Qp hK => ?_, ?_, rfl, rfl, ?_⟩; (clear hwx; go_wp2_with fail; exact hK); rfl)
      (refine wpF_ex ?_; apply Exists.intro; apply Exists.intro; refine ⟨fun wx hwx K Qp hK => ?_, ?_, rfl, rfl, ?_⟩; (clear hwx; go_wp2_with fail; exact hK); rfl)
      (refine wpF_ex ?_; apply Exists.intro; apply Exists.intro; refine ⟨fun wx hwx K Qp hK => ?_, ?_, rfl, rfl, ?_⟩; (have q0 := bl_get hwx.1 d0; have q1 := bl_get hwx.1 d1; have q2 := bl_get hwx.1 d2; clear hwx; go_wp2_with fail; exact hK); rfl)
      (refine wpF_valA (.int .i64 E) rfl (hvs 7 _ rfl) ?_; apply Exists.intro; refine ⟨fun wx hwx K Qp hK => ?_, ?_, rfl, ?_⟩; (clear hwx; go_wp2_with fail; refine (HC.out _).mono ?_; rintro e w' ⟨rfl, hb⟩; exact hK _ hb); rfl)
      (refine wpF_ex ?_; apply Exists.intro; apply Exists.intro; refine ⟨fun wx hwx K Qp hK => ?_, ?_, rfl, rfl, ?_⟩; (clear hwx; go_wp2_with fail; exact hK); rfl)
      (refine wpF_ex ?_; apply Exists.intro; apply Exists.intro; refine ⟨fun wx hwx K Qp hK => ?_, ?_, rfl, rfl, ?_⟩; (have q3 := bl_get hwx.1 d3; clear hwx; go_wp2_with fail; exact hK); rfl)
      (refine wpF_ex ?_; apply Exists.intro; apply Exists.intro; refine ⟨fun wx hwx K Qp hK => ?_, ?_, rfl, rfl, ?_⟩; (clear hwx; go_wp2_with fail; exact hK); rfl)
      (refine wpF_ex ?_; apply Exists.intro; apply Exists.intro; refine ⟨fun wx hwx K Qp hK => ?_, ?_, rfl, rfl, ?_⟩; (clear hwx; go_wp2_with fail; exact hK); rfl)
      (refine wpF_ex ?_; apply Exists.intro; apply Exists.intro; refine ⟨fun wx hwx K Qp hK => ?_, ?_, rfl, rfl, ?_⟩; (clear hwx; go_wp2_with fail; exact hK); rfl)
      (refine wpF_ex ?_; apply Exists.intro; apply Exists.intro; refine ⟨fun wx hwx K Qp hK => ?_, ?_, rfl, rfl, ?_⟩; (clear hwx; go_wp2_with fail; exact hK); rfl)
      refine wpF_nil ?_
      intro w9 hb9 hp9
      go_wp2
      go_ret
      exact ⟨by rw [HT2.out]; rfl, HB.out.trans (hb9.mono (by simp))⟩
    · have hq : (E == (T.d.length : Int)) = false := by rw [beq_eq_false_iff_ne]; exact h1
      have HT2 : Hid (tRight T = false) := by refine Lib.hid ?_; rw [HT.out]; simp [h1]
      clear h1
      go_enter Try.func45, Try.ntmps45
      go_wp2_with fail
      refine wp_region_vals (fun i => List.lookup i [(2, .int .i64 E), (7, .int .i64 E)]) (AV [(2, .int .i64 E), (7, .int .i64 E)] []) (by kernel_rfl) (by kernel_rfl) (AV_pers _ _ (by intro p hp; cases hp)) (AV_V _ _) ?_
      intro vs hvs
      (refine wpF_ex ?_; apply Exists.intro; apply Exists.intro; refine ⟨fun wx hwx K Qp hK => ?_, ?_, rfl, rfl, ?_⟩; (clear hwx; go_wp2_with fail; exact hK); rfl)
      (refine wpF_ex ?_; apply Exists.intro; apply Exists.intro; refine ⟨fun wx hwx K Qp hK => ?_, ?_, rfl, rfl, ?_⟩; (have q0 := bl_get hwx.1 d0; have q1 := bl_get hwx.1 d1; have q2 := bl_get hwx.1 d2; clear hwx; go_wp2_with fail; exact hK); rfl)
      (refine wpF_valA (.int .i64 E) rfl (hvs 2 _ rfl) ?_; apply Exists.intro; refine ⟨fun wx hwx K Qp hK => ?_, ?_, rfl, ?_⟩; (clear hwx; go_wp2_with fail; refine (HC.out _).mono ?_; rintro e w' ⟨rfl, hb⟩; exact hK _ hb); rfl)
      (refine wpF_ex ?_; apply Exists.intro; apply Exists.intro; refine ⟨fun wx hwx K Qp hK => ?_, ?_, rfl, rfl, ?_⟩; (clear hwx; go_wp2_with fail; exact hK); rfl)
      (refine wpF_ex ?_; apply Exists.intro; apply Exists.intro; refine ⟨fun wx hwx K Qp hK => ?_, ?_, rfl, rfl, ?_⟩; (clear hwx; go_wp2_with fail; exact hK); rfl)
      (refine wpF_ex ?_; apply Exists.intro; apply Exists.intro; refine ⟨fun wx hwx K Qp hK => ?_, ?_, rfl, rfl, ?_⟩; (clear hwx; go_wp2_with fail; exact hK); rfl)
      (refine wpF_ex ?_; apply Exists.intro; apply Exists.intro; refine ⟨fun wx hwx K Qp hK => ?_, ?_, rfl, rfl, ?_⟩; (have q0 := bl_get hwx.1 d0; have q1 := bl_get hwx.1 d1; have q2 := bl_get hwx.1 d2; clear hwx; go_wp2_with fail; exact hK); rfl)
      (refine wpF_valA (.int .i64 E) rfl (hvs 7 _ rfl) ?_; apply Exists.intro; refine ⟨fun wx hwx K Qp hK => ?_, ?_, rfl, ?_⟩; (clear hwx; go_wp2_with fail; refine (HC.out _).mono ?_; rintro e w' ⟨rfl, hb⟩; exact hK _ hb); rfl)
      (refine wpF_ex ?_; apply Exists.intro; apply Exists.intro; refine ⟨fun wx hwx K Qp hK => ?_, ?_, rfl, rfl, ?_⟩; (clear hwx; go_wp2_with fail; exact hK); rfl)
      (refine wpF_ex ?_; apply Exists.intro; apply Exists.intro; refine ⟨fun wx hwx K Qp hK => ?_, ?_, rfl, rfl, ?_⟩; (have q3 := bl_get hwx.1 d3; clear hwx; go_wp2_with fail; exact hK); rfl)
      (refine wpF_ex ?_; apply Exists.intro; apply Exists.intro; refine ⟨fun wx hwx K Qp hK => ?_, ?_, rfl, rfl, ?_⟩; (clear hwx; go_wp2_with fail; exact hK); rfl)
      (refine wpF_ex ?_; apply Exists.intro; apply Exists.intro; refine ⟨fun wx hwx K Qp hK => ?_, ?_, rfl, rfl, ?_⟩; (clear hwx; go_wp2_with fail; exact hK); rfl)
      (refine wpF_ex ?_; apply Exists.intro; apply Exists.intro; refine ⟨fun wx hwx K Qp hK => ?_, ?_, rfl, rfl, ?_⟩; (clear hwx; go_wp2_with fail; exact hK); rfl)
      (refine wpF_ex ?_; apply Exists.intro; apply Exists.intro; refine ⟨fun wx hwx K Qp hK => ?_, ?_, rfl, rfl, ?_⟩; (clear hwx; go_wp2_with fail; exact hK); rfl)
      refine wpF_nil ?_
      intro w9 hb9 hp9
      go_wp2
      go_ret
      exact ⟨by rw [HT2.out]; rfl, HB.out.trans (hb9.mono (by simp))⟩
  · have h0B : decide (0 < E) = false := by rw [decide_eq_false_iff_not]; exact h0
    have HT2 : Hid (tRight T = false) := by refine Lib.hid ?_; rw [HT.out]; simp [h0]
    go_enter Try.func45, Try.ntmps45
    go_wp2_with fail
    refine wp_region_vals (fun i => List.lookup i [(2, .int .i64 E), (7, undef)]) (AV [(2, .int .i64 E), (7, undef)] []) (by kernel_rfl) (by kernel_rfl) (AV_pers _ _ (by intro p hp; cases hp)) (AV_V _ _) ?_
    intro vs hvs
    (refine wpF_ex ?_; apply Exists.intro; apply Exists.intro; refine ⟨fun wx hwx K Qp hK => ?_, ?_, rfl, rfl, ?_⟩; (clear hwx; go_wp2_with fail; exact hK); rfl)
    (refine wpF_ex ?_; apply Exists.intro; apply Exists.intro; refine ⟨fun wx hwx K Qp hK => ?_, ?_, rfl, rfl, ?_⟩; (have q0 := bl_get hwx.1 d0; have q1 := bl_get hwx.1 d1; have q2 := bl_get hwx.1 d2; clear hwx; go_wp2_with fail; exact hK); rfl)
    (refine wpF_valA (.int .i64 E) rfl (hvs 2 _ rfl) ?_; apply Exists.intro; refine ⟨fun wx hwx K Qp hK => ?_, ?_, rfl, ?_⟩; (clear hwx; go_wp2_with fail; refine (HC.out _).mono ?_; rintro e w' ⟨rfl, hb⟩; exact hK _ hb); rfl)
    (refine wpF_ex ?_; apply Exists.intro; apply Exists.intro; refine ⟨fun wx hwx K Qp hK => ?_, ?_, rfl, rfl, ?_⟩; (clear hwx; go_wp2_with fail; exact hK); rfl)
    (refine wpF_ex ?_; apply Exists.intro; apply Exists.intro; refine ⟨fun wx hwx K Qp hK => ?_, ?_, rfl, rfl, ?_⟩; (clear hwx; go_wp2_with fail; exact hK); rfl)
    (refine wpF_nox ?_; apply Exists.intro; refine ⟨?_, rfl, ?_⟩; (go_simp; rfl))
    (refine wpF_nox ?_; apply Exists.intro; refine ⟨?_, rfl, ?_⟩; (go_simp; rfl))
    (refine wpF_nox ?_; apply Exists.intro; refine ⟨?_, rfl, ?_⟩; (go_simp; rfl))
    (refine wpF_nox ?_; apply Exists.intro; refine ⟨?_, rfl, ?_⟩; (go_simp; rfl))
    (refine wpF_nox ?_; apply Exists.intro; refine ⟨?_, rfl, ?_⟩; (go_simp; rfl))
    (refine wpF_nox ?_; apply Exists.intro; refine ⟨?_, rfl, ?_⟩; (go_simp; rfl))
    (refine wpF_nox ?_; apply Exists.intro; refine ⟨?_, rfl, ?_⟩; (go_simp; rfl))
    (refine wpF_ex ?_; apply Exists.intro; apply Exists.intro; refine ⟨fun wx hwx K Qp hK => ?_, ?_, rfl, rfl, ?_⟩; (clear hwx; go_wp2_with fail; exact hK); rfl)
    (refine wpF_ex ?_; apply Exists.intro; apply Exists.intro; refine ⟨fun wx hwx K Qp hK => ?_, ?_, rfl, rfl, ?_⟩; (clear hwx; go_wp2_with fail; exact hK); rfl)
    refine wpF_nil ?_
    intro w9 hb9 hp9
    go_wp2
    go_ret
    exact ⟨by rw [HT2.out]; rfl, HB.out.trans (hb9.mono (by simp))⟩
end Go.Proofs.Ytolpecacibmkjaa
