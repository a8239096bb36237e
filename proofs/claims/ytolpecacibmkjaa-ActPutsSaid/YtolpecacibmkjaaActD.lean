/- Sums as numbers: by the document. No condition. -/
import Derived.Test.YtolpecacibmkjaaActC
import Derived.Outline
namespace Go.Proofs.Ytolpecacibmkjaa
open Go.RowKit

set_option maxHeartbeats 1600000 in
set_option maxRecDepth 100000 in
theorem refActPut_any (u : Value) (T : Tns) (ok : T.Ok) (n : Nd) (okn : n.Ok) (w : World) (h : TnV .i32 w u T) (hb32 : ∀ x ∈ T.d, -2147483648 ≤ x ∧ x ≤ 2147483647) (hlen : T.d.length ≤ 1000000) :
    Calls Try.prog 39 #[u, .agg n.cs] w fun e w' => ∃ r, e = .returned (.tuple #[r, .int .i64 (put21 T n).2]) ∧ TnV .i8 w' r (put21 T n).1 ∧ Below w.heap.size w w' := by
  obtain ⟨v, rfl, hv⟩ := h
  obtain ⟨a, c, rfl, hle, hm, ha⟩ := hv.ints
  obtain ⟨E0, E1⟩ := elems_bd T.h T.x T.c
  have HP : Hid (put21 T n = if elems T.h T.x T.c = 0 ∨ elems T.h T.x T.c ≠ (T.d.length : Int) then (Tns.none, 5) else if rightQ n.qm n.qs = false then (Tns.none, 7) else (⟨T.h, T.x, T.c, heldL T.d n.qm n.qs n.qz n.lo n.hi⟩, 0)) := rfl
  obtain ⟨P, hPe⟩ : ∃ P, P = put21 T n := ⟨_, rfl⟩
  rw [← hPe] at HP ⊢
  clear hPe
  have HC := Lib.hid (fun wx => refElems_any T.h T.x T.c wx ok.h0 ok.h1 ok.x0 ok.x1 ok.c0 ok.c1)
  have hb1 := Below.refl (((w.alloc (.cells #[.int .i64 T.h, .int .i64 T.x, .int .i64 T.c, .slice a T.d.length c] 64)).alloc (.cells n.cs 51)).alloc (.cells #[.int .i64 0, .int .i64 0, .int .i64 0, .slice none 0 0] 66)).heap.size (((w.alloc (.cells #[.int .i64 T.h, .int .i64 T.x, .int .i64 T.c, .slice a T.d.length c] 64)).alloc (.cells n.cs 51)).alloc (.cells #[.int .i64 0, .int .i64 0, .int .i64 0, .slice none 0 0] 66))
  obtain ⟨hA, hN, hR, hb, hs⟩ := blk3 hb1
  obtain ⟨w1, hw1⟩ : ∃ w1, w1 = ((w.alloc (.cells #[.int .i64 T.h, .int .i64 T.x, .int .i64 T.c, .slice a T.d.length c] 64)).alloc (.cells n.cs 51)).alloc (.cells #[.int .i64 0, .int .i64 0, .int .i64 0, .slice none 0 0] 66) := ⟨_, rfl⟩
  rw [← hw1] at hA hN hR hb hs
  have HW1 := Lib.hid hw1; clear hw1
  have hn : NdAt w1 (w.heap.size + 1) n := fun i v hv => by rw [hN.cell i]; exact hv
  have d0 := hA.cell 0
  have d1 := hA.cell 1
  have d2 := hA.cell 2
  have d3 := hA.cell 3
  simp only [List.getElem?_toArray, List.getElem?_cons_zero, List.getElem?_cons_succ] at d0 d1 d2 d3
  have c11 := hn 11 (.int .i32 n.qm) rfl
  have c12 := hn 12 (.int .i64 n.qs) rfl
  have c13 := hn 13 (.int .i8 n.qz) rfl
  obtain ⟨E, hE⟩ : ∃ E, E = elems T.h T.x T.c := ⟨_, rfl⟩
  rw [← hE] at HP E0 E1 HC
  have HR := Lib.hid hR
  clear hE hb1 hA hN hR
  by_cases h0 : E = 0
  · subst h0
    have HP2 : Hid (P = (Tns.none, 5)) := by refine Lib.hid ?_; rw [HP.out, if_pos (.inl rfl)]
    go_enter Try.func39, Try.ntmps39
    go_wp2_with fail
    rw [← HW1.out]
    refine wp_region_vals (fun i => List.lookup i [(2, .int .i64 (0 : Int)), (7, undef)]) (AV [(2, .int .i64 (0 : Int)), (7, undef)] []) (by kernel_rfl) (by kernel_rfl) (AV_pers _ _ (by intro p hp; cases hp)) (AV_V _ _) ?_
    intro vs hvs
    (refine wpF_ex ?_; apply Exists.intro; apply Exists.intro; refine ⟨fun wx hwx K Qp hK => ?_, ?_, rfl, rfl, ?_⟩; (clear hwx; go_wp2_with fail; exact hK); rfl)
    (refine wpF_ex ?_; apply Exists.intro; apply Exists.intro; refine ⟨fun wx hwx K Qp hK => ?_, ?_, rfl, rfl, ?_⟩; (have q0 := bl_get hwx.1 d0; have q1 := bl_get hwx.1 d1; have q2 := bl_get hwx.1 d2; clear hwx; go_wp2_with fail; exact hK); rfl)
    (refine wpF_valA (.int .i64 (0 : Int)) rfl (hvs 2 _ rfl) ?_; apply Exists.intro; refine ⟨fun wx hwx K Qp hK => ?_, ?_, rfl, ?_⟩; (clear hwx; go_wp2_with fail; refine (HC.out _).mono ?_; rintro e w' ⟨rfl, hb⟩; exact hK _ hb); rfl)
    (refine wpF_ex ?_; apply Exists.intro; apply Exists.intro; refine ⟨fun wx hwx K Qp hK => ?_, ?_, rfl, rfl, ?_⟩; (clear hwx; go_wp2_with fail; exact hK); rfl)
    (refine wpF_ex ?_; apply Exists.intro; apply Exists.intro; refine ⟨fun wx hwx K Qp hK => ?_, ?_, rfl, rfl, ?_⟩; (clear hwx; go_wp2_with fail; exact hK); rfl)
    (refine wpF_nox ?_; apply Exists.intro; refine ⟨?_, rfl, ?_⟩; (go_simp; rfl))
    (refine wpF_nox ?_; apply Exists.intro; refine ⟨?_, rfl, ?_⟩; (go_simp; rfl))
    (refine wpF_nox ?_; apply Exists.intro; refine ⟨?_, rfl, ?_⟩; (go_simp; rfl))
    (refine wpF_nox ?_; apply Exists.intro; refine ⟨?_, rfl, ?_⟩; (go_simp; rfl))
    (refine wpF_nox ?_; apply Exists.intro; refine ⟨?_, rfl, ?_⟩; (go_simp; rfl))
    (refine wpF_nox ?_; apply Exists.intro; refine ⟨?_, rfl, ?_⟩; (go_simp; rfl))
    (refine wpF_nox ?_; apply Exists.intro; refine ⟨?_, rfl, ?_⟩; (go_simp; rfl))
    (refine wpF_ex ?_; apply Exists.intro; apply Exists.intro; refine ⟨fun wx hwx K Qp hK => ?_, ?_, rfl, rfl, ?_⟩; (clear hwx; go_wp2_with fail; exact hK); rfl)
    refine wpF_nil ?_
    intro w9 hb9 hp9
    have HR1 := Lib.hid (HR.out.below hb9 HR.out.lt)
    have hbw1 : Below w.heap.size w w9 := hb.trans (hb9.mono (by omega))
    go_wp2_with (refine wpList_store_row rfl 66 _ _ rfl _ _ rfl rfl _ _ HR1.out (by kernel_rfl) rfl (by simp [Value.oneCell']) ?_)
    refine bodyPost_ret (v := .tuple #[.agg #[.int .i64 0, .int .i64 0, .int .i64 0, .slice none 0 0], .int .i64 5]) ?_ rfl ?_
    · exact results_row_tmp rfl _ _ (w.heap.size + 2) 66 #[.int .i64 0, .int .i64 0, .int .i64 0, .slice none 0 0] (0, 0) _ _ rfl rfl (HR1.out.row _) Try.underlying66 rfl (by kernel_rfl)
    · exact ⟨_, by rw [HP2.out], by rw [HP2.out]; exact TnV.none _ _, bl_row hbw1 (by omega) _⟩
  · by_cases hl : E = (T.d.length : Int)
    · have hz : (E == 0) = false := by rw [beq_eq_false_iff_ne]; exact h0
      have hln : (E != (T.d.length : Int)) = false := by rw [hl]; simp
      have hln' : (E == (T.d.length : Int)) = true := by rw [hl]; simp
      have HL := Lib.hid hl
      have HP1 : Hid (P = if rightQ n.qm n.qs = false then (Tns.none, 7) else (⟨T.h, T.x, T.c, heldL T.d n.qm n.qs n.qz n.lo n.hi⟩, 0)) := by
        refine Lib.hid ?_; rw [HP.out, if_neg (by rintro (h | h); exact h0 h; exact h hl)]
      clear hl h0
      go_enter Try.func39, Try.ntmps39
      go_wp2_with fail
      rw [← HW1.out]
      refine wp_region_vals (fun i => List.lookup i [(2, .int .i64 E), (7, .int .i64 E)]) (AV [(2, .int .i64 E), (7, .int .i64 E)] []) (by kernel_rfl) (by kernel_rfl) (AV_pers _ _ (by intro p hp; cases hp)) (AV_V _ _) ?_
      intro vs hvs
      (refine wpF_ex ?_; apply Exists.intro; apply Exists.intro; refine ⟨fun wx hwx K Qp hK => ?_, ?_, rfl, rfl, ?_⟩; (clear hwx; go_wp2_with fail; exact hK); rfl)
      (refine wpF_ex ?_; apply Exists.intro; apply Exists.intro; refine ⟨fun wx hwx K Qp hK => ?_, ?_, rfl, rfl, ?_⟩; (have q0 := bl_get hwx.1 d0; have q1 := bl_get hwx.1 d1; have q2 := bl_get hwx.1 d2; clear hwx; go_wp2_with fail; exact hK); rfl)
      (refine wpF_valA (.int .i64 E) rfl (hvs 2 _ rfl) ?_; apply Exists.intro; refine ⟨fun wx hwx K Qp hK => ?_, ?_, rfl, ?_⟩; (clear hwx; go_wp2_with fail; refine (HC.out _).mono ?_; rintro e w' ⟨rfl, hb⟩; exact hK _ hb); rfl)
      (refine wpF_ex ?_; apply Exists.intro; apply Exists.intro; refine ⟨fun wx hwx K Qp hK => ?_, ?_, rfl, rfl, ?_⟩; (clear hwx; go_wp2_with fail; exact hK); rfl)
      (refine wpF_ex ?_; apply Exists.intro; apply Exists.intro; refine ⟨fun wx hwx K Qp hK => ?_, ?_, rfl, rfl, ?_⟩; (clear hwx; go_wp2_with fail; exact hK); rfl)
      (refine wpF_ex ?_; apply Exists.intro; apply Exists.intro; refine ⟨fun wx hwx K Qp hK => ?_, ?_, rfl, rfl, ?_⟩; (clear hwx; go_wp2_with fail; exact hK); rfl)
      (refine wpF_ex ?_; apply Exists.intro; apply Exists.intro; refine ⟨fun wx hwx K Qp hK => ?_, ?_, rfl, rfl, ?_⟩; (have q0 := bl_get hwx.1 d0; have q1 := bl_get hwx.1 d1; have q2 := bl_get hwx.1 d2; clear hwx; go_wp2_with fail; exact hK); rfl)
      (refine wpF_valA (.int .i64 E) rfl (hvs 7 _ rfl) ?_; apply Exists.intro; refine ⟨fun wx hwx K Qp hK => ?_, ?_, rfl, ?_⟩; (clear hwx; go_wp2_with fail; refine (HC.out _).mono ?_; rintro e w' ⟨rfl, hb⟩; exact hK _ hb); rfl)
      (refine wpF_ex ?_; apply Exists.intro; apply Exists.intro; refine ⟨fun wx hwx K Qp hK => ?_, ?_, rfl, rfl, ?_⟩; (clear hwx; go_wp2_with fail; exact hK); rfl)
      (refine wpF_ex ?_; apply Exists.intro; apply Exists.intro; refine ⟨fun wx hwx K Qp hK => ?_, ?_, rfl, rfl, ?_⟩; (have q3 := bl_get hwx.1 d3; clear hwx; go_wp2_with fail; exact hK); rfl)
      (refine wpF_ex ?_; apply Exists.intro; apply Exists.intro; refine ⟨fun wx hwx K Qp hK => ?_, ?_, rfl, rfl, ?_⟩; (clear hwx; go_wp2_with fail; exact hK); rfl)
      (refine wpF_ex ?_; apply Exists.intro; apply Exists.intro; refine ⟨fun wx hwx K Qp hK => ?_, ?_, rfl, rfl, ?_⟩; (clear hwx; go_wp2_with fail; exact hK); rfl)
      (refine wpF_ex ?_; apply Exists.intro; apply Exists.intro; refine ⟨fun wx hwx K Qp hK => ?_, ?_, rfl, rfl, ?_⟩; (clear hwx; go_wp2_with fail; exact hK); rfl)
      refine wpF_nil ?_
      intro w9 hb9 hp9
      have HR1 := Lib.hid (HR.out.below hb9 HR.out.lt)
      have hbw1 : Below w.heap.size w w9 := hb.trans (hb9.mono (by omega))
      have f0 := bl_get hb9 d0
      have f1 := bl_get hb9 d1
      have f2 := bl_get hb9 d2
      have f3 := bl_get hb9 d3
      have hn9 := hn.below hb9
      have k11 := hn9 11 (.int .i32 n.qm) rfl
      have k12 := hn9 12 (.int .i64 n.qs) rfl
      have k13 := hn9 13 (.int .i8 n.qz) rfl
      have hs9 := Nat.le_trans hs hb9.size
      clear d0 d1 d2 d3 c11 c12 c13 hn hb9 hp9
      go_wp2_with fail
      refine (refRight_any n.qm n.qs n.qz _).mono ?_
      rintro e w2 ⟨rfl, hb2⟩
      have HR2 := Lib.hid (HR1.out.below hb2 HR1.out.lt)
      have hbw2 : Below w.heap.size w w2 := bl_step hbw1 hb2
      have hs2 := Nat.le_trans hs9 hb2.size
      cases hq : rightQ n.qm n.qs with
      | false =>
        have HP2 : Hid (P = (Tns.none, 7)) := by refine Lib.hid ?_; rw [HP1.out, if_pos hq]
        clear hq
        go_wp2_with (refine wpList_store_row rfl 66 _ _ rfl _ _ rfl rfl _ _ HR2.out (by kernel_rfl) rfl (by simp [Value.oneCell']) ?_)
        refine bodyPost_ret (v := .tuple #[.agg #[.int .i64 0, .int .i64 0, .int .i64 0, .slice none 0 0], .int .i64 7]) ?_ rfl ?_
        · exact results_row_tmp rfl _ _ (w.heap.size + 2) 66 #[.int .i64 0, .int .i64 0, .int .i64 0, .slice none 0 0] (0, 0) _ _ rfl rfl (HR2.out.row _) Try.underlying66 rfl (by kernel_rfl)
        · exact ⟨_, by rw [HP2.out], by rw [HP2.out]; exact TnV.none _ _, bl_row hbw2 (by omega) _⟩
      | true =>
        have HP2 : Hid (P = (⟨T.h, T.x, T.c, heldL T.d n.qm n.qs n.qz n.lo n.hi⟩, 0)) := by refine Lib.hid ?_; rw [HP1.out, if_neg (by rw [hq]; simp)]
        clear hq
        have hn2 := hn9.below hb2
        have e0 := bl_get hb2 f0
        have e1 := bl_get hb2 f1
        have e2 := bl_get hb2 f2
        have e3 := bl_get hb2 f3
        have q11 := hn2 11 (.int .i32 n.qm) rfl
        have q12 := hn2 12 (.int .i64 n.qs) rfl
        have q13 := hn2 13 (.int .i8 n.qz) rfl
        have q17 := hn2 17 (.int .i8 n.lo) rfl
        have q18 := hn2 18 (.int .i8 n.hi) rfl
        have hv2 := hv.below hbw2 (Nat.le_refl _)
        obtain ⟨m0, m1⟩ := wf_i32 okn.qm
        obtain ⟨z0, z1⟩ := wf_i8 okn.qz
        obtain ⟨L0, L1⟩ := wf_i8 okn.lo
        obtain ⟨H0, H1⟩ := wf_i8 okn.hi
        have HB := Lib.hid hb32
        clear f0 f1 f2 f3 k11 k12 k13 hn9 hn2 hb32 hv ha
        go_wp2_with fail
        refine wp_region_tailA 11 (fun i => List.lookup i []) (AV [] [(10, (fun v w => Own w2.heap.size w 26 v ((heldL T.d n.qm n.qs n.qz n.lo n.hi).map (Value.int .i8))))]) (by kernel_rfl) (by kernel_rfl) (by kernel_rfl) (AV_pers _ _ (by intro p hp; simp only [List.mem_cons, List.not_mem_nil, or_false] at hp; rcases hp with rfl <;> (first | exact fun v w w' h hb => Rd.below h hb (Nat.le_refl _) | exact fun v w w' h hb => bl_one h hb | exact fun v w w' h hb => bl_oneN h hb | exact fun v w w' h hb => Own.below h hb (Nat.le_refl _)))) (AV_V _ _) ?_
        intro vs hvs
        simp only [List.take_succ_cons, List.take_zero, List.drop_succ_cons, List.drop_zero]
        (refine wpF_ex ?_; apply Exists.intro; apply Exists.intro; refine ⟨fun wx hwx K Qp hK => ?_, ?_, rfl, rfl, ?_⟩; (clear hwx; go_wp2_with fail; exact hK); rfl)
        (refine wpF_ex ?_; apply Exists.intro; apply Exists.intro; refine ⟨fun wx hwx K Qp hK => ?_, ?_, rfl, rfl, ?_⟩; (have x0 := bl_get hwx.1 e0; have x1 := bl_get hwx.1 e1; have x2 := bl_get hwx.1 e2; clear hwx; go_wp2_with fail; exact hK); rfl)
        (refine wpF_ex ?_; apply Exists.intro; apply Exists.intro; refine ⟨fun wx hwx K Qp hK => ?_, ?_, rfl, rfl, ?_⟩; (clear hwx; go_wp2_with fail; exact hK); rfl)
        (refine wpF_ex ?_; apply Exists.intro; apply Exists.intro; refine ⟨fun wx hwx K Qp hK => ?_, ?_, rfl, rfl, ?_⟩; (have x3 := bl_get hwx.1 e3; clear hwx; go_wp2_with fail; exact hK); rfl)
        (refine wpF_ex ?_; apply Exists.intro; apply Exists.intro; refine ⟨fun wx hwx K Qp hK => ?_, ?_, rfl, rfl, ?_⟩; (clear hwx; go_wp2_with fail; exact hK); rfl)
        (refine wpF_ex ?_; apply Exists.intro; apply Exists.intro; refine ⟨fun wx hwx K Qp hK => ?_, ?_, rfl, rfl, ?_⟩; (have y0 := bl_get hwx.1 q11; have y1 := bl_get hwx.1 q12; have y2 := bl_get hwx.1 q13; clear hwx; go_wp2_with fail; exact hK); rfl)
        (refine wpF_ex ?_; apply Exists.intro; apply Exists.intro; refine ⟨fun wx hwx K Qp hK => ?_, ?_, rfl, rfl, ?_⟩; (clear hwx; go_wp2_with fail; exact hK); rfl)
        (refine wpF_ex ?_; apply Exists.intro; apply Exists.intro; refine ⟨fun wx hwx K Qp hK => ?_, ?_, rfl, rfl, ?_⟩; (have y0 := bl_get hwx.1 q17; clear hwx; go_wp2_with fail; exact hK); rfl)
        (refine wpF_ex ?_; apply Exists.intro; apply Exists.intro; refine ⟨fun wx hwx K Qp hK => ?_, ?_, rfl, rfl, ?_⟩; (clear hwx; go_wp2_with fail; exact hK); rfl)
        (refine wpF_ex ?_; apply Exists.intro; apply Exists.intro; refine ⟨fun wx hwx K Qp hK => ?_, ?_, rfl, rfl, ?_⟩; (have y0 := bl_get hwx.1 q18; clear hwx; go_wp2_with fail; exact hK); rfl)
        (refine wpF_newx _ rfl ?_; apply Exists.intro; refine ⟨fun wx hwx K Qp hK => ?_, rfl, rfl, ?_⟩; (have hx1 := Lib.hid hwx.1; clear hwx; go_wp2_with fail; refine (refAll_any _ T.d n.qm n.qs n.qz n.lo n.hi _ (hv2.below hx1.out (Nat.le_refl _)) (by omega) HB.out m0 m1 z0 z1 L0 L1 H0 H1).mono ?_; rintro e w' ⟨u, rfl, ho, hb⟩; exact hK _ _ hb (ho.mono hx1.out.size)))
        refine wpF_nil ?_
        intro w9 hb9 hp9
        have hr := hp9 _ _ List.mem_cons_self
        obtain ⟨ro, rc, hrf, hr1, hr2, _⟩ := Rd.ints hr.rd
        rw [hrf] at hr ⊢
        have HR9 := Lib.hid (HR2.out.below hb9 HR2.out.lt)
        have HRR := Lib.hid hr
        have hbw9 : Below w.heap.size w w9 := bl_step hbw2 hb9
        clear hr hp9 hrf e0 e1 e2 e3 q11 q12 q13 q17 q18
        go_wp2_with (refine wpList_store_row rfl 66 _ _ rfl _ _ rfl rfl _ _ HR9.out (by kernel_rfl) rfl (by simp [Value.oneCell']) ?_)
        refine bodyPost_ret (v := .tuple #[.agg #[.int .i64 T.h, .int .i64 T.x, .int .i64 T.c, .slice ro (heldL T.d n.qm n.qs n.qz n.lo n.hi).length rc], .int .i64 0]) ?_ rfl ?_
        · exact results_row_tmp rfl _ _ (w.heap.size + 2) 66 #[.int .i64 T.h, .int .i64 T.x, .int .i64 T.c, .slice ro (heldL T.d n.qm n.qs n.qz n.lo n.hi).length rc] (0, 0) _ _ rfl rfl (HR9.out.row _) Try.underlying66 rfl (by kernel_rfl)
        · refine ⟨_, by rw [HP2.out], ?_, bl_row hbw9 (by omega) _⟩
          rw [HP2.out]
          exact ⟨_, rfl, (HRR.out.row (by omega) _).rd⟩
    · have hz : (E == 0) = false := by rw [beq_eq_false_iff_ne]; exact h0
      have hln : (E != (T.d.length : Int)) = true := by rw [bne_iff_ne]; exact hl
      have HP2 : Hid (P = (Tns.none, 5)) := by refine Lib.hid ?_; rw [HP.out, if_pos (.inr hl)]
      clear hl h0
      go_enter Try.func39, Try.ntmps39
      go_wp2_with fail
      rw [← HW1.out]
      refine wp_region_vals (fun i => List.lookup i [(2, .int .i64 E), (7, .int .i64 E)]) (AV [(2, .int .i64 E), (7, .int .i64 E)] []) (by kernel_rfl) (by kernel_rfl) (AV_pers _ _ (by intro p hp; cases hp)) (AV_V _ _) ?_
      intro vs hvs
      (refine wpF_ex ?_; apply Exists.intro; apply Exists.intro; refine ⟨fun wx hwx K Qp hK => ?_, ?_, rfl, rfl, ?_⟩; (clear hwx; go_wp2_with fail; exact hK); rfl)
      (refine wpF_ex ?_; apply Exists.intro; apply Exists.intro; refine ⟨fun wx hwx K Qp hK => ?_, ?_, rfl, rfl, ?_⟩; (have q0 := bl_get hwx.1 d0; have q1 := bl_get hwx.1 d1; have q2 := bl_get hwx.1 d2; clear hwx; go_wp2_with fail; exact hK); rfl)
      (refine wpF_valA (.int .i64 E) rfl (hvs 2 _ rfl) ?_; apply Exists.intro; refine ⟨fun wx hwx K Qp hK => ?_, ?_, rfl, ?_⟩; (clear hwx; go_wp2_with fail; refine (HC.out _).mono ?_; rintro e w' ⟨rfl, hb⟩; exact hK _ hb); rfl)
      (refine wpF_ex ?_; apply Exists.intro; apply Exists.intro; refine ⟨fun wx hwx K Qp hK => ?_, ?_, rfl, rfl, ?_⟩; (clear hwx; go_wp2_with fail; exact hK); rfl)
      (refine wpF_ex ?_; apply Exists.intro; apply Exists.intro; refine ⟨fun wx hwx K Qp hK => ?_, ?_, rfl, rfl, ?_⟩; (clear hwx; go_wp2_with fail; exact hK); rfl)
      (refine wpF_ex ?_; apply Exists.intro; apply Exists.intro; refine ⟨fun wx hwx K Qp hK => ?_, ?_, rfl, rfl, ?_⟩; (clear hwx; go_wp2_with fail; exact hK); rfl)
      (refine wpF_ex ?_; apply Exists.intro; apply Exists.intro; refine ⟨fun wx hwx K Qp hK => ?_, ?_, rfl, rfl, ?_⟩; (have q0 := bl_get hwx.1 d0; have q1 := bl_get hwx.1 d1; have q2 := bl_get hwx.1 d2; clear hwx; go_wp2_with fail; exact hK); rfl)
      (refine wpF_valA (.int .i64 E) rfl (hvs 7 _ rfl) ?_; apply Exists.intro; refine ⟨fun wx hwx K Qp hK => ?_, ?_, rfl, ?_⟩; (clear hwx; go_wp2_with fail; refine (HC.out _).mono ?_; rintro e w' ⟨rfl, hb⟩; exact hK _ hb); rfl)
      (refine wpF_ex ?_; apply Exists.intro; apply Exists.intro; refine ⟨fun wx hwx K Qp hK => ?_, ?_, rfl, rfl, ?_⟩; (clear hwx; go_wp2_with fail; exact hK); rfl)
      (refine wpF_ex ?_; apply Exists.intro; apply Exists.intro; refine ⟨fun wx hwx K Qp hK => ?_, ?_, rfl, rfl, ?_⟩; (have q3 := bl_get hwx.1 d3; clear hwx; go_wp2_with fail; exact hK); rfl)
      (refine wpF_ex ?_; apply Exists.intro; apply Exists.intro; refine ⟨fun wx hwx K Qp hK => ?_, ?_, rfl, rfl, ?_⟩; (clear hwx; go_wp2_with fail; exact hK); rfl)
      (refine wpF_ex ?_; apply Exists.intro; apply Exists.intro; refine ⟨fun wx hwx K Qp hK => ?_, ?_, rfl, rfl, ?_⟩; (clear hwx; go_wp2_with fail; exact hK); rfl)
      (refine wpF_ex ?_; apply Exists.intro; apply Exists.intro; refine ⟨fun wx hwx K Qp hK => ?_, ?_, rfl, rfl, ?_⟩; (clear hwx; go_wp2_with fail; exact hK); rfl)
      refine wpF_nil ?_
      intro w9 hb9 hp9
      have HR1 := Lib.hid (HR.out.below hb9 HR.out.lt)
      have hbw1 : Below w.heap.size w w9 := hb.trans (hb9.mono (by omega))
      go_wp2_with (refine wpList_store_row rfl 66 _ _ rfl _ _ rfl rfl _ _ HR1.out (by kernel_rfl) rfl (by simp [Value.oneCell']) ?_)
      refine bodyPost_ret (v := .tuple #[.agg #[.int .i64 0, .int .i64 0, .int .i64 0, .slice none 0 0], .int .i64 5]) ?_ rfl ?_
      · exact results_row_tmp rfl _ _ (w.heap.size + 2) 66 #[.int .i64 0, .int .i64 0, .int .i64 0, .slice none 0 0] (0, 0) _ _ rfl rfl (HR1.out.row _) Try.underlying66 rfl (by kernel_rfl)
      · exact ⟨_, by rw [HP2.out], by rw [HP2.out]; exact TnV.none _ _, bl_row hbw1 (by omega) _⟩
end Go.Proofs.Ytolpecacibmkjaa
