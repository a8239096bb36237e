/- OctetPuts: numbers' bytes. No condition. -/
import Derived.Test.YtlganffeaapebaaOctF
import Derived.Test.YtlganffeaapebaaAv
import Derived.Outline
namespace Go.Proofs.Ytlganffeaapebaa
open Go.RowKit

theorem put_get32 (l : List Int) (h : 4 ≤ l.length) (hx : ∀ x ∈ l, 0 ≤ x ∧ x ≤ 255) : put32L (getTo l 4) = l.take 4 ∧ 0 ≤ getTo l 4 ∧ getTo l 4 ≤ 4294967295 := by
  match l, h with
  | a :: b :: c :: d :: r, _ =>
    have ha := hx a (by simp)
    have hb := hx b (by simp)
    have hc := hx c (by simp)
    have hd := hx d (by simp)
    have e : getTo (a :: b :: c :: d :: r) 4 = a + b * 256 + c * 65536 + d * 16777216 := by
      simp [getTo, List.getD]
    rw [e]
    refine ⟨?_, by omega, by omega⟩
    simp only [put32L, List.take_succ_cons, List.take_zero]
    rw [show (a + b * 256 + c * 65536 + d * 16777216) % 256 = a by omega, show (a + b * 256 + c * 65536 + d * 16777216) / 256 % 256 = b by omega, show (a + b * 256 + c * 65536 + d * 16777216) / 65536 % 256 = c by omega, show (a + b * 256 + c * 65536 + d * 16777216) / 16777216 = d by omega]

theorem same_tt (a b : Value) (xs : List Int) (w : World) (ha : Rd w a (xs.map (Value.int .u8))) (hb : Rd w b (xs.map (Value.int .u8))) (hx : xs.length ≤ 1000000) :
    Calls Try.prog 12 #[a, b] w fun e w' => e = .returned (.bool true) ∧ Below w.heap.size w w' :=
  (same_any a b xs xs w ha hb (by omega) (by omega)).mono fun _ _ ⟨h1, h2⟩ => ⟨by rw [h1]; simp, h2⟩

set_option maxHeartbeats 3200000 in
set_option maxRecDepth 100000 in
theorem octetPuts_walk (n : Int) (sv wv bv : Value) (ss ws bs : List Int) (w : World) (n0 : 0 ≤ n) (n1 : n ≤ 4294967295) (hs : Rd w sv (ss.map (Value.int .i8))) (hw : Rd w wv (ws.map (Value.int .i32))) (hb : Rd w bv (bs.map (Value.int .u8)))
    (hwx : ∀ x ∈ ws, -2147483648 ≤ x ∧ x ≤ 2147483647) (hbx : ∀ x ∈ bs, 0 ≤ x ∧ x ≤ 255) :
    Calls Try.prog 10 #[.int .u32 n, sv, wv, bv] w fun e w' => e = .returned (.bool true) ∧ Below w.heap.size w w' := by
  have HS := Lib.hid hs; have HW := Lib.hid hw; have HB := Lib.hid hb; have HWX := Lib.hid hwx; have HBX := Lib.hid hbx
  obtain ⟨sa, sc, rfl, _, _, _⟩ := hs.ints
  obtain ⟨wa, wc, rfl, _, _, _⟩ := hw.ints
  obtain ⟨ba, bc, rfl, bl, _, _⟩ := hb.ints
  clear hs hw hb hwx hbx
  by_cases hl1 : 300 < ss.length
  · have t1 : (300 : Int) < (ss.length : Int) := by omega
    go_enter Try.func10, Try.ntmps10
    go_wp2_with fail
    refine (known08_any _).mono ?_
    rintro e w8 ⟨rfl, hb8⟩
    go_wp2
    go_ret
    exact ⟨rfl, hb8⟩
  · have t1 : ¬ (300 : Int) < (ss.length : Int) := by omega
    by_cases hl2 : 300 < ws.length
    · have t2 : (300 : Int) < (ws.length : Int) := by omega
      go_enter Try.func10, Try.ntmps10
      go_wp2_with fail
      refine (known08_any _).mono ?_
      rintro e w8 ⟨rfl, hb8⟩
      go_wp2
      go_ret
      exact ⟨rfl, hb8⟩
    · have t2 : ¬ (300 : Int) < (ws.length : Int) := by omega
      by_cases hl3 : 300 < bs.length
      · have t3 : (300 : Int) < (bs.length : Int) := by omega
        go_enter Try.func10, Try.ntmps10
        go_wp2_with fail
        refine (known08_any _).mono ?_
        rintro e w8 ⟨rfl, hb8⟩
        go_wp2
        go_ret
        exact ⟨rfl, hb8⟩
      · have t3 : ¬ (300 : Int) < (bs.length : Int) := by omega
        go_enter Try.func10, Try.ntmps10
        go_wp2_with fail
        refine (get32_any _ bs _ HB.out HBX.out).mono ?_
        rintro e w1 ⟨rfl, rfl⟩
        have key : ∃ g, g = (if bs.length < 4 then (0 : Int) else getTo bs 4) := ⟨_, rfl⟩
        obtain ⟨g, hg⟩ := key
        rw [← hg]
        have hs1 : ss.length ≤ 300 := by omega
        have hs2 : ws.length ≤ 300 := by omega
        by_cases h4 : bs.length < 4
        case' pos =>
          have hd : decide (4 ≤ bs.length) = false := by rw [decide_eq_false_iff_not]; omega
          have hd2 : decide ((4 : Int) ≤ (bs.length : Int)) = false := by rw [decide_eq_false_iff_not]; omega
          rw [if_pos h4] at hg
          subst hg
          rw [hd]
          clear h4 hd
          go_wp2_with fail
          refine wp_region_vals (fun i => List.lookup i [(17, undef), (20, undef)]) (AV [(17, undef), (20, undef)] []) (by kernel_rfl) (by kernel_rfl) (AV_pers _ _ (by intro p hp; cases hp)) (AV_V _ _) ?_
          intro vs hvs
          (refine wpF_ex ?_; apply Exists.intro; apply Exists.intro; refine ⟨fun wx hwx K Qp hK => ?_, ?_, rfl, rfl, ?_⟩; (clear hwx; go_wp2_with fail; exact hK); rfl)
          (refine wpF_ex ?_; apply Exists.intro; apply Exists.intro; refine ⟨fun wx hwx K Qp hK => ?_, ?_, rfl, rfl, ?_⟩; (clear hwx; go_wp2_with fail; exact hK); rfl)
          (refine wpF_ex ?_; apply Exists.intro; apply Exists.intro; refine ⟨fun wx hwx K Qp hK => ?_, ?_, rfl, rfl, ?_⟩; (clear hwx; go_wp2_with fail; exact hK); rfl)
          (refine wpF_ex ?_; apply Exists.intro; apply Exists.intro; refine ⟨fun wx hwx K Qp hK => ?_, ?_, rfl, rfl, ?_⟩; (clear hwx; go_wp2_with fail; exact hK); rfl)
          (refine wpF_ex ?_; apply Exists.intro; apply Exists.intro; refine ⟨fun wx hwx K Qp hK => ?_, ?_, rfl, rfl, ?_⟩; (clear hwx; go_wp2_with fail; exact hK); rfl)
          (refine wpF_ex ?_; apply Exists.intro; apply Exists.intro; refine ⟨fun wx hwx K Qp hK => ?_, ?_, rfl, rfl, ?_⟩; (clear hwx; go_wp2_with fail; exact hK); rfl)
          (refine wpF_ex ?_; apply Exists.intro; apply Exists.intro; refine ⟨fun wx hwx K Qp hK => ?_, ?_, rfl, rfl, ?_⟩; (clear hwx; go_wp2_with fail; exact hK); rfl)
          (refine wpF_ex ?_; apply Exists.intro; apply Exists.intro; refine ⟨fun wx hwx K Qp hK => ?_, ?_, rfl, rfl, ?_⟩; (clear hwx; go_wp2_with fail; exact hK); rfl)
          (refine wpF_ex ?_; apply Exists.intro; apply Exists.intro; refine ⟨fun wx hwx K Qp hK => ?_, ?_, rfl, rfl, ?_⟩; (clear hwx; go_wp2_with fail; exact hK); rfl)
          (refine wpF_ex ?_; apply Exists.intro; apply Exists.intro; refine ⟨fun wx hwx K Qp hK => ?_, ?_, rfl, rfl, ?_⟩; (clear hwx; go_wp2_with fail; exact hK); rfl)
          (refine wpF_ex ?_; apply Exists.intro; apply Exists.intro; refine ⟨fun wx hwx K Qp hK => ?_, ?_, rfl, rfl, ?_⟩; (clear hwx; go_wp2_with fail; exact hK); rfl)
          (refine wpF_ex ?_; apply Exists.intro; apply Exists.intro; refine ⟨fun wx hwx K Qp hK => ?_, ?_, rfl, rfl, ?_⟩; (clear hwx; go_wp2_with fail; exact hK); rfl)
          (refine wpF_ex ?_; apply Exists.intro; apply Exists.intro; refine ⟨fun wx hwx K Qp hK => ?_, ?_, rfl, rfl, ?_⟩; (clear hwx; go_wp2_with fail; exact hK); rfl)
          (refine wpF_ex ?_; apply Exists.intro; apply Exists.intro; refine ⟨fun wx hwx K Qp hK => ?_, ?_, rfl, rfl, ?_⟩; (clear hwx; go_wp2_with fail; exact hK); rfl)
          (refine wpF_ex ?_; apply Exists.intro; apply Exists.intro; refine ⟨fun wx hwx K Qp hK => ?_, ?_, rfl, rfl, ?_⟩; (clear hwx; go_wp2_with fail; exact hK); rfl)
          (refine wpF_ex ?_; apply Exists.intro; apply Exists.intro; refine ⟨fun wx hwx K Qp hK => ?_, ?_, rfl, rfl, ?_⟩; (clear hwx; go_wp2_with fail; exact hK); rfl)
          (refine wpF_nox ?_; apply Exists.intro; refine ⟨?_, rfl, ?_⟩; (go_simp; rfl))
          (refine wpF_nox ?_; apply Exists.intro; refine ⟨?_, rfl, ?_⟩; (go_simp; rfl))
          (refine wpF_nox ?_; apply Exists.intro; refine ⟨?_, rfl, ?_⟩; (go_simp; rfl))
          (refine wpF_nox ?_; apply Exists.intro; refine ⟨?_, rfl, ?_⟩; (go_simp; rfl))
          (refine wpF_nox ?_; apply Exists.intro; refine ⟨?_, rfl, ?_⟩; (go_simp; rfl))
          (refine wpF_nox ?_; apply Exists.intro; refine ⟨?_, rfl, ?_⟩; (go_simp; rfl))
          (refine wpF_ex ?_; apply Exists.intro; apply Exists.intro; refine ⟨fun wx hwx K Qp hK => ?_, ?_, rfl, rfl, ?_⟩; (clear hwx; go_wp2_with fail; exact hK); rfl)
          (refine wpF_ex ?_; apply Exists.intro; apply Exists.intro; refine ⟨fun wx hwx K Qp hK => ?_, ?_, rfl, rfl, ?_⟩; (clear hwx; go_wp2_with fail; exact hK); rfl)
          refine wpF_nil ?_
          intro w9 hb9 hp9
        case' neg =>
          have hd : decide (4 ≤ bs.length) = true := by rw [decide_eq_true_eq]; omega
          have hd2 : decide ((4 : Int) ≤ (bs.length : Int)) = true := by rw [decide_eq_true_eq]; omega
          rw [if_neg h4] at hg
          obtain ⟨pg, g0, g1⟩ := put_get32 bs (by omega) HBX.out
          rw [← hg] at pg g0 g1
          obtain ⟨sv, hsv⟩ : ∃ sv, sv = subV 1 (.slice ba bs.length bc) 0 4 := ⟨_, rfl⟩
          have hsl : ∀ w', (Instr.sliceAt 24 (.slice ba bs.length bc) none (some (.int .i64 4)) none).run Try.prog w' = .ok sv w' := by
            intro w'
            rw [run_subH (s := 1) Try.underlying24 (by kernel_rfl) ba bs.length bc .i64 4 (by omega) (by omega) w', hsv]; rfl
          have hrd := Lib.hid (hsv ▸ HB.out.subV 0 4 (by omega) (by rw [List.length_map]; omega))
          have hrd2 : Hid (Rd w sv ((put32L g).map (Value.int .u8))) := by
            refine Lib.hid ?_
            have := hrd.out
            rw [pg, List.map_take]; simpa using this
          rw [hd]
          clear h4 hd hg pg hsv hrd
          go_wp2_with fail
          refine wp_region_vals (fun i => List.lookup i [(20, .bool true)]) (AV [(20, .bool true)] [(17, (fun v w => Rd w v ((put32L g).map (Value.int .u8))))]) (by kernel_rfl) (by kernel_rfl) (AV_pers _ _ (by intro p hp; simp only [List.mem_cons, List.not_mem_nil, or_false] at hp; rcases hp with rfl <;> (first | exact fun v w w' h hb => Rd.below h hb (Nat.le_refl _) | exact fun v w w' h hb => bl_one h hb | exact fun v w w' h hb => bl_oneN h hb | exact fun v w w' h hb => Own.below h hb (Nat.le_refl _)))) (AV_V _ _) ?_
          intro vs hvs
          (refine wpF_ex ?_; apply Exists.intro; apply Exists.intro; refine ⟨fun wx hwx K Qp hK => ?_, ?_, rfl, rfl, ?_⟩; (clear hwx; go_wp2_with fail; exact hK); rfl)
          (refine wpF_ex ?_; apply Exists.intro; apply Exists.intro; refine ⟨fun wx hwx K Qp hK => ?_, ?_, rfl, rfl, ?_⟩; (clear hwx; go_wp2_with fail; exact hK); rfl)
          (refine wpF_ex ?_; apply Exists.intro; apply Exists.intro; refine ⟨fun wx hwx K Qp hK => ?_, ?_, rfl, rfl, ?_⟩; (clear hwx; go_wp2_with fail; exact hK); rfl)
          (refine wpF_ex ?_; apply Exists.intro; apply Exists.intro; refine ⟨fun wx hwx K Qp hK => ?_, ?_, rfl, rfl, ?_⟩; (clear hwx; go_wp2_with fail; exact hK); rfl)
          (refine wpF_ex ?_; apply Exists.intro; apply Exists.intro; refine ⟨fun wx hwx K Qp hK => ?_, ?_, rfl, rfl, ?_⟩; (clear hwx; go_wp2_with fail; exact hK); rfl)
          (refine wpF_ex ?_; apply Exists.intro; apply Exists.intro; refine ⟨fun wx hwx K Qp hK => ?_, ?_, rfl, rfl, ?_⟩; (clear hwx; go_wp2_with fail; exact hK); rfl)
          (refine wpF_ex ?_; apply Exists.intro; apply Exists.intro; refine ⟨fun wx hwx K Qp hK => ?_, ?_, rfl, rfl, ?_⟩; (clear hwx; go_wp2_with fail; exact hK); rfl)
          (refine wpF_ex ?_; apply Exists.intro; apply Exists.intro; refine ⟨fun wx hwx K Qp hK => ?_, ?_, rfl, rfl, ?_⟩; (clear hwx; go_wp2_with fail; exact hK); rfl)
          (refine wpF_ex ?_; apply Exists.intro; apply Exists.intro; refine ⟨fun wx hwx K Qp hK => ?_, ?_, rfl, rfl, ?_⟩; (clear hwx; go_wp2_with fail; exact hK); rfl)
          (refine wpF_nox ?_; apply Exists.intro; refine ⟨?_, rfl, ?_⟩; (go_simp; rfl))
          (refine wpF_nox ?_; apply Exists.intro; refine ⟨?_, rfl, ?_⟩; (go_simp; rfl))
          (refine wpF_ex ?_; apply Exists.intro; apply Exists.intro; refine ⟨fun wx hwx K Qp hK => ?_, ?_, rfl, rfl, ?_⟩; (clear hwx; go_wp2_with fail; exact hK); rfl)
          (refine wpF_ex ?_; apply Exists.intro; apply Exists.intro; refine ⟨fun wx hwx K Qp hK => ?_, ?_, rfl, rfl, ?_⟩; (clear hwx; go_wp2_with fail; exact hK); rfl)
          (refine wpF_ex ?_; apply Exists.intro; apply Exists.intro; refine ⟨fun wx hwx K Qp hK => ?_, ?_, rfl, rfl, ?_⟩; (clear hwx; go_wp2_with fail; exact hK); rfl)
          (refine wpF_ex ?_; apply Exists.intro; apply Exists.intro; refine ⟨fun wx hwx K Qp hK => ?_, ?_, rfl, rfl, ?_⟩; (clear hwx; go_wp2_with fail; exact hK); rfl)
          (refine wpF_ex ?_; apply Exists.intro; apply Exists.intro; refine ⟨fun wx hwx K Qp hK => ?_, ?_, rfl, rfl, ?_⟩; (clear hwx; go_wp2_with fail; exact hK); rfl)
          (refine wpF_ex ?_; apply Exists.intro; apply Exists.intro; refine ⟨fun wx hwx K Qp hK => ?_, ?_, rfl, rfl, ?_⟩; (clear hwx; go_wp2_with fail; exact hK); rfl)
          (refine wpF_newx _ rfl ?_; apply Exists.intro; refine ⟨fun wx hwx K Qp hK => ?_, rfl, rfl, ?_⟩; (clear hwx; go_wp2_with fail; refine (refPut32_any g _ g0 g1).mono ?_; rintro e w' ⟨u, rfl, ho, hb⟩; exact hK _ _ hb (ho)))
          (refine wpF_ex ?_; apply Exists.intro; apply Exists.intro; refine ⟨fun wx hwx K Qp hK => ?_, ?_, rfl, rfl, ?_⟩; (clear hwx; go_wp2_with fail; exact hK); rfl)
          (refine wpF_ex ?_; apply Exists.intro; apply Exists.intro; refine ⟨fun wx hwx K Qp hK => ?_, ?_, rfl, rfl, ?_⟩; (clear hwx; go_wp2_with fail; exact hK); rfl)
          (refine wpF_valA (.bool true) rfl (hvs 20 _ rfl) ?_; apply Exists.intro; refine ⟨fun wx hwx K Qp hK => ?_, ?_, rfl, ?_⟩; (have hx1 := Lib.hid hwx.1; have hrx := Lib.hid (hwx.2 _ List.mem_cons_self (by kernel_rfl)); clear hwx; go_wp2_with fail; refine (same_tt _ _ (put32L g) _ (hrx.out) (hrd2.out.below hx1.out (Nat.le_refl _)) (by simp [put32L])).mono ?_; rintro e w' ⟨rfl, hb⟩; exact hK _ hb); rfl)
          (refine wpF_ex ?_; apply Exists.intro; apply Exists.intro; refine ⟨fun wx hwx K Qp hK => ?_, ?_, rfl, rfl, ?_⟩; (clear hwx; go_wp2_with fail; exact hK); rfl)
          (refine wpF_ex ?_; apply Exists.intro; apply Exists.intro; refine ⟨fun wx hwx K Qp hK => ?_, ?_, rfl, rfl, ?_⟩; (clear hwx; go_wp2_with fail; exact hK); rfl)
          (refine wpF_ex ?_; apply Exists.intro; apply Exists.intro; refine ⟨fun wx hwx K Qp hK => ?_, ?_, rfl, rfl, ?_⟩; (clear hwx; go_wp2_with fail; exact hK); rfl)
          refine wpF_nil ?_
          intro w9 hb9 hp9
        all_goals
          have HB9 := Lib.hid hb9
          clear hp9 hb9
          go_wp2_with fail
          refine (put32_any n _ n0 n1).mono ?_
          rintro e w1 ⟨r1, rfl, hr1, hb1⟩
          go_wp2_with fail
          refine (refPut32_any n _ n0 n1).mono ?_
          rintro e w2 ⟨r2, rfl, hr2, hb2⟩
          go_wp2_with fail
          refine (same_tt _ _ _ _ (hr1.below hb2 (Nat.le_refl _)) hr2 (by simp [put32L])).mono ?_
          rintro e w3 ⟨rfl, hb3⟩
          have HB3 := Lib.hid (bl_step (bl_step (bl_step HB9.out hb1) hb2) hb3)
          clear hr1 hr2 hb1 hb2 hb3 HB9
          go_wp2_with fail
          refine (small_any _ ss _ (HS.out.below HB3.out (Nat.le_refl _)) (by omega)).mono ?_
          rintro e w4 ⟨r1, rfl, hr1, hb1⟩
          go_wp2_with fail
          refine (refSmall_any _ ss _ (HS.out.below (bl_step HB3.out hb1) (Nat.le_refl _)) (by omega)).mono ?_
          rintro e w5 ⟨r2, rfl, hr2, hb2⟩
          go_wp2_with fail
          refine (same_tt _ _ _ _ (hr1.rd.below hb2 (Nat.le_refl _)) hr2.rd (by simp [smallL]; omega)).mono ?_
          rintro e w6 ⟨rfl, hb3⟩
          have HB6 := Lib.hid (bl_step (bl_step (bl_step HB3.out hb1) hb2) hb3)
          clear hr1 hr2 hb1 hb2 hb3 HB3
          have hwl := wideL_len ws HWX.out
          go_wp2_with fail
          refine (wide_any _ ws _ (HW.out.below HB6.out (Nat.le_refl _)) HWX.out (by omega)).mono ?_
          rintro e w7 ⟨r1, rfl, hr1, hb1⟩
          go_wp2_with fail
          refine (refWide_any _ ws _ (HW.out.below (bl_step HB6.out hb1) (Nat.le_refl _)) HWX.out (by omega)).mono ?_
          rintro e w8 ⟨r2, rfl, hr2, hb2⟩
          go_wp2_with fail
          refine (same_tt _ _ _ _ (hr1.rd.below hb2 (Nat.le_refl _)) hr2.rd (by omega)).mono ?_
          rintro e w9 ⟨rfl, hb3⟩
          have HB9 := Lib.hid (bl_step (bl_step (bl_step HB6.out hb1) hb2) hb3)
          clear hr1 hr2 hb1 hb2 hb3 HB6
          go_wp2_with fail
          refine (known08_any _).mono ?_
          rintro e w10 ⟨rfl, hb10⟩
          go_wp2
          go_ret
          exact ⟨rfl, bl_step HB9.out hb10⟩
end Go.Proofs.Ytlganffeaapebaa
