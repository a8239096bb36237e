/- OctetBack: what was put is read. No condition. -/
import Derived.Test.YtlganffeaapebaaOctF
import Derived.Outline
namespace Go.Proofs.Ytlganffeaapebaa
open Go.RowKit

theorem smallL_rng (l : List Int) : ∀ y ∈ smallL l, 0 ≤ y ∧ y ≤ 255 := by
  intro y hy
  obtain ⟨x, _, rfl⟩ := List.mem_map.1 hy
  omega

set_option maxHeartbeats 3200000 in
set_option maxRecDepth 100000 in
theorem octetBack_walk (n : Int) (sv wv bv : Value) (ss ws bs : List Int) (w : World) (n0 : 0 ≤ n) (n1 : n ≤ 65535) (hs : Rd w sv (ss.map (Value.int .i8))) (hw : Rd w wv (ws.map (Value.int .i32))) (hb : Rd w bv (bs.map (Value.int .u8)))
    (hsx : ∀ x ∈ ss, -128 ≤ x ∧ x ≤ 127) (hwx : ∀ x ∈ ws, -2147483648 ≤ x ∧ x ≤ 2147483647) (hbx : ∀ x ∈ bs, 0 ≤ x ∧ x ≤ 255) :
    Calls Try.prog 11 #[sv, wv, .int .u16 n, bv] w fun e w' => e = .returned (.bool true) ∧ Below w.heap.size w w' := by
  obtain ⟨i0, hi, hz0, hz1, hz2⟩ := info_parts Try.info5
  have HS := Lib.hid hs; have HW := Lib.hid hw; have HB := Lib.hid hb; have HWX := Lib.hid hwx; have HBX := Lib.hid hbx; have HSX := Lib.hid hsx
  obtain ⟨sa, sc, rfl, _, _, _⟩ := hs.ints
  obtain ⟨wa, wc, rfl, _, _, _⟩ := hw.ints
  obtain ⟨ba, bc, rfl, bl, _, _⟩ := hb.ints
  clear hs hw hb hwx hbx hsx
  by_cases hl1 : 300 < ss.length
  · have t1 : (300 : Int) < (ss.length : Int) := by omega
    go_enter Try.func11, Try.ntmps11
    go_wp2_with fail
    refine (known08_any _).mono ?_
    rintro e w8 ⟨rfl, hb8⟩
    go_wp2
    go_ret
    exact ⟨rfl, hb8⟩
  · have t1 : ¬ (300 : Int) < (ss.length : Int) := by omega
    by_cases hl2 : 300 < ws.length
    · have t2 : (300 : Int) < (ws.length : Int) := by omega
      go_enter Try.func11, Try.ntmps11
      go_wp2_with fail
      refine (known08_any _).mono ?_
      rintro e w8 ⟨rfl, hb8⟩
      go_wp2
      go_ret
      exact ⟨rfl, hb8⟩
    · have t2 : ¬ (300 : Int) < (ws.length : Int) := by omega
      by_cases hl3 : 300 < bs.length
      · have t3 : (300 : Int) < (bs.length : Int) := by omega
        go_enter Try.func11, Try.ntmps11
        go_wp2_with fail
        refine (known08_any _).mono ?_
        rintro e w8 ⟨rfl, hb8⟩
        go_wp2
        go_ret
        exact ⟨rfl, hb8⟩
      · have t3 : ¬ (300 : Int) < (bs.length : Int) := by omega
        have ls : ss.length ≤ 300 := by omega
        have lw : ws.length ≤ 300 := by omega
        have lb : bs.length ≤ 300 := by omega
        have hwl := wideL_len ws HWX.out
        have hpl := putL_len10 n.toNat (by omega)
        have hsl : (smallL ss).length = ss.length := by simp [smallL]
        clear hl1 hl2 hl3
        obtain ⟨A, hA⟩ : ∃ A, A = wideL ws := ⟨_, rfl⟩
        obtain ⟨S, hS⟩ : ∃ S, S = smallL ss := ⟨_, rfl⟩
        obtain ⟨N, hN⟩ : ∃ N, N = putL n.toNat := ⟨_, rfl⟩
        have HA := Lib.hid hA; have HSS := Lib.hid hS; have HN := Lib.hid hN
        rw [← hA] at hwl; rw [← hS] at hsl; rw [← hN] at hpl
        clear hA hS hN
        go_enter Try.func11, Try.ntmps11
        go_wp2_with fail
        refine (refPut_any n _ n0 (by omega)).mono ?_
        rintro e w1 ⟨r1, rfl, hr1, hb1⟩
        rw [← HN.out] at hr1
        obtain ⟨p1, q1, rfl, _, _, _⟩ := hr1.ints
        have HR1 := Lib.hid hr1; clear hr1
        have ca := (Below.refl w.heap.size w).alloc (Nat.le_refl _) (.cells #[] 5)
        have HB1 := Lib.hid (ca.trans (hb1.mono (by simp)))
        have hsz1 := hb1.size
        simp only [World.size_alloc] at hsz1
        have HO0 := Lib.hid ((Own.empty w.heap.size w 5 (Nat.le_refl _)).below hb1 (Nat.le_refl _))
        clear hb1 ca
        go_wp2_with (at_builtin; refine hold ?_)
        refine unheld ?_
        refine wpList_appS rfl _ _ 24 rfl w.heap.size 5 i0 (.int .u8 0) 1 Try.underlying24 hi hz0 hz1 hz2 (by decide) rfl _ _ _ _ HO0.out HR1.out.rd rfl rfl (ints_one _ _) (by simp only [List.length_map, List.length_append, List.length_nil]; omega) HB1.out.size ?_
        intro v2 w2 hown2 hb2
        rw [List.nil_append] at hown2
        have HB2 := Lib.hid (HB1.out.trans hb2)
        have HO2 := Lib.hid hown2
        clear hown2 HO0 HR1 HB1 hb2
        go_wp2_with fail
        refine (wide_any _ ws _ (HW.out.below HB2.out (Nat.le_refl _)) HWX.out (by omega)).mono ?_
        rintro e w3 ⟨r3, rfl, hr3, hb3⟩
        rw [← HA.out] at hr3
        have HR3 := Lib.hid hr3.rd
        have HB3 := Lib.hid (bl_step HB2.out hb3)
        have HO3 := Lib.hid (HO2.out.below hb3 (Nat.le_refl _))
        clear hr3 hb3 HB2 HO2
        go_wp2_with (at_builtin; refine hold ?_)
        refine unheld ?_
        refine wpList_appS rfl _ _ 24 rfl w.heap.size 5 i0 (.int .u8 0) 1 Try.underlying24 hi hz0 hz1 hz2 (by decide) rfl _ _ _ _ HO3.out HR3.out rfl rfl (ints_one _ _) (by simp only [List.length_map, List.length_append, List.length_nil]; omega) HB3.out.size ?_
        intro v4 w4 hown4 hb4
        rw [← List.map_append] at hown4
        have HB4 := Lib.hid (HB3.out.trans hb4)
        have HO4 := Lib.hid hown4
        clear hown4 HO3 HR3 HB3 hb4
        go_wp2_with fail
        refine (small_any _ ss _ (HS.out.below HB4.out (Nat.le_refl _)) (by omega)).mono ?_
        rintro e w5 ⟨r5, rfl, hr5, hb5⟩
        rw [← HSS.out] at hr5
        have HR5 := Lib.hid hr5.rd
        have HB5 := Lib.hid (bl_step HB4.out hb5)
        have HO5 := Lib.hid (HO4.out.below hb5 (Nat.le_refl _))
        clear hr5 hb5 HB4 HO4
        go_wp2_with (at_builtin; refine hold ?_)
        refine unheld ?_
        refine wpList_appS rfl _ _ 24 rfl w.heap.size 5 i0 (.int .u8 0) 1 Try.underlying24 hi hz0 hz1 hz2 (by decide) rfl _ _ _ _ HO5.out HR5.out rfl rfl (ints_one _ _) (by simp only [List.length_map, List.length_append, List.length_nil]; omega) HB5.out.size ?_
        intro v6 w6 hown6 hb6
        rw [← List.map_append] at hown6
        have HB6 := Lib.hid (HB5.out.trans hb6)
        have HO6 := Lib.hid hown6
        clear hown6 HO5 HR5 HB5 hb6
        go_wp2_with (at_builtin; refine hold ?_)
        refine unheld ?_
        refine wpList_appS rfl _ _ 24 rfl w.heap.size 5 i0 (.int .u8 0) 1 Try.underlying24 hi hz0 hz1 hz2 (by decide) rfl _ _ _ _ HO6.out (HB.out.below HB6.out (Nat.le_refl _)) rfl rfl (ints_one _ _) (by simp only [List.length_map, List.length_append, List.length_nil]; omega) HB6.out.size ?_
        intro v7 w7 hown7 hb7
        rw [← List.map_append] at hown7
        have HB7 := Lib.hid (HB6.out.trans hb7)
        have HO7 := Lib.hid hown7
        clear hown7 HO6 HB6 hb7
        have hall : N ++ A ++ S ++ bs = putL n.toNat ++ (wideL ws ++ (smallL ss ++ bs)) := by
          rw [← HN.out, ← HA.out, ← HSS.out]; simp
        have hlen : (N ++ A ++ S ++ bs).length = N.length + A.length + S.length + bs.length := by simp; omega
        obtain ⟨L, hL⟩ : ∃ L, L = N ++ A ++ S ++ bs := ⟨_, rfl⟩
        rw [← hL] at HO7 hall hlen
        have HALL := Lib.hid hall
        clear hall hL
        go_wp2_with fail
        refine (read_any _ L _ HO7.out.rd (by omega)).mono ?_
        rintro e w8 ⟨g, rfl, hg, hr8, hb8⟩
        have HB8 := Lib.hid (bl_step HB7.out hb8)
        have hgw : w.heap.size ≤ g := by have := HB7.out.size; omega
        have HR8 := Lib.hid hr8
        clear hr8 hb8 HO7 hg HB7
        have hrest : ∀ y ∈ smallL ss ++ bs, 0 ≤ y ∧ y ≤ 255 := by
          intro y hy
          rcases List.mem_append.1 hy with h | h
          · exact smallL_rng _ y h
          · exact HBX.out y h
        have hrest2 : ∀ y ∈ L, 0 ≤ y ∧ y ≤ 255 := by
          intro y hy
          rw [HALL.out] at hy
          rcases List.mem_append.1 hy with h | h
          · exact putL_rng _ y h
          · rcases List.mem_append.1 h with h | h
            · exact wideL_rng _ y h
            · exact hrest y h
        have HQ1 := Lib.hid hrest; have HQ2 := Lib.hid hrest2; clear hrest hrest2
        have hgot := got n.toNat (wideL ws ++ (smallL ss ++ bs)) (by omega)
        rw [← HALL.out, Int.toNat_of_nonneg n0, ← HN.out] at hgot
        have HGOT := Lib.hid hgot; clear hgot
        have hdrop : L.drop N.length = wideL ws ++ (smallL ss ++ bs) := by rw [HALL.out, HN.out, List.drop_left]
        have HDR := Lib.hid hdrop; clear hdrop
        go_wp2_with fail
        refine (count_ok w8.heap.size g L n 65535 N.length _ HR8.out (Nat.le_refl _) HQ2.out (by omega) HGOT.out (by omega) (by omega) (by omega) n0 n1).mono ?_
        rintro e w9 ⟨rfl, hr9, hu9⟩
        rw [HDR.out] at hr9
        have HR9 := Lib.hid hr9
        have hsz9 := hu9.size
        clear hr9 HR8 HGOT HDR HQ2 HALL
        go_wp2_with fail
        refine (wideR_ok w8.heap.size g ws (smallL ss ++ bs) _ HR9.out hsz9 HWX.out HQ1.out (by rw [List.length_append, ← HSS.out]; omega) (by omega)).mono ?_
        rintro e w10 ⟨x, rfl, hx, hr10, hu10⟩
        have HX := Lib.hid hx.rd
        have hgx : g < w8.heap.size := by obtain ⟨_, _, _, _, h, _⟩ := hr10; exact h
        have HO10 := Lib.hid hx
        have HR10 := Lib.hid hr10
        have hsz10 := hu10.size
        have hu := hu9.trans hu10
        clear hx hr10 HR9 hu9
        go_wp2_with fail
        refine (smallR_ok w8.heap.size g ss bs _ HR10.out (by omega) HSX.out HBX.out (by omega) (by omega)).mono ?_
        rintro e w11 ⟨y, rfl, hy, hr11, hu11⟩
        have HR11 := Lib.hid hr11
        have hsz11 := hu11.size
        have HY := Lib.hid hy.rd
        have HX11 := Lib.hid (HO10.out.upd hu11 (by intro k hk; omega)).rd
        have HB11 := Lib.hid (HB8.out.trans ((hu.trans hu11).below (by rintro k rfl; exact hgw) HB8.out.size))
        clear hy hr11 HR10 HO10 HX hu hu11 HB8
        go_wp2_with fail
        refine (sameI32_eq _ _ ws _ HX11.out (HW.out.below HB11.out (Nat.le_refl _)) (by omega)).mono ?_
        rintro e w12 ⟨rfl, hb12⟩
        have HB12 := Lib.hid (bl_step HB11.out hb12)
        have HY12 := Lib.hid (HY.out.below hb12 (Nat.le_refl _))
        have HR12 := Lib.hid (HR11.out.below (hb12.mono (by omega)))
        have hsz12 := hb12.size
        clear HX11 HB11 HY HR11 hb12
        go_wp2_with fail
        refine (sameI8_eq _ _ ss _ HY12.out (HS.out.below HB12.out (Nat.le_refl _)) (by omega)).mono ?_
        rintro e w13 ⟨rfl, hb13⟩
        have HB13 := Lib.hid (bl_step HB12.out hb13)
        have HR13 := Lib.hid (HR12.out.below (hb13.mono (by omega)))
        clear HB12 HY12 HR12 hb13
        go_wp2_with fail
        refine (left_ok _ g bs _ HR13.out).mono ?_
        rintro e w14 ⟨rfl, rfl⟩
        go_wp2_with fail
        refine (end_ok _ g bs _ HR13.out).mono ?_
        rintro e w14 ⟨rfl, rfl⟩
        by_cases hz : 0 < bs.length
        · have hz1 : ((bs.length : Int) == 0) = false := by rw [beq_eq_false_iff_ne]; omega
          rw [if_pos hz]
          clear hz
          go_wp2_with fail
          refine (known08_any _).mono ?_
          rintro e w15 ⟨rfl, hb15⟩
          go_wp2
          go_ret
          exact ⟨rfl, bl_step HB13.out hb15⟩
        · have hz1 : ((bs.length : Int) == 0) = true := by rw [beq_iff_eq]; omega
          rw [if_neg hz]
          clear hz
          go_wp2_with fail
          refine (known08_any _).mono ?_
          rintro e w15 ⟨rfl, hb15⟩
          go_wp2
          go_ret
          exact ⟨rfl, bl_step HB13.out hb15⟩
end Go.Proofs.Ytlganffeaapebaa
