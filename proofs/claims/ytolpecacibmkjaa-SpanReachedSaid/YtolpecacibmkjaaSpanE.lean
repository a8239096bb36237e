/- SpanReached: the walk (NOT BUILT YET). -/
import Derived.Test.YtolpecacibmkjaaSpanD
namespace Go.Proofs.Ytolpecacibmkjaa
open Go.RowKit

set_option maxHeartbeats 3200000 in
set_option maxRecDepth 100000 in
theorem spanReached_walk (v u : Value) (ws xs : List Int) (bias lo hi z : Int) (w : World) (hv : Rd w v (ws.map (Value.int .i8))) (hu : Rd w u (xs.map (Value.int .u8))) (hw8 : ∀ x ∈ ws, -128 ≤ x ∧ x ≤ 127) (hx8 : ∀ x ∈ xs, 0 ≤ x ∧ x ≤ 255)
    (b0 : -2147483648 ≤ bias) (b1 : bias ≤ 2147483647) (l0 : -128 ≤ lo) (l1 : lo ≤ 127) (k0 : -128 ≤ hi) (k1 : hi ≤ 127) (z0 : -128 ≤ z) (z1 : z ≤ 127) :
    Calls Try.prog 7 #[v, u, .int .i32 bias, .int .i8 lo, .int .i8 hi, .int .i8 z] w fun e w' => e = .returned (.bool true) ∧ Below w.heap.size w w' := by
  have hv0 := hv
  have hu0 := hu
  obtain ⟨ao, ca, rfl, _, ha⟩ := hv0
  obtain ⟨bo, cb, rfl, _, hbx⟩ := hu0
  simp only [List.length_map] at hv hu ⊢
  have HW := Lib.hid hw8; have HX := Lib.hid hx8; clear hw8 hx8
  by_cases h300 : ws.length ≤ 300
  · by_cases hlen : ws.length ≤ xs.length
    · by_cases hlo : lo ≤ hi
      · go_enter Try.func7, Try.ntmps7
        go_wp2_with fail
        refine (spanRow_any _ ws bias lo hi z false w hv (by omega) HW.out b0 b1 l0 l1 k0 k1 z0 z1).mono ?_
        rintro e w1 ⟨rfl, hb1⟩
        go_wp2_with fail
        obtain ⟨A, hA⟩ : ∃ A, A = rowLo ws bias lo hi z false := ⟨_, rfl⟩
        obtain ⟨B, hB⟩ : ∃ B, B = rowHi ws bias lo hi z false := ⟨_, rfl⟩
        rw [← hA, ← hB]
        obtain ⟨w2, hw2⟩ : ∃ w2, w2 = w1.alloc (.cells #[.int .i64 A, .int .i64 B] 41) := ⟨_, rfl⟩
        have hr := At.new w1 41 #[.int .i64 A, .int .i64 B]
        have hb2 : Below w.heap.size w w2 := by rw [hw2]; exact hb1.alloc hb1.size _
        rw [← hw2] at hr ⊢
        refine (spanRow_any _ ws bias lo hi z true w2 (hv.below hb2 (Nat.le_refl _)) (by omega) HW.out b0 b1 l0 l1 k0 k1 z0 z1).mono ?_
        rintro e w3 ⟨rfl, hb3⟩
        have HA := Lib.hid hA; have HB := Lib.hid hB; have H2 := Lib.hid hw2; clear hA hB hw2
        go_wp2_with fail
        obtain ⟨A2, hA2⟩ : ∃ A2, A2 = rowLo ws bias lo hi z true := ⟨_, rfl⟩
        obtain ⟨B2, hB2⟩ : ∃ B2, B2 = rowHi ws bias lo hi z true := ⟨_, rfl⟩
        rw [← hA2, ← hB2]
        obtain ⟨w4, hw4⟩ : ∃ w4, w4 = w3.alloc (.cells #[.int .i64 A2, .int .i64 B2] 41) := ⟨_, rfl⟩
        have hg := At.new w3 41 #[.int .i64 A2, .int .i64 B2]
        have hb4 : Below w2.heap.size w2 w4 := by rw [hw4]; exact hb3.alloc hb3.size _
        rw [← hw4] at hg ⊢
        have hr4 := hr.below hb4 hr.lt
        have hbw4 := bl_step hb2 hb4
        have H4 := Lib.hid hw4; have HA2 := Lib.hid hA2; have HB2 := Lib.hid hB2; clear hw4 hA2 hB2 hr hb3 hb4 hb1
        go_loopw [15, 16, 17, 18, 19, 20, 21] (fun s l m i _ _ _ wr => ∃ (k : Nat) (S : Int), i = .int .i64 k ∧ k ≤ ws.length ∧ s = .int .i64 S ∧ rowLo (ws.take k) bias lo hi z false ≤ S ∧ S ≤ rowHi (ws.take k) bias lo hi z false ∧
          l = .int .i64 (rowLo (ws.take k) bias lo hi z false) ∧ m = .int .i64 (rowHi (ws.take k) bias lo hi z false) ∧ ∃ n, wr = w4.drewN n) (fun _ _ _ i _ _ _ _ => ws.length - (intOf i).toNat)
        case atStart => exact ⟨0, bias, rfl, by omega, rfl, by simp [rowLo], by simp [rowHi], by simp [rowLo], by simp [rowHi], 0, rfl⟩
        case round =>
          obtain ⟨k, S, rfl, hk, rfl, hS0, hS1, rfl, rfl, n, rfl⟩ := hrel
          by_cases hlt : k < ws.length
          · obtain ⟨b, o, rfl, hc⟩ := ha (by intro h; simp at h; subst h; simp at hlt)
            obtain ⟨b', o', rfl, hc'⟩ := hbx (by intro h; simp at h; subst h; simp only [List.length_nil] at hlen; omega)
            have hcell := bl_get hbw4 (hc k (by simpa using hlt))
            have hcell' := bl_get hbw4 (hc' k (by simp; omega))
            simp only [List.getElem_map] at hcell hcell'
            obtain ⟨y0, y1⟩ := HW.out ws[k] (List.getElem_mem hlt)
            obtain ⟨x0, x1⟩ := HX.out xs[k] (List.getElem_mem (by omega))
            obtain ⟨y, hy⟩ : ∃ y, y = ws[k] := ⟨_, rfl⟩
            obtain ⟨x, hx⟩ : ∃ x, x = xs[k]'(by omega) := ⟨_, rfl⟩
            rw [← hy] at hcell y0 y1
            rw [← hx] at hcell' x0 x1
            obtain ⟨L0, L1, G0, G1⟩ := rowLo_bd (ws.take k) bias lo hi z false (fun x hx => HW.out x (List.mem_of_mem_take hx)) (by simp; omega) b0 b1 l0 l1 k0 k1 z0 z1
            obtain ⟨L, hL⟩ : ∃ L, L = rowLo (ws.take k) bias lo hi z false := ⟨_, rfl⟩
            obtain ⟨G, hG⟩ : ∃ G, G = rowHi (ws.take k) bias lo hi z false := ⟨_, rfl⟩
            rw [← hL] at L0 L1 hS0 ⊢
            rw [← hG] at G0 G1 hS1 ⊢
            have t0 : 0 ≤ x % (hi - lo + 1) := Int.emod_nonneg _ (by omega)
            have t1 : x % (hi - lo + 1) < hi - lo + 1 := Int.emod_lt_of_pos _ (by omega)
            obtain ⟨p0, p1⟩ := mul_bd8 y (lo + x % (hi - lo + 1) - z) y0 y1 (by omega) (by omega)
            obtain ⟨q0, q1⟩ := mul_bd8 y (lo - z) y0 y1 (by omega) (by omega)
            obtain ⟨r0, r1⟩ := mul_bd8 y (hi - z) y0 y1 (by omega) (by omega)
            have hin := oneR_in y (lo + x % (hi - lo + 1)) lo hi z (by omega) (by omega)
            have hen := oneR_ends y lo hi z hlo
            have h1 := rowLo_take ws k hlt bias lo hi z false
            have h2 := rowHi_take ws k hlt bias lo hi z false
            rw [← hy, ← hL] at h1
            rw [← hy, ← hG] at h2
            have HL := Lib.hid h1; have HG := Lib.hid h2; have HIN := Lib.hid hin; have HEN := Lib.hid hen
            clear hy hx hL hG hin hen hc hc' ha hbx hv hu h1 h2
            by_cases hy0 : y < 0
            · skip
              go_wp2_with fail
              go_quiet (fail)
              go_wp2_with fail
              go_roundw
              case rel =>
                have g1 := HEN.out.1; have g2 := HEN.out.2
                rw [if_pos hy0] at g1 g2
                have i1 := HIN.out
                refine ⟨k + 1, S + y * (lo + x % (hi - lo + 1) - z), by go_num, by omega, by go_num, by rw [HL.out]; omega, by rw [HG.out]; omega, by rw [HL.out, g1], by rw [HG.out, g2], ?_⟩
                exact ⟨_, rfl⟩
              case measure => simp [intOf]; omega
            · skip
              go_wp2_with fail
              go_quiet (fail)
              go_wp2_with fail
              go_roundw
              case rel =>
                have g1 := HEN.out.1; have g2 := HEN.out.2
                rw [if_neg (show ¬ y < 0 by omega)] at g1 g2
                have i1 := HIN.out
                refine ⟨k + 1, S + y * (lo + x % (hi - lo + 1) - z), by go_num, by omega, by go_num, by rw [HL.out]; omega, by rw [HG.out]; omega, by rw [HL.out, g1], by rw [HG.out, g2], ?_⟩
                exact ⟨_, rfl⟩
              case measure => simp [intOf]; omega
          · have hkk : ws.take k = ws := List.take_of_length_le (by omega)
            rw [hkk] at hS0 hS1 ⊢
            rw [← HA.out, ← HB.out] 
            rw [← HA.out] at hS0
            rw [← HB.out] at hS1
            have z1 : A2 ≤ A := by rw [HA2.out, HA.out]; exact rowLo_gaps ws lo hi z _ _ (Int.le_refl _)
            have z2 : B ≤ B2 := by rw [HB2.out, HB.out]; exact rowHi_gaps ws lo hi z _ _ (Int.le_refl _)
            have z3 : A2 ≤ bias := by rw [HA2.out]; exact rowLo_bias ws lo hi z _ _ (Int.le_refl _)
            have z4 : bias ≤ B2 := by rw [HB2.out]; exact rowHi_bias ws lo hi z _ _ (Int.le_refl _)
            have c0 := hr4.cell 0
            have c1 := hr4.cell 1
            have d0 := hg.cell 0
            have d1 := hg.cell 1
            simp only [List.getElem?_toArray, List.getElem?_cons_zero, List.getElem?_cons_succ] at c0 c1 d0 d1
            go_wp2_with (go_at_call 27; refine (known24_any _).mono ?_; rintro e w9 ⟨rfl, hb9⟩)
            go_ret
            exact ⟨rfl, bl_step (below_drewN hbw4 n) hb9⟩
      · go_enter Try.func7, Try.ntmps7
        go_wp2_with (go_at_call 27; refine (known24_any _).mono ?_; rintro e w9 ⟨rfl, hb9⟩)
        go_ret
        exact ⟨rfl, hb9⟩
    · go_enter Try.func7, Try.ntmps7
      go_wp2_with (go_at_call 27; refine (known24_any _).mono ?_; rintro e w9 ⟨rfl, hb9⟩)
      go_ret
      exact ⟨rfl, hb9⟩
  · go_enter Try.func7, Try.ntmps7
    go_wp2_with (go_at_call 27; refine (known24_any _).mono ?_; rintro e w9 ⟨rfl, hb9⟩)
    go_ret
    exact ⟨rfl, hb9⟩
end Go.Proofs.Ytolpecacibmkjaa
