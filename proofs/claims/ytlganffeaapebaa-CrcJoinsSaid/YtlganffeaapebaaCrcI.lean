/- CrcJoins: sums are joined. No condition. -/
import Derived.Test.YtlganffeaapebaaCrcH
namespace Go.Proofs.Ytlganffeaapebaa
open Go.RowKit

theorem sum_join (a b : List Int) : stn (8 * b.length) (sumOf a) ^^^ sumOf b = sumOf (a ++ b) := join_sums a b
theorem sum_more (a b : List Int) : moreOf (sumOf a) b = sumOf (a ++ b) := by
  unfold moreOf sumOf; rw [BitVec.not_not, runB_append]

set_option maxHeartbeats 1600000 in
set_option maxRecDepth 100000 in
theorem crcJoins_walk (va vb : Value) (a b : List Int) (w : World) (ha : Rd w va (a.map (Value.int .u8))) (hb : Rd w vb (b.map (Value.int .u8))) (hx : ∀ x ∈ a, 0 ≤ x ∧ x ≤ 255) (hy : ∀ x ∈ b, 0 ≤ x ∧ x ≤ 255) :
    Calls Try.prog 8 #[va, vb] w fun e w' => e = .returned (.bool true) ∧ Below w.heap.size w w' := by
  have ha0 := ha
  have hb0 := hb
  obtain ⟨ao, ca, rfl, _, _⟩ := ha0
  obtain ⟨bo, cb, rfl, _, _⟩ := hb0
  simp only [List.length_map] at ha hb ⊢
  have HX := Lib.hid hx; have HY := Lib.hid hy; clear hx hy
  by_cases h1 : a.length ≤ 1000
  · by_cases h2 : b.length ≤ 1000
    · obtain ⟨i0, hi, hz0, hz1, hz2⟩ := info_parts (show (Try.prog.info? 5).map (fun i => (i.zero, i.size, i.bytes)) = some (some (.int .u8 0), 1, 1) from by kernel_rfl)
      have d1 : decide (1000 < (a.length : Int)) = false := by rw [decide_eq_false_iff_not]; omega
      have d2 : decide (1000 < (b.length : Int)) = false := by rw [decide_eq_false_iff_not]; omega
      go_enter Try.func8, Try.ntmps8
      go_wp2_with (at_builtin; refine hold ?_)
      refine unheld ?_
      refine wpList_appS rfl _ _ 24 rfl w.heap.size 5 i0 (.int .u8 0) 1 Try.underlying24 hi hz0 hz1 hz2 (by decide) rfl _ _ _ _ (Own.empty _ _ _ (Nat.le_refl _)) (ha.below ((Below.refl _ _).alloc (Nat.le_refl _) _) (Nat.le_refl _)) rfl rfl (ints_one _ _) (by simp; omega) (by simp) ?_
      intro v2 w2 hown hb2
      rw [List.nil_append] at hown
      have hbw2 : Below w.heap.size w w2 := ((Below.refl _ _).alloc (Nat.le_refl _) _).trans hb2
      go_wp2_with (at_builtin; refine hold ?_)
      refine unheld ?_
      refine wpList_appS rfl _ _ 24 rfl w.heap.size 5 i0 (.int .u8 0) 1 Try.underlying24 hi hz0 hz1 hz2 (by decide) rfl _ _ _ _ hown (hb.below hbw2 (Nat.le_refl _)) rfl rfl (ints_one _ _) (by simp; omega) hbw2.size ?_
      intro v3 w3 hown3 hb3
      rw [← List.map_append] at hown3
      have hbw3 : Below w.heap.size w w3 := hbw2.trans hb3
      have HJ := Lib.hid (sum_join a b); have HM := Lib.hid (sum_more a b)
      go_wp2_with fail
      refine (crcOf_any _ (a ++ b) _ hown3.rd (by simp; omega) (fun x hx => ?_)).mono ?_
      · rcases List.mem_append.1 hx with h | h
        · exact HX.out x h
        · exact HY.out x h
      rintro e w4 ⟨rfl, hb4⟩
      have hbw4 := bl_stepB hbw3 hb4 hbw3.size
      go_wp2_with fail
      refine (crcOf_any _ a _ (ha.below hbw4 (Nat.le_refl _)) (by omega) HX.out).mono ?_
      rintro e w5 ⟨rfl, hb5⟩
      have hbw5 := bl_step hbw4 hb5
      go_wp2_with fail
      refine (crcMore_any _ _ b _ (hb.below hbw5 (Nat.le_refl _)) (by omega) HY.out).mono ?_
      rintro e w6 ⟨rfl, hb6⟩
      rw [HM.out]
      have hbw6 := bl_step hbw5 hb6
      go_wp2_with fail
      refine (crcOf_any _ a _ (ha.below hbw6 (Nat.le_refl _)) (by omega) HX.out).mono ?_
      rintro e w7 ⟨rfl, hb7⟩
      have hbw7 := bl_step hbw6 hb7
      go_wp2_with fail
      refine (crcOf_any _ b _ (hb.below hbw7 (Nat.le_refl _)) (by omega) HY.out).mono ?_
      rintro e w8 ⟨rfl, hb8⟩
      have hbw8 := bl_step hbw7 hb8
      go_wp2_with fail
      refine (crcJoin_any _ _ b.length _ (by omega)).mono ?_
      rintro e w9 ⟨rfl, hb9⟩
      rw [HJ.out]
      have hbw9 := bl_step hbw8 hb9
      go_wp2_with fail
      refine (known07_any _).mono ?_
      rintro e w10 ⟨rfl, hb10⟩
      go_wp2
      go_ret
      exact ⟨rfl, bl_step hbw9 hb10⟩
    · go_enter Try.func8, Try.ntmps8
      go_wp2_with (go_at_call 23; refine (known07_any _).mono ?_; rintro e w9 ⟨rfl, hb9⟩)
      go_ret
      exact ⟨rfl, hb9⟩
  · go_enter Try.func8, Try.ntmps8
    go_wp2_with (go_at_call 23; refine (known07_any _).mono ?_; rintro e w9 ⟨rfl, hb9⟩)
    go_ret
    exact ⟨rfl, hb9⟩
end Go.Proofs.Ytlganffeaapebaa
