/- SpanBoth: from where to where all ranges lie, and whether within 32 bits. No condition. -/
import Derived.Test.YtolpecacibmkjaaSpanF
import Derived.Outline
namespace Go.Proofs.Ytolpecacibmkjaa
open Go.RowKit

theorem holdsL_take (ps : List (Int × Int)) (k : Nat) (hlt : k < ps.length) : holdsL (ps.take (k + 1)) = (holdsL (ps.take k) && !outB ps[k]) := by
  unfold holdsL; rw [List.take_succ_eq_append_getElem hlt, List.all_append]; simp only [List.all_cons, List.all_nil, Bool.and_true]
theorem rgs_take (ps : List (Int × Int)) (k : Nat) (hlt : k < ps.length) : rgs (ps.take (k + 1)) = rgs (ps.take k) ++ [[.int .i64 ps[k].1, .int .i64 ps[k].2]] := by
  unfold rgs; rw [List.take_succ_eq_append_getElem hlt, List.map_append]; rfl
theorem loL_take (ps : List (Int × Int)) (k : Nat) (hlt : k < ps.length) (h0 : 0 < k) : loL (ps.take (k + 1)) = if ps[k].1 < loL (ps.take k) then ps[k].1 else loL (ps.take k) := by
  match ps, k, h0 with
  | p :: l, k + 1, _ =>
    have := loF_take p.1 l k (by simpa using hlt)
    exact this
theorem hiL_take (ps : List (Int × Int)) (k : Nat) (hlt : k < ps.length) (h0 : 0 < k) : hiL (ps.take (k + 1)) = if hiL (ps.take k) < ps[k].2 then ps[k].2 else hiL (ps.take k) := by
  match ps, k, h0 with
  | p :: l, k + 1, _ =>
    have := hiF_take p.2 l k (by simpa using hlt)
    exact this

theorem loL_one (ps : List (Int × Int)) (h : 0 < ps.length) : loL (ps.take (0 + 1)) = ps[0].1 := by
  match ps, h with
  | p :: l, _ => rfl
theorem hiL_one (ps : List (Int × Int)) (h : 0 < ps.length) : hiL (ps.take (0 + 1)) = ps[0].2 := by
  match ps, h with
  | p :: l, _ => rfl
set_option maxHeartbeats 3200000 in
set_option maxRecDepth 100000 in
theorem spanBoth_walk (v : Value) (ps : List (Int × Int)) (w : World) (hv : RdN 2 w v (rgs ps)) (hx : ∀ p ∈ ps, (-9223372036854775808 ≤ p.1 ∧ p.1 ≤ 9223372036854775807) ∧ -9223372036854775808 ≤ p.2 ∧ p.2 ≤ 9223372036854775807) :
    Calls Try.prog 8 #[v] w fun e w' => e = .returned (.bool true) ∧ Below w.heap.size w w' := by
  obtain ⟨ao, ca, rfl, hle, hm, ha⟩ := rdN_rgs hv
  have HX := Lib.hid hx; clear hx
  by_cases h200 : ps.length ≤ 200
  · obtain ⟨ii, hi, hz0, hz1, hz2⟩ := info_parts (show (Try.prog.info? 41).map (fun i => (i.zero, i.size, i.bytes)) = some (some (.agg #[.int .i64 0, .int .i64 0]), 2, 16) from by kernel_rfl)
    go_enter Try.func8, Try.ntmps8
    go_wp2_with fail
    go_loopw [3, 4, 5, 6, 7] (fun all h lo hi i wr => ∃ (k : Nat), i = .int .i64 k ∧ k ≤ ps.length ∧ OwnN w.heap.size 2 wr 41 all (rgs (ps.take k)) ∧ h = .bool (holdsL (ps.take k)) ∧
      lo = .int .i64 (loL (ps.take k)) ∧ hi = .int .i64 (hiL (ps.take k)) ∧ Below w.heap.size w wr) (fun _ _ _ _ i _ => ps.length - (intOf i).toNat)
    case atStart => exact ⟨0, rfl, by omega, OwnN.nil _ _ _ _, rfl, rfl, rfl, Below.refl _ _⟩
    case round =>
      obtain ⟨k, rfl, hk, hown, rfl, rfl, rfl, hb⟩ := hrel
      by_cases hlt : k < ps.length
      · obtain ⟨b, o, rfl, hc⟩ := ha (by intro h; subst h; simp at hlt)
        obtain ⟨c0, c1⟩ := hc k hlt
        have c0w := c0
        have c1w := c1
        have C0 := Lib.hid c0w; have C1 := Lib.hid c1w
        replace c0 := bl_get hb c0
        replace c1 := bl_get hb c1
        have hs1 := holdsL_take ps k hlt
        have hs2 := rgs_take ps k hlt
        have E30 : k = 0 → loL (ps.take (0 + 1)) = ps[k].1 := by rintro rfl; exact loL_one ps hlt
        have E40 : k = 0 → hiL (ps.take (0 + 1)) = ps[k].2 := by rintro rfl; exact hiL_one ps hlt
        have hs3 := loL_take ps k hlt
        have hs4 := hiL_take ps k hlt
        obtain ⟨x01, y01⟩ := HX.out ps[k] (List.getElem_mem hlt)
        obtain ⟨p, hp⟩ : ∃ p, p = ps[k] := ⟨_, rfl⟩
        rw [← hp] at c0 c1 hs1 hs2 hs3 hs4 x01 y01 E30 E40
        rw [← hp] at C0 C1
        clear c0w c1w
        obtain ⟨x, y⟩ := p
        have HS1 := Lib.hid hs1; have HS2 := Lib.hid hs2; have HS3 := Lib.hid hs3; have HS4 := Lib.hid hs4; have HO := Lib.hid hown
        have HD : Hid (outB (x, y) = (decide (x < -2147483648) || decide (2147483647 < y))) := rfl
        clear hp hs1 hs2 hs3 hs4 hown hc ha
        obtain ⟨x0, x1⟩ := x01
        obtain ⟨y0, y1⟩ := y01
        have hltB : decide ((k : Int) < (ps.length : Int)) = true := by rw [decide_eq_true_eq]; omega
        have k0 : (0 : Int) ≤ (k : Int) := by omega
        have k1 : (k : Int) < (ps.length : Int) := by omega
        have INF := Lib.hid hi; have I0 := Lib.hid hz0; have I1 := Lib.hid hz1; have I2 := Lib.hid hz2
        clear hi hz0 hz1 hz2
        go_wp2_with fail
        refine wp_region_tailA 13 (fun i => List.lookup i []) (AV [] [(12, OneN ([.int .i64 x, .int .i64 y]))]) (by kernel_rfl) (by kernel_rfl) (by kernel_rfl) (AV_pers _ _ (by intro p hp; simp only [List.mem_cons, List.not_mem_nil, or_false] at hp; rcases hp with rfl <;> (first | exact fun v w w' h hb => Rd.below h hb (Nat.le_refl _) | exact fun v w w' h hb => bl_one h hb | exact fun v w w' h hb => bl_oneN h hb))) (AV_V _ _) ?_
        intro vs hvs
        simp only [List.take_succ_cons, List.take_zero, List.drop_succ_cons, List.drop_zero]
        (refine wpF_ex ?_; apply Exists.intro; apply Exists.intro; refine ⟨fun wx hwx K Qp hK => ?_, ?_, rfl, rfl, ?_⟩; (clear hwx; go_wp2_with fail; exact hK); rfl)
        (refine wpF_ex ?_; apply Exists.intro; apply Exists.intro; refine ⟨fun wx hwx K Qp hK => ?_, ?_, rfl, rfl, ?_⟩; (clear hwx; go_wp2_with fail; exact hK); rfl)
        (refine wpF_ex ?_; apply Exists.intro; apply Exists.intro; refine ⟨fun wx hwx K Qp hK => ?_, ?_, rfl, rfl, ?_⟩; (clear hwx; go_wp2_with fail; exact hK); rfl)
        (refine wpF_ex ?_; apply Exists.intro; apply Exists.intro; refine ⟨fun wx hwx K Qp hK => ?_, ?_, rfl, rfl, ?_⟩; (clear hwx; go_wp2_with fail; exact hK); rfl)
        (refine wpF_ex ?_; apply Exists.intro; apply Exists.intro; refine ⟨fun wx hwx K Qp hK => ?_, ?_, rfl, rfl, ?_⟩; (clear hwx; go_wp2_with fail; exact hK); rfl)
        (refine wpF_ex ?_; apply Exists.intro; apply Exists.intro; refine ⟨fun wx hwx K Qp hK => ?_, ?_, rfl, rfl, ?_⟩; (have d := bl_get hwx.1 c0; clear hwx; go_wp2_with fail; exact hK); rfl)
        (refine wpF_ex ?_; apply Exists.intro; apply Exists.intro; refine ⟨fun wx hwx K Qp hK => ?_, ?_, rfl, rfl, ?_⟩; (clear hwx; go_wp2_with fail; exact hK); rfl)
        (refine wpF_ex ?_; apply Exists.intro; apply Exists.intro; refine ⟨fun wx hwx K Qp hK => ?_, ?_, rfl, rfl, ?_⟩; (clear hwx; go_wp2_with fail; exact hK); rfl)
        (refine wpF_ex ?_; apply Exists.intro; apply Exists.intro; refine ⟨fun wx hwx K Qp hK => ?_, ?_, rfl, rfl, ?_⟩; (clear hwx; go_wp2_with fail; exact hK); rfl)
        (refine wpF_ex ?_; apply Exists.intro; apply Exists.intro; refine ⟨fun wx hwx K Qp hK => ?_, ?_, rfl, rfl, ?_⟩; (clear hwx; go_wp2_with fail; exact hK); rfl)
        (refine wpF_ex ?_; apply Exists.intro; apply Exists.intro; refine ⟨fun wx hwx K Qp hK => ?_, ?_, rfl, rfl, ?_⟩; (have d := bl_get hwx.1 c1; clear hwx; go_wp2_with fail; exact hK); rfl)
        (refine wpF_ex ?_; apply Exists.intro; apply Exists.intro; refine ⟨fun wx hwx K Qp hK => ?_, ?_, rfl, rfl, ?_⟩; (clear hwx; go_wp2_with fail; exact hK); rfl)
        (refine wpF_newx _ rfl ?_; apply Exists.intro; refine ⟨fun wx hwx K Qp hK => ?_, rfl, rfl, ?_⟩; (clear hwx; go_wp2_with fail; exact hK _ _ ((Below.refl _ _).alloc (Nat.le_refl _) _) (OneN.new _ _ ([.int .i64 x, .int .i64 y]))))
        refine wpF_nil ?_
        intro w9 hb9 hp9
        obtain ⟨g, hg, hcg⟩ := hp9 _ _ List.mem_cons_self
        rw [hg]
        clear hp9
        refine wpList_appGN rfl _ _ 45 rfl w.heap.size 2 41 ii _ 16 Try.underlying45 INF.out I0.out I1.out I2.out (by decide) rfl (by decide) _ _ w9 [.int .i64 x, .int .i64 y] g (HO.out.below hb9 (Nat.le_refl _)) rfl rfl hcg rfl (by intro u hu; simp at hu; rcases hu with rfl | rfl <;> rfl) (by rw [rgs_len]; simp; omega) (Nat.le_trans hb.size hb9.size) ?_
        intro v' w10 hown' hb10
        have hbw : Below w.heap.size w w10 := (hb.trans (hb9.mono hb.size)).trans hb10
        clear c0 c1
        have c0 := bl_get hbw C0.out
        have c1 := bl_get hbw C1.out
        have HO2 := Lib.hid hown'
        have HBW := Lib.hid hbw
        clear hown' hbw hg hcg hb10 hb9
        obtain ⟨H, hH⟩ : ∃ H, H = holdsL (ps.take k) := ⟨_, rfl⟩
        rw [← hH] at HS1 ⊢
        clear hH
        obtain ⟨L, hL⟩ : ∃ L, L = loL (ps.take k) := ⟨_, rfl⟩
        obtain ⟨M, hM⟩ : ∃ M, M = hiL (ps.take k) := ⟨_, rfl⟩
        rw [← hL] at HS3 ⊢
        rw [← hM] at HS4 ⊢
        clear hL hM
        by_cases hk0 : k = 0
        · subst hk0
          simp only [Nat.zero_mul, Nat.add_zero] at c0 c1
          have E3 := Lib.hid (E30 rfl); have E4 := Lib.hid (E40 rfl)
          clear E30 E40
          cases H with
          | false =>
            go_wp2_with fail
            go_quiet (fail)
            go_wp2_with fail
            go_quiet (fail)
            go_wp2_with fail
            go_roundw
            case rel => exact ⟨0 + 1, by go_num, by omega, by rw [HS2.out]; exact HO2.out.below (bl_drawn (Below.refl _ _) _) (Nat.le_refl _), by rw [HS1.out, HD.out]; simp [], by rw [E3.out], by rw [E4.out], bl_drawn HBW.out _⟩
            case measure => simp [intOf]; omega
          | true =>
            by_cases h1 : x < -2147483648
            · skip
              go_wp2_with fail
              go_quiet (fail)
              go_wp2_with fail
              go_quiet (fail)
              go_wp2_with fail
              go_roundw
              case rel => exact ⟨0 + 1, by go_num, by omega, by rw [HS2.out]; exact HO2.out.below (bl_drawn (Below.refl _ _) _) (Nat.le_refl _), by rw [HS1.out, HD.out]; simp [h1], by rw [E3.out], by rw [E4.out], bl_drawn HBW.out _⟩
              case measure => simp [intOf]; omega
            · by_cases h2 : 2147483647 < y
              · skip
                go_wp2_with fail
                go_quiet (fail)
                go_wp2_with fail
                go_quiet (fail)
                go_wp2_with fail
                go_roundw
                case rel => exact ⟨0 + 1, by go_num, by omega, by rw [HS2.out]; exact HO2.out.below (bl_drawn (Below.refl _ _) _) (Nat.le_refl _), by rw [HS1.out, HD.out]; simp [h1, h2], by rw [E3.out], by rw [E4.out], bl_drawn HBW.out _⟩
                case measure => simp [intOf]; omega
              · skip
                go_wp2_with fail
                go_quiet (fail)
                go_wp2_with fail
                go_quiet (fail)
                go_wp2_with fail
                go_roundw
                case rel => exact ⟨0 + 1, by go_num, by omega, by rw [HS2.out]; exact HO2.out.below (bl_drawn (Below.refl _ _) _) (Nat.le_refl _), by rw [HS1.out, HD.out]; simp [h1, h2], by rw [E3.out], by rw [E4.out], bl_drawn HBW.out _⟩
                case measure => simp [intOf]; omega
        · have hk0B : ((k : Int) == 0) = false := by rw [beq_eq_false_iff_ne]; omega
          clear E30 E40
          cases H with
          | false =>
            go_wp2_with fail
            go_quiet (fail)
            go_wp2_with fail
            go_roundw
            case rel => exact ⟨k + 1, by go_num, by omega, by rw [HS2.out]; exact HO2.out.below (bl_drawn (Below.refl _ _) _) (Nat.le_refl _), by rw [HS1.out, HD.out]; simp [], by rw [HS3.out (by omega)], by rw [HS4.out (by omega)], bl_drawn HBW.out _⟩
            case measure => simp [intOf]; omega
          | true =>
            by_cases h1 : x < -2147483648
            · skip
              go_wp2_with fail
              go_quiet (fail)
              go_wp2_with fail
              go_roundw
              case rel => exact ⟨k + 1, by go_num, by omega, by rw [HS2.out]; exact HO2.out.below (bl_drawn (Below.refl _ _) _) (Nat.le_refl _), by rw [HS1.out, HD.out]; simp [h1], by rw [HS3.out (by omega)], by rw [HS4.out (by omega)], bl_drawn HBW.out _⟩
              case measure => simp [intOf]; omega
            · by_cases h2 : 2147483647 < y
              · skip
                go_wp2_with fail
                go_quiet (fail)
                go_wp2_with fail
                go_roundw
                case rel => exact ⟨k + 1, by go_num, by omega, by rw [HS2.out]; exact HO2.out.below (bl_drawn (Below.refl _ _) _) (Nat.le_refl _), by rw [HS1.out, HD.out]; simp [h1, h2], by rw [HS3.out (by omega)], by rw [HS4.out (by omega)], bl_drawn HBW.out _⟩
                case measure => simp [intOf]; omega
              · skip
                go_wp2_with fail
                go_quiet (fail)
                go_wp2_with fail
                go_roundw
                case rel => exact ⟨k + 1, by go_num, by omega, by rw [HS2.out]; exact HO2.out.below (bl_drawn (Below.refl _ _) _) (Nat.le_refl _), by rw [HS1.out, HD.out]; simp [h1, h2], by rw [HS3.out (by omega)], by rw [HS4.out (by omega)], bl_drawn HBW.out _⟩
                case measure => simp [intOf]; omega
      · have hkk : ps.take k = ps := List.take_of_length_le (by omega)
        rw [hkk] at hown ⊢
        have HO := Lib.hid hown.rd
        clear hown
        go_wp2_with fail
        refine (holds_any _ ps _ HO.out).mono ?_
        rintro e w1 ⟨rfl, hb1⟩
        go_wp2_with fail
        refine (both_any _ ps _ (HO.out.below hb1 (Nat.le_refl _))).mono ?_
        rintro e w2 ⟨rfl, hb2⟩
        go_wp2_with fail
        refine (known24_any _).mono ?_
        rintro e w3 ⟨rfl, hb3⟩
        go_wp2
        go_ret
        exact ⟨rfl, bl_step (bl_step (bl_step hb hb1) hb2) hb3⟩
  · go_enter Try.func8, Try.ntmps8
    go_wp2_with (go_at_call 27; refine (known24_any _).mono ?_; rintro e w9 ⟨rfl, hb9⟩)
    go_ret
    exact ⟨rfl, hb9⟩

theorem pairs_of (zs : List (List Int)) (h : ∀ l ∈ zs, l.length = 2 ∧ ∀ n ∈ l, (Lit.int .i64 n).wf = true) : ∃ ps : List (Int × Int), zs.map (List.map (Value.int .i64)) = rgs ps ∧ ∀ p ∈ ps, (-9223372036854775808 ≤ p.1 ∧ p.1 ≤ 9223372036854775807) ∧ -9223372036854775808 ≤ p.2 ∧ p.2 ≤ 9223372036854775807 := by
  induction zs with
  | nil => exact ⟨[], rfl, by simp⟩
  | cons l zs ih =>
    obtain ⟨ps, h1, h2⟩ := ih (fun q hq => h q (by simp [hq]))
    obtain ⟨hl, hw⟩ := h l (by simp)
    match l, hl, hw with
    | [x, y], _, hw =>
      refine ⟨(x, y) :: ps, by rw [List.map_cons, h1]; rfl, fun p hp => ?_⟩
      rcases List.mem_cons.1 hp with rfl | hp
      · exact ⟨wf_i64 (hw x (by simp)), wf_i64 (hw y (by simp))⟩
      · exact h2 p hp
end Go.Proofs.Ytolpecacibmkjaa
