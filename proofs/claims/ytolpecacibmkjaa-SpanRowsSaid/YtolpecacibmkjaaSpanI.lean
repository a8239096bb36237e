/- Ranges: all rows of a node. No condition. -/
import Derived.Test.YtolpecacibmkjaaSpanH
import Derived.Test.YtolpecacibmkjaaNodeA
import Derived.Outline
namespace Go.Proofs.Ytolpecacibmkjaa
open Go.RowKit

/-- The weights of row o, each row of E. -/
def seg (ws : List Int) (E o : Nat) : List Int := (ws.drop (o * E)).take E
theorem seg_len (ws : List Int) (E o : Nat) (h : (o + 1) * E ≤ ws.length) : (seg ws E o).length = E := by
  unfold seg; rw [List.length_take, List.length_drop]; rw [Nat.add_mul] at h; omega
theorem seg_mem (ws : List Int) (E o : Nat) : ∀ x ∈ seg ws E o, x ∈ ws := fun x hx => List.mem_of_mem_drop (List.mem_of_mem_take hx)

/-- Part of a slice. -/
theorem Rd.sub {w : World} {b off cap : Nat} {xs : List Value} (h : Rd w (.slice (some ⟨b, off, none⟩) xs.length cap) xs) (lo n : Nat) (hn : lo + n ≤ xs.length) :
    Rd w (.slice (some ⟨b, off + lo, none⟩) n (cap - lo)) ((xs.drop lo).take n) := by
  obtain ⟨ao, cap', he, hcap, hc⟩ := h
  injection he with h1 h2 h3
  subst h1 h3
  have hl : ((xs.drop lo).take n).length = n := by simp; omega
  refine ⟨_, _, by rw [hl], ⟨by rw [hl]; omega, by omega, by simp⟩, fun hne => ⟨b, off + lo, rfl, fun j hj => ?_⟩⟩
  rw [hl] at hj
  obtain ⟨b', off', e, hk⟩ := hc (by intro h; subst h; simp at hne)
  injection e with e; injection e with e1 e2 _
  subst e1 e2
  have := hk (lo + j) (by omega)
  rw [show off + lo + j = off + (lo + j) from by omega, this]
  simp

def allL (ws bs : List Int) (lo hi z : Int) (gaps : Bool) : List (Int × Int) :=
  if bs.length = 0 ∨ ws.length % bs.length ≠ 0 then [] else
    (List.range bs.length).map fun o => (rowLo (seg ws (ws.length / bs.length) o) (bs.getD o 0) lo hi z gaps, rowHi (seg ws (ws.length / bs.length) o) (bs.getD o 0) lo hi z gaps)

set_option maxHeartbeats 1600000 in
set_option maxRecDepth 100000 in
theorem spanAll_any (n : Nd) (ws bs : List Int) (lo hi : Int) (w : World) (ok : n.Ok) (hW : Rd w n.vw (ws.map (Value.int .i8))) (hB : Rd w n.vb (bs.map (Value.int .i32))) (hwl : ws.length ≤ 1000000) (hbl : bs.length ≤ 1000000)
    (hw8 : ∀ x ∈ ws, -128 ≤ x ∧ x ≤ 127) (hb32 : ∀ x ∈ bs, -2147483648 ≤ x ∧ x ≤ 2147483647) (l0 : -128 ≤ lo) (l1 : lo ≤ 127) (k0 : -128 ≤ hi) (k1 : hi ≤ 127) :
    Calls Try.prog 31 #[.agg n.cs, .int .i8 lo, .int .i8 hi] w fun e w' => ∃ v, e = .returned v ∧ OwnN w.heap.size 2 w' 41 v (rgs (allL ws bs lo hi n.za (decide (0 < n.np)))) ∧ Below w.heap.size w w' := by
  obtain ⟨aw, cw, evw, hle, hm, haw⟩ := hW.ints
  obtain ⟨ab, cb, evb, hle2, hm2, hab⟩ := hB.ints
  have hn := NdAt.new w n 51
  have c9 := hn 9 n.vw rfl
  have c10 := hn 10 n.vb rfl
  have c5 := hn 5 (.int .i64 n.np) rfl
  have c7 := hn 7 (.int .i8 n.za) rfl
  rw [evw] at c9
  rw [evb] at c10
  have HW8 := Lib.hid hw8; have HB32 := Lib.hid hb32; have HEW := Lib.hid evw; have HEB := Lib.hid evb
  clear hw8 hb32
  by_cases hb0 : bs.length = 0
  · have hz : ((bs.length : Int) == 0) = true := by rw [beq_iff_eq]; omega
    have HA : Hid (allL ws bs lo hi n.za (decide (0 < n.np)) = []) := by
      refine Lib.hid ?_; unfold allL; rw [if_pos (.inl hb0)]
    clear hb0 evw evb
    go_enter Try.func31, Try.ntmps31
    go_wp2
    go_ret
    exact ⟨_, rfl, by rw [HA.out]; exact OwnN.nil _ _ _ _, (Below.refl _ _).alloc (Nat.le_refl _) _⟩
  · have hz : ((bs.length : Int) == 0) = false := by rw [beq_eq_false_iff_ne]; omega
    have hpos : 0 < (bs.length : Int) := by omega
    by_cases hmod : ws.length % bs.length = 0
    · have hmz : (((ws.length : Int) % (bs.length : Int)) == 0) = true := by rw [beq_iff_eq]; omega
      have hmz2 : (((ws.length : Int) % (bs.length : Int)) != 0) = false := by simp only [bne, hmz]; rfl
      obtain ⟨E, hE⟩ : ∃ E, E = ws.length / bs.length := ⟨_, rfl⟩
      have hEW : bs.length * E = ws.length := by rw [hE]; have := Nat.div_add_mod ws.length bs.length; omega
      have hEi : (ws.length : Int) / (bs.length : Int) = (E : Int) := by rw [hE]; simp
      have HAL : Hid (allL ws bs lo hi n.za (decide (0 < n.np)) = (List.range bs.length).map fun o => (rowLo (seg ws E o) (bs.getD o 0) lo hi n.za (decide (0 < n.np)), rowHi (seg ws E o) (bs.getD o 0) lo hi n.za (decide (0 < n.np)))) := by
        refine Lib.hid ?_; unfold allL; rw [if_neg (by omega), hE]
      have hEle : E ≤ ws.length := by rw [← hEW]; exact Nat.le_mul_of_pos_left _ (by omega)
      have HEW2 := Lib.hid hEW
      have hE0 : (0 : Int) ≤ (E : Int) := by omega
      have hE1 : (E : Int) ≤ 1000000 := by omega
      obtain ⟨F, hF⟩ : ∃ F : Nat → Int × Int, F = fun o => (rowLo (seg ws E o) (bs.getD o 0) lo hi n.za (decide (0 < n.np)), rowHi (seg ws E o) (bs.getD o 0) lo hi n.za (decide (0 < n.np))) := ⟨_, rfl⟩
      rw [← hF] at HAL
      have HF := Lib.hid hF
      obtain ⟨ii, hi', hz0, hz1, hz2⟩ := info_parts (show (Try.prog.info? 41).map (fun i => (i.zero, i.size, i.bytes)) = some (some (.agg #[.int .i64 0, .int .i64 0]), 2, 16) from by kernel_rfl)
      have INF := Lib.hid hi'; have I0 := Lib.hid hz0; have I1 := Lib.hid hz1; have I2 := Lib.hid hz2
      clear hE hb0 hmod evw evb hF hEW hi' hz0 hz1 hz2
      go_enter Try.func31, Try.ntmps31
      go_wp2_with fail
      obtain ⟨w1, hw1⟩ : ∃ w1, w1 = w.alloc (.cells n.cs 51) := ⟨_, rfl⟩
      rw [← hw1] at c9 c10 c5 c7 ⊢
      have hs1 : w.heap.size ≤ w1.heap.size := by rw [hw1]; simp
      have hb1 : Below w.heap.size w w1 := by rw [hw1]; exact (Below.refl _ _).alloc (Nat.le_refl _) _
      have hlN : w.heap.size < w1.heap.size := lt_of_cell c9
      clear hw1 hn
      go_loopw [8, 9, 10, 35] (fun v _ _ i wr => ∃ (k : Nat), i = .int .i64 k ∧ k ≤ bs.length ∧ OwnN w1.heap.size 2 wr 41 v (rgs ((List.range k).map F)) ∧ Below w1.heap.size w1 wr) (fun _ _ _ i _ => bs.length - (intOf i).toNat)
      case atStart => exact ⟨0, rfl, by omega, OwnN.nil _ _ _ _, Below.refl _ _⟩
      case round =>
        obtain ⟨k, rfl, hk, hown, hb⟩ := hrel
        by_cases hlt : k < bs.length
        · obtain ⟨bb, ob, rfl, hcb⟩ := hab (by intro h; subst h; simp at hlt)
          have cb := bl_get hb (bl_get hb1 (hcb k hlt))
          obtain ⟨B0, B1⟩ := HB32.out bs[k] (List.getElem_mem hlt)
          have hgd : bs.getD k 0 = bs[k] := by simp [List.getD, hlt]
          obtain ⟨bk, hbk⟩ : ∃ bk, bk = bs[k] := ⟨_, rfl⟩
          rw [← hbk] at cb B0 B1 hgd
          obtain ⟨R, hR⟩ : ∃ R, R = F k := ⟨_, rfl⟩
          have hR1 : R = (rowLo (seg ws E k) bk lo hi n.za (decide (0 < n.np)), rowHi (seg ws E k) bk lo hi n.za (decide (0 < n.np))) := by rw [hR, HF.out, ← hgd]
          have HR := Lib.hid hR.symm; have HR1 := Lib.hid hR1
          clear hR hR1 hgd hbk
          have hltB : decide ((k : Int) < (bs.length : Int)) = true := by rw [decide_eq_true_eq]; omega
          have kk0 : (0 : Int) ≤ (k : Int) := by omega
          have kk1 : (k : Int) < (bs.length : Int) := by omega
          have d9 := bl_get hb c9
          have d5 := bl_get hb c5
          have d7 := bl_get hb c7
          have HO := Lib.hid hown
          obtain ⟨z0, z1⟩ := wf_i8 ok.za
          have hkE : (k + 1) * E ≤ ws.length := by rw [← HEW2.out]; exact Nat.mul_le_mul_right E hlt
          have hkE2 : (k + 1) * E = k * E + E := by rw [Nat.add_mul]; omega
          have hsl := seg_len ws E k hkE
          have hsm := seg_mem ws E k
          by_cases hEz : E = 0
          · have hcwn : aw = none → cw = 0 := by
              obtain ⟨ao', cap', e, hcap, _⟩ := hW
              rw [HEW.out] at e; injection e with e1 e2 e3
              subst e1 e3; exact hcap.2.2
            have hkE3 : ((k : Int) + 1) * (E : Int) = (k : Int) * (E : Int) + (E : Int) := by rw [Int.add_mul]; omega
            have hkE4 : ((k * E : Nat) : Int) = (k : Int) * (E : Int) := by simp
            have e1 : 0 ≤ (k : Int) * (E : Int) := by omega
            have e2 : (k : Int) * (E : Int) ≤ 1000000 := by omega
            have e3 : ((k : Int) + 1) * (E : Int) ≤ (ws.length : Int) := by omega
            have e4 : (k : Int) * (E : Int) ≤ ((k : Int) + 1) * (E : Int) := by omega
            have e5 : ((k : Int) + 1) * (E : Int) ≤ (cw : Int) := by omega
            have e6 : 0 ≤ ((k : Int) + 1) * (E : Int) := by omega
            by_cases e7 : k * E = cw
            · subst e7
              have HROW : Hid (∀ wx, Hid (Below wr.heap.size wr wx) → Calls Try.prog 28 #[.slice (aw) ((k + 1) * E - k * E) 0, .int .i32 bk, .int .i8 lo, .int .i8 hi, .int .i8 n.za, .bool (decide (0 < n.np))] wx fun e w' => e = .returned (.agg #[.int .i64 R.1, .int .i64 R.2]) ∧ Below wx.heap.size wx w') := by
                refine Lib.hid (fun wx hx => ?_)
                rw [HR1.out]
                have hse : seg ws E k = [] := List.eq_nil_of_length_eq_zero (by rw [hsl]; exact hEz)
                exact spanRow_any _ (seg ws E k) bk lo hi n.za _ wx (by rw [hse, show (k + 1) * E - k * E = 0 from by omega]; exact ⟨_, _, rfl, ⟨Nat.zero_le _, by unfold maxLen; omega, fun h => by have := hcwn h; omega⟩, fun h => absurd rfl h⟩) (by rw [hsl]; omega) (fun x hx => HW8.out x (hsm x hx)) B0 B1 l0 l1 k0 k1 z0 z1
              clear hkE hkE2 hkE3 hkE4 hcb hab haw hsl hsm hW hB hown hcwn hEz
              go_wp2_with fail
              refine wp_region_tailA 21 (fun i => List.lookup i [(19, .agg #[.int .i64 R.1, .int .i64 R.2])]) (AV [(19, .agg #[.int .i64 R.1, .int .i64 R.2])] [(20, OneN ([.int .i64 R.1, .int .i64 R.2]))]) (by kernel_rfl) (by kernel_rfl) (by kernel_rfl) (AV_pers _ _ (by intro p hp; simp only [List.mem_cons, List.not_mem_nil, or_false] at hp; rcases hp with rfl <;> (first | exact fun v w w' h hb => Rd.below h hb (Nat.le_refl _) | exact fun v w w' h hb => bl_one h hb | exact fun v w w' h hb => bl_oneN h hb))) (AV_V _ _) ?_
              intro vs hvs
              simp only [List.take_succ_cons, List.take_zero, List.drop_succ_cons, List.drop_zero]
              (refine wpF_ex ?_; apply Exists.intro; apply Exists.intro; refine ⟨fun wx hwx K Qp hK => ?_, ?_, rfl, rfl, ?_⟩; (clear hwx; go_wp2_with fail; exact hK); rfl)
              (refine wpF_ex ?_; apply Exists.intro; apply Exists.intro; refine ⟨fun wx hwx K Qp hK => ?_, ?_, rfl, rfl, ?_⟩; (clear hwx; go_wp2_with fail; exact hK); rfl)
              (refine wpF_ex ?_; apply Exists.intro; apply Exists.intro; refine ⟨fun wx hwx K Qp hK => ?_, ?_, rfl, rfl, ?_⟩; (have d := bl_get hwx.1 d9; clear hwx; go_wp2_with fail; exact hK); rfl)
              (refine wpF_ex ?_; apply Exists.intro; apply Exists.intro; refine ⟨fun wx hwx K Qp hK => ?_, ?_, rfl, rfl, ?_⟩; (clear hwx; go_wp2_with fail; exact hK); rfl)
              (refine wpF_ex ?_; apply Exists.intro; apply Exists.intro; refine ⟨fun wx hwx K Qp hK => ?_, ?_, rfl, rfl, ?_⟩; (clear hwx; go_wp2_with fail; exact hK); rfl)
              (refine wpF_ex ?_; apply Exists.intro; apply Exists.intro; refine ⟨fun wx hwx K Qp hK => ?_, ?_, rfl, rfl, ?_⟩; (clear hwx; go_wp2_with fail; exact hK); rfl)
              (refine wpF_ex ?_; apply Exists.intro; apply Exists.intro; refine ⟨fun wx hwx K Qp hK => ?_, ?_, rfl, rfl, ?_⟩; (clear hwx; go_wp2_with fail; exact hK); rfl)
              (refine wpF_ex ?_; apply Exists.intro; apply Exists.intro; refine ⟨fun wx hwx K Qp hK => ?_, ?_, rfl, rfl, ?_⟩; (clear hwx; go_wp2_with fail; exact hK); rfl)
              (refine wpF_ex ?_; apply Exists.intro; apply Exists.intro; refine ⟨fun wx hwx K Qp hK => ?_, ?_, rfl, rfl, ?_⟩; (clear hwx; go_wp2_with fail; exact hK); rfl)
              (refine wpF_ex ?_; apply Exists.intro; apply Exists.intro; refine ⟨fun wx hwx K Qp hK => ?_, ?_, rfl, rfl, ?_⟩; (clear hwx; go_wp2_with fail; exact hK); rfl)
              (refine wpF_ex ?_; apply Exists.intro; apply Exists.intro; refine ⟨fun wx hwx K Qp hK => ?_, ?_, rfl, rfl, ?_⟩; (clear hwx; go_wp2_with fail; exact hK); rfl)
              (refine wpF_ex ?_; apply Exists.intro; apply Exists.intro; refine ⟨fun wx hwx K Qp hK => ?_, ?_, rfl, rfl, ?_⟩; (clear hwx; go_wp2_with fail; exact hK); rfl)
              (refine wpF_ex ?_; apply Exists.intro; apply Exists.intro; refine ⟨fun wx hwx K Qp hK => ?_, ?_, rfl, rfl, ?_⟩; (clear hwx; go_wp2_with fail; exact hK); rfl)
              (refine wpF_ex ?_; apply Exists.intro; apply Exists.intro; refine ⟨fun wx hwx K Qp hK => ?_, ?_, rfl, rfl, ?_⟩; (clear hwx; go_wp2_with fail; exact hK); rfl)
              (refine wpF_ex ?_; apply Exists.intro; apply Exists.intro; refine ⟨fun wx hwx K Qp hK => ?_, ?_, rfl, rfl, ?_⟩; (clear hwx; go_wp2_with fail; exact hK); rfl)
              (refine wpF_ex ?_; apply Exists.intro; apply Exists.intro; refine ⟨fun wx hwx K Qp hK => ?_, ?_, rfl, rfl, ?_⟩; (have d := bl_get hwx.1 d7; clear hwx; go_wp2_with fail; exact hK); rfl)
              (refine wpF_ex ?_; apply Exists.intro; apply Exists.intro; refine ⟨fun wx hwx K Qp hK => ?_, ?_, rfl, rfl, ?_⟩; (clear hwx; go_wp2_with fail; exact hK); rfl)
              (refine wpF_ex ?_; apply Exists.intro; apply Exists.intro; refine ⟨fun wx hwx K Qp hK => ?_, ?_, rfl, rfl, ?_⟩; (have d := bl_get hwx.1 d5; clear hwx; go_wp2_with fail; exact hK); rfl)
              (refine wpF_ex ?_; apply Exists.intro; apply Exists.intro; refine ⟨fun wx hwx K Qp hK => ?_, ?_, rfl, rfl, ?_⟩; (clear hwx; go_wp2_with fail; exact hK); rfl)
              (refine wpF_valA (.agg #[.int .i64 R.1, .int .i64 R.2]) rfl (hvs 19 _ rfl) ?_; apply Exists.intro; refine ⟨fun wx hwx K Qp hK => ?_, ?_, rfl, ?_⟩; (have hx1 := Lib.hid hwx.1; clear hwx; go_wp2_with fail; refine (HROW.out wx hx1).mono ?_; rintro e w' ⟨rfl, hb⟩; exact hK _ hb); rfl)
              (refine wpF_newx _ rfl ?_; apply Exists.intro; refine ⟨fun wx hwx K Qp hK => ?_, rfl, rfl, ?_⟩; (clear hwx; go_wp2_with fail; exact hK _ _ ((Below.refl _ _).alloc (Nat.le_refl _) _) (OneN.new _ _ ([.int .i64 R.1, .int .i64 R.2]))))
              refine wpF_nil ?_
              intro w9 hb9 hp9
              obtain ⟨g, hg, hcg⟩ := hp9 _ _ List.mem_cons_self
              rw [hg]
              clear hp9
              refine wpList_appGN rfl _ _ 45 rfl w1.heap.size 2 41 ii _ 16 Try.underlying45 INF.out I0.out I1.out I2.out (by decide) rfl (by decide) _ _ w9 [.int .i64 R.1, .int .i64 R.2] g (HO.out.below hb9 (Nat.le_refl _)) rfl rfl hcg rfl (by intro u hu; simp at hu; rcases hu with rfl | rfl <;> rfl) (by rw [rgs_len]; simp; omega) (Nat.le_trans hb.size hb9.size) ?_
              intro v' w10 hown' hb10
              have hbw : Below w1.heap.size w1 w10 := (hb.trans (hb9.mono hb.size)).trans hb10
              have HO2 := Lib.hid hown'; have HBW := Lib.hid hbw
              clear hown' hbw hg hcg hb10 hb9 d9 d5 d7 cb
              go_wp2_with fail
              go_roundw
              case rel =>
                refine ⟨k + 1, by go_num, by omega, ?_, HBW.out⟩
                have e : rgs ((List.range (k + 1)).map F) = rgs ((List.range k).map F) ++ [[.int .i64 R.1, .int .i64 R.2]] := by
                  unfold rgs; rw [List.range_succ, List.map_append, List.map_append]; simp only [List.map_cons, List.map_nil, HR.out]
                rw [e]; exact HO2.out
              case measure => simp [intOf]; omega
            · skip
              have HROW : Hid (∀ wx, Hid (Below wr.heap.size wr wx) → Calls Try.prog 28 #[.slice (Option.map (fun x => x.add (k * E)) aw) ((k + 1) * E - k * E) (cw - k * E), .int .i32 bk, .int .i8 lo, .int .i8 hi, .int .i8 n.za, .bool (decide (0 < n.np))] wx fun e w' => e = .returned (.agg #[.int .i64 R.1, .int .i64 R.2]) ∧ Below wx.heap.size wx w') := by
                refine Lib.hid (fun wx hx => ?_)
                rw [HR1.out]
                have hse : seg ws E k = [] := List.eq_nil_of_length_eq_zero (by rw [hsl]; exact hEz)
                exact spanRow_any _ (seg ws E k) bk lo hi n.za _ wx (by rw [hse, show (k + 1) * E - k * E = 0 from by omega]; exact ⟨_, _, rfl, ⟨Nat.zero_le _, by unfold maxLen; omega, fun h => by have := hcwn (by cases aw with | none => rfl | some a => simp at h); omega⟩, fun h => absurd rfl h⟩) (by rw [hsl]; omega) (fun x hx => HW8.out x (hsm x hx)) B0 B1 l0 l1 k0 k1 z0 z1
              clear hkE hkE2 hkE3 hkE4 hcb hab haw hsl hsm hW hB hown hcwn hEz
              go_wp2_with fail
              refine wp_region_tailA 21 (fun i => List.lookup i [(19, .agg #[.int .i64 R.1, .int .i64 R.2])]) (AV [(19, .agg #[.int .i64 R.1, .int .i64 R.2])] [(20, OneN ([.int .i64 R.1, .int .i64 R.2]))]) (by kernel_rfl) (by kernel_rfl) (by kernel_rfl) (AV_pers _ _ (by intro p hp; simp only [List.mem_cons, List.not_mem_nil, or_false] at hp; rcases hp with rfl <;> (first | exact fun v w w' h hb => Rd.below h hb (Nat.le_refl _) | exact fun v w w' h hb => bl_one h hb | exact fun v w w' h hb => bl_oneN h hb))) (AV_V _ _) ?_
              intro vs hvs
              simp only [List.take_succ_cons, List.take_zero, List.drop_succ_cons, List.drop_zero]
              (refine wpF_ex ?_; apply Exists.intro; apply Exists.intro; refine ⟨fun wx hwx K Qp hK => ?_, ?_, rfl, rfl, ?_⟩; (clear hwx; go_wp2_with fail; exact hK); rfl)
              (refine wpF_ex ?_; apply Exists.intro; apply Exists.intro; refine ⟨fun wx hwx K Qp hK => ?_, ?_, rfl, rfl, ?_⟩; (clear hwx; go_wp2_with fail; exact hK); rfl)
              (refine wpF_ex ?_; apply Exists.intro; apply Exists.intro; refine ⟨fun wx hwx K Qp hK => ?_, ?_, rfl, rfl, ?_⟩; (have d := bl_get hwx.1 d9; clear hwx; go_wp2_with fail; exact hK); rfl)
              (refine wpF_ex ?_; apply Exists.intro; apply Exists.intro; refine ⟨fun wx hwx K Qp hK => ?_, ?_, rfl, rfl, ?_⟩; (clear hwx; go_wp2_with fail; exact hK); rfl)
              (refine wpF_ex ?_; apply Exists.intro; apply Exists.intro; refine ⟨fun wx hwx K Qp hK => ?_, ?_, rfl, rfl, ?_⟩; (clear hwx; go_wp2_with fail; exact hK); rfl)
              (refine wpF_ex ?_; apply Exists.intro; apply Exists.intro; refine ⟨fun wx hwx K Qp hK => ?_, ?_, rfl, rfl, ?_⟩; (clear hwx; go_wp2_with fail; exact hK); rfl)
              (refine wpF_ex ?_; apply Exists.intro; apply Exists.intro; refine ⟨fun wx hwx K Qp hK => ?_, ?_, rfl, rfl, ?_⟩; (clear hwx; go_wp2_with fail; exact hK); rfl)
              (refine wpF_ex ?_; apply Exists.intro; apply Exists.intro; refine ⟨fun wx hwx K Qp hK => ?_, ?_, rfl, rfl, ?_⟩; (clear hwx; go_wp2_with fail; exact hK); rfl)
              (refine wpF_ex ?_; apply Exists.intro; apply Exists.intro; refine ⟨fun wx hwx K Qp hK => ?_, ?_, rfl, rfl, ?_⟩; (clear hwx; go_wp2_with fail; exact hK); rfl)
              (refine wpF_ex ?_; apply Exists.intro; apply Exists.intro; refine ⟨fun wx hwx K Qp hK => ?_, ?_, rfl, rfl, ?_⟩; (clear hwx; go_wp2_with fail; exact hK); rfl)
              (refine wpF_ex ?_; apply Exists.intro; apply Exists.intro; refine ⟨fun wx hwx K Qp hK => ?_, ?_, rfl, rfl, ?_⟩; (clear hwx; go_wp2_with fail; exact hK); rfl)
              (refine wpF_ex ?_; apply Exists.intro; apply Exists.intro; refine ⟨fun wx hwx K Qp hK => ?_, ?_, rfl, rfl, ?_⟩; (clear hwx; go_wp2_with fail; exact hK); rfl)
              (refine wpF_ex ?_; apply Exists.intro; apply Exists.intro; refine ⟨fun wx hwx K Qp hK => ?_, ?_, rfl, rfl, ?_⟩; (clear hwx; go_wp2_with fail; exact hK); rfl)
              (refine wpF_ex ?_; apply Exists.intro; apply Exists.intro; refine ⟨fun wx hwx K Qp hK => ?_, ?_, rfl, rfl, ?_⟩; (clear hwx; go_wp2_with fail; exact hK); rfl)
              (refine wpF_ex ?_; apply Exists.intro; apply Exists.intro; refine ⟨fun wx hwx K Qp hK => ?_, ?_, rfl, rfl, ?_⟩; (clear hwx; go_wp2_with fail; exact hK); rfl)
              (refine wpF_ex ?_; apply Exists.intro; apply Exists.intro; refine ⟨fun wx hwx K Qp hK => ?_, ?_, rfl, rfl, ?_⟩; (have d := bl_get hwx.1 d7; clear hwx; go_wp2_with fail; exact hK); rfl)
              (refine wpF_ex ?_; apply Exists.intro; apply Exists.intro; refine ⟨fun wx hwx K Qp hK => ?_, ?_, rfl, rfl, ?_⟩; (clear hwx; go_wp2_with fail; exact hK); rfl)
              (refine wpF_ex ?_; apply Exists.intro; apply Exists.intro; refine ⟨fun wx hwx K Qp hK => ?_, ?_, rfl, rfl, ?_⟩; (have d := bl_get hwx.1 d5; clear hwx; go_wp2_with fail; exact hK); rfl)
              (refine wpF_ex ?_; apply Exists.intro; apply Exists.intro; refine ⟨fun wx hwx K Qp hK => ?_, ?_, rfl, rfl, ?_⟩; (clear hwx; go_wp2_with fail; exact hK); rfl)
              (refine wpF_valA (.agg #[.int .i64 R.1, .int .i64 R.2]) rfl (hvs 19 _ rfl) ?_; apply Exists.intro; refine ⟨fun wx hwx K Qp hK => ?_, ?_, rfl, ?_⟩; (have hx1 := Lib.hid hwx.1; clear hwx; go_wp2_with fail; refine (HROW.out wx hx1).mono ?_; rintro e w' ⟨rfl, hb⟩; exact hK _ hb); rfl)
              (refine wpF_newx _ rfl ?_; apply Exists.intro; refine ⟨fun wx hwx K Qp hK => ?_, rfl, rfl, ?_⟩; (clear hwx; go_wp2_with fail; exact hK _ _ ((Below.refl _ _).alloc (Nat.le_refl _) _) (OneN.new _ _ ([.int .i64 R.1, .int .i64 R.2]))))
              refine wpF_nil ?_
              intro w9 hb9 hp9
              obtain ⟨g, hg, hcg⟩ := hp9 _ _ List.mem_cons_self
              rw [hg]
              clear hp9
              refine wpList_appGN rfl _ _ 45 rfl w1.heap.size 2 41 ii _ 16 Try.underlying45 INF.out I0.out I1.out I2.out (by decide) rfl (by decide) _ _ w9 [.int .i64 R.1, .int .i64 R.2] g (HO.out.below hb9 (Nat.le_refl _)) rfl rfl hcg rfl (by intro u hu; simp at hu; rcases hu with rfl | rfl <;> rfl) (by rw [rgs_len]; simp; omega) (Nat.le_trans hb.size hb9.size) ?_
              intro v' w10 hown' hb10
              have hbw : Below w1.heap.size w1 w10 := (hb.trans (hb9.mono hb.size)).trans hb10
              have HO2 := Lib.hid hown'; have HBW := Lib.hid hbw
              clear hown' hbw hg hcg hb10 hb9 d9 d5 d7 cb
              go_wp2_with fail
              go_roundw
              case rel =>
                refine ⟨k + 1, by go_num, by omega, ?_, HBW.out⟩
                have e : rgs ((List.range (k + 1)).map F) = rgs ((List.range k).map F) ++ [[.int .i64 R.1, .int .i64 R.2]] := by
                  unfold rgs; rw [List.range_succ, List.map_append, List.map_append]; simp only [List.map_cons, List.map_nil, HR.out]
                rw [e]; exact HO2.out
              case measure => simp [intOf]; omega
          · obtain ⟨bw, ow, rfl, hcw⟩ := haw (by intro h; subst h; simp at hkE; omega)
            have hkE3 : ((k : Int) + 1) * (E : Int) = (k : Int) * (E : Int) + (E : Int) := by rw [Int.add_mul]; omega
            have hkE4 : ((k * E : Nat) : Int) = (k : Int) * (E : Int) := by simp
            have e1 : 0 ≤ (k : Int) * (E : Int) := by omega
            have e2 : (k : Int) * (E : Int) ≤ 1000000 := by omega
            have e3 : ((k : Int) + 1) * (E : Int) ≤ (ws.length : Int) := by omega
            have e4 : (k : Int) * (E : Int) ≤ ((k : Int) + 1) * (E : Int) := by omega
            have e5 : ((k : Int) + 1) * (E : Int) ≤ (cw : Int) := by omega
            have e6 : 0 ≤ ((k : Int) + 1) * (E : Int) := by omega
            have e7 : ¬ k * E = cw := by omega
            have hrd : Rd wr (.slice (some ⟨bw, ow + k * E, none⟩) ((k + 1) * E - k * E) (cw - k * E)) ((seg ws E k).map (Value.int .i8)) := by
              have h1 := (hW.below hb1 (Nat.le_refl _)).below hb (Nat.le_refl _)
              rw [HEW.out] at h1
              have h2 := Rd.sub (xs := ws.map (Value.int .i8)) (by rw [List.length_map]; exact h1) (k * E) E (by rw [List.length_map]; omega)
              rw [show (k + 1) * E - k * E = E from by omega]
              unfold seg; rw [List.map_take, List.map_drop]; exact h2
            have HROW : Hid (∀ wx, Hid (Below wr.heap.size wr wx) → Calls Try.prog 28 #[.slice (some ⟨bw, ow + k * E, none⟩) ((k + 1) * E - k * E) (cw - k * E), .int .i32 bk, .int .i8 lo, .int .i8 hi, .int .i8 n.za, .bool (decide (0 < n.np))] wx fun e w' => e = .returned (.agg #[.int .i64 R.1, .int .i64 R.2]) ∧ Below wx.heap.size wx w') := by
              refine Lib.hid (fun wx hx => ?_)
              rw [HR1.out]
              exact spanRow_any _ (seg ws E k) bk lo hi n.za _ wx (hrd.below hx.out (Nat.le_refl _)) (by rw [hsl]; omega) (fun x hx => HW8.out x (hsm x hx)) B0 B1 l0 l1 k0 k1 z0 z1
            clear hrd hown hkE hkE2 hkE3 hkE4 hcb hab hcw hsl hsm hW hB
            go_wp2_with fail
            refine wp_region_tailA 21 (fun i => List.lookup i [(19, .agg #[.int .i64 R.1, .int .i64 R.2])]) (AV [(19, .agg #[.int .i64 R.1, .int .i64 R.2])] [(20, OneN ([.int .i64 R.1, .int .i64 R.2]))]) (by kernel_rfl) (by kernel_rfl) (by kernel_rfl) (AV_pers _ _ (by intro p hp; simp only [List.mem_cons, List.not_mem_nil, or_false] at hp; rcases hp with rfl <;> (first | exact fun v w w' h hb => Rd.below h hb (Nat.le_refl _) | exact fun v w w' h hb => bl_one h hb | exact fun v w w' h hb => bl_oneN h hb))) (AV_V _ _) ?_
            intro vs hvs
            simp only [List.take_succ_cons, List.take_zero, List.drop_succ_cons, List.drop_zero]
            (refine wpF_ex ?_; apply Exists.intro; apply Exists.intro; refine ⟨fun wx hwx K Qp hK => ?_, ?_, rfl, rfl, ?_⟩; (clear hwx; go_wp2_with fail; exact hK); rfl)
            (refine wpF_ex ?_; apply Exists.intro; apply Exists.intro; refine ⟨fun wx hwx K Qp hK => ?_, ?_, rfl, rfl, ?_⟩; (clear hwx; go_wp2_with fail; exact hK); rfl)
            (refine wpF_ex ?_; apply Exists.intro; apply Exists.intro; refine ⟨fun wx hwx K Qp hK => ?_, ?_, rfl, rfl, ?_⟩; (have d := bl_get hwx.1 d9; clear hwx; go_wp2_with fail; exact hK); rfl)
            (refine wpF_ex ?_; apply Exists.intro; apply Exists.intro; refine ⟨fun wx hwx K Qp hK => ?_, ?_, rfl, rfl, ?_⟩; (clear hwx; go_wp2_with fail; exact hK); rfl)
            (refine wpF_ex ?_; apply Exists.intro; apply Exists.intro; refine ⟨fun wx hwx K Qp hK => ?_, ?_, rfl, rfl, ?_⟩; (clear hwx; go_wp2_with fail; exact hK); rfl)
            (refine wpF_ex ?_; apply Exists.intro; apply Exists.intro; refine ⟨fun wx hwx K Qp hK => ?_, ?_, rfl, rfl, ?_⟩; (clear hwx; go_wp2_with fail; exact hK); rfl)
            (refine wpF_ex ?_; apply Exists.intro; apply Exists.intro; refine ⟨fun wx hwx K Qp hK => ?_, ?_, rfl, rfl, ?_⟩; (clear hwx; go_wp2_with fail; exact hK); rfl)
            (refine wpF_ex ?_; apply Exists.intro; apply Exists.intro; refine ⟨fun wx hwx K Qp hK => ?_, ?_, rfl, rfl, ?_⟩; (clear hwx; go_wp2_with fail; exact hK); rfl)
            (refine wpF_ex ?_; apply Exists.intro; apply Exists.intro; refine ⟨fun wx hwx K Qp hK => ?_, ?_, rfl, rfl, ?_⟩; (clear hwx; go_wp2_with fail; exact hK); rfl)
            (refine wpF_ex ?_; apply Exists.intro; apply Exists.intro; refine ⟨fun wx hwx K Qp hK => ?_, ?_, rfl, rfl, ?_⟩; (clear hwx; go_wp2_with fail; exact hK); rfl)
            (refine wpF_ex ?_; apply Exists.intro; apply Exists.intro; refine ⟨fun wx hwx K Qp hK => ?_, ?_, rfl, rfl, ?_⟩; (clear hwx; go_wp2_with fail; exact hK); rfl)
            (refine wpF_ex ?_; apply Exists.intro; apply Exists.intro; refine ⟨fun wx hwx K Qp hK => ?_, ?_, rfl, rfl, ?_⟩; (clear hwx; go_wp2_with fail; exact hK); rfl)
            (refine wpF_ex ?_; apply Exists.intro; apply Exists.intro; refine ⟨fun wx hwx K Qp hK => ?_, ?_, rfl, rfl, ?_⟩; (clear hwx; go_wp2_with fail; exact hK); rfl)
            (refine wpF_ex ?_; apply Exists.intro; apply Exists.intro; refine ⟨fun wx hwx K Qp hK => ?_, ?_, rfl, rfl, ?_⟩; (clear hwx; go_wp2_with fail; exact hK); rfl)
            (refine wpF_ex ?_; apply Exists.intro; apply Exists.intro; refine ⟨fun wx hwx K Qp hK => ?_, ?_, rfl, rfl, ?_⟩; (clear hwx; go_wp2_with fail; exact hK); rfl)
            (refine wpF_ex ?_; apply Exists.intro; apply Exists.intro; refine ⟨fun wx hwx K Qp hK => ?_, ?_, rfl, rfl, ?_⟩; (have d := bl_get hwx.1 d7; clear hwx; go_wp2_with fail; exact hK); rfl)
            (refine wpF_ex ?_; apply Exists.intro; apply Exists.intro; refine ⟨fun wx hwx K Qp hK => ?_, ?_, rfl, rfl, ?_⟩; (clear hwx; go_wp2_with fail; exact hK); rfl)
            (refine wpF_ex ?_; apply Exists.intro; apply Exists.intro; refine ⟨fun wx hwx K Qp hK => ?_, ?_, rfl, rfl, ?_⟩; (have d := bl_get hwx.1 d5; clear hwx; go_wp2_with fail; exact hK); rfl)
            (refine wpF_ex ?_; apply Exists.intro; apply Exists.intro; refine ⟨fun wx hwx K Qp hK => ?_, ?_, rfl, rfl, ?_⟩; (clear hwx; go_wp2_with fail; exact hK); rfl)
            (refine wpF_valA (.agg #[.int .i64 R.1, .int .i64 R.2]) rfl (hvs 19 _ rfl) ?_; apply Exists.intro; refine ⟨fun wx hwx K Qp hK => ?_, ?_, rfl, ?_⟩; (have hx1 := Lib.hid hwx.1; clear hwx; go_wp2_with fail; refine (HROW.out wx hx1).mono ?_; rintro e w' ⟨rfl, hb⟩; exact hK _ hb); rfl)
            (refine wpF_newx _ rfl ?_; apply Exists.intro; refine ⟨fun wx hwx K Qp hK => ?_, rfl, rfl, ?_⟩; (clear hwx; go_wp2_with fail; exact hK _ _ ((Below.refl _ _).alloc (Nat.le_refl _) _) (OneN.new _ _ ([.int .i64 R.1, .int .i64 R.2]))))
            refine wpF_nil ?_
            intro w9 hb9 hp9
            obtain ⟨g, hg, hcg⟩ := hp9 _ _ List.mem_cons_self
            rw [hg]
            clear hp9
            refine wpList_appGN rfl _ _ 45 rfl w1.heap.size 2 41 ii _ 16 Try.underlying45 INF.out I0.out I1.out I2.out (by decide) rfl (by decide) _ _ w9 [.int .i64 R.1, .int .i64 R.2] g (HO.out.below hb9 (Nat.le_refl _)) rfl rfl hcg rfl (by intro u hu; simp at hu; rcases hu with rfl | rfl <;> rfl) (by rw [rgs_len]; simp; omega) (Nat.le_trans hb.size hb9.size) ?_
            intro v' w10 hown' hb10
            have hbw : Below w1.heap.size w1 w10 := (hb.trans (hb9.mono hb.size)).trans hb10
            have HO2 := Lib.hid hown'; have HBW := Lib.hid hbw
            clear hown' hbw hg hcg hb10 hb9 d9 d5 d7 cb
            go_wp2_with fail
            go_roundw
            case rel =>
              refine ⟨k + 1, by go_num, by omega, ?_, HBW.out⟩
              have e : rgs ((List.range (k + 1)).map F) = rgs ((List.range k).map F) ++ [[.int .i64 R.1, .int .i64 R.2]] := by
                unfold rgs; rw [List.range_succ, List.map_append, List.map_append]; simp only [List.map_cons, List.map_nil, HR.out]
              rw [e]; exact HO2.out
            case measure => simp [intOf]; omega
        · obtain rfl : k = bs.length := by omega
          have HO := Lib.hid hown; clear hown
          go_wp2
          go_ret
          exact ⟨_, rfl, by rw [HAL.out]; exact HO.out.mono hs1, hb1.trans (hb.mono hs1)⟩
    · have hmz : (((ws.length : Int) % (bs.length : Int)) == 0) = false := by rw [beq_eq_false_iff_ne]; omega
      have hmz2 : (((ws.length : Int) % (bs.length : Int)) != 0) = true := by simp only [bne, hmz]; rfl
      have HA : Hid (allL ws bs lo hi n.za (decide (0 < n.np)) = []) := by
        refine Lib.hid ?_; unfold allL; rw [if_pos (.inr hmod)]
      clear hb0 hmod evw evb
      go_enter Try.func31, Try.ntmps31
      go_wp2
      go_ret
      exact ⟨_, rfl, by rw [HA.out]; exact OwnN.nil _ _ _ _, (Below.refl _ _).alloc (Nat.le_refl _) _⟩
end Go.Proofs.Ytolpecacibmkjaa
