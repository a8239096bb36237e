/- SpanRows: between which numbers rows of weights lie. No condition. -/
import Derived.Test.YtolpecacibmkjaaSpanI
import Derived.Test.YtolpecacibmkjaaSub
import Derived.Outline
namespace Go.Proofs.Ytolpecacibmkjaa
open Go.RowKit

set_option maxHeartbeats 3200000 in
set_option maxRecDepth 100000 in
theorem spanRows_walk (n : Nd) (ws bs : List Int) (lo hi a b : Int) (w : World) (ok : n.Ok) (hW : Rd w n.vw (ws.map (Value.int .i8))) (hB : Rd w n.vb (bs.map (Value.int .i32)))
    (hw8 : ∀ x ∈ ws, -128 ≤ x ∧ x ≤ 127) (hb32 : ∀ x ∈ bs, -2147483648 ≤ x ∧ x ≤ 2147483647) (l0 : -128 ≤ lo) (l1 : lo ≤ 127) (k0 : -128 ≤ hi) (k1 : hi ≤ 127)
    (a0 : -9223372036854775808 ≤ a) (a1 : a ≤ 9223372036854775807) (b0 : -9223372036854775808 ≤ b) (b1 : b ≤ 9223372036854775807) :
    Calls Try.prog 9 #[.agg n.cs, .int .i8 lo, .int .i8 hi, .int .i64 a, .int .i64 b] w fun e w' => e = .returned (.bool true) ∧ Below w.heap.size w w' := by
  obtain ⟨aw, cw, evw, hle, hm, haw⟩ := hW.ints
  obtain ⟨ab, cb, evb, hle2, hm2, hab⟩ := hB.ints
  have hn := NdAt.new w n 51
  have c9 := hn 9 n.vw rfl
  have c10 := hn 10 n.vb rfl
  rw [evw] at c9
  rw [evb] at c10
  have HW8 := Lib.hid hw8; have HB32 := Lib.hid hb32; have HEW := Lib.hid evw; have HEB := Lib.hid evb
  clear hw8 hb32 evw evb
  by_cases h1 : ws.length ≤ 2000
  · by_cases h2 : bs.length ≤ 200
    · go_enter Try.func9, Try.ntmps9
      go_wp2_with (refine wpList_loadN hn rfl _ rfl rfl ?_)
      obtain ⟨w1, hw1⟩ : ∃ w1, w1 = w.alloc (.cells n.cs 51) := ⟨_, rfl⟩
      have hb1 : Below w.heap.size w w1 := by rw [hw1]; exact (Below.refl _ _).alloc (Nat.le_refl _) _
      have hlN : w.heap.size < w1.heap.size := by rw [hw1]; simp
      rw [← hw1] at hn c9 c10 ⊢
      clear hw1
      refine (spanAll_any n ws bs lo hi w1 ok (hW.below hb1 (Nat.le_refl _)) (hB.below hb1 (Nat.le_refl _)) (by omega) (by omega) HW8.out HB32.out l0 l1 k0 k1).mono ?_
      rintro e w2 ⟨v, rfl, hown, hb2⟩
      obtain ⟨al, cl, rfl, hcl, hcm, hal⟩ := rdN_rgs hown.rd
      have hn2 := hn.below hb2
      have c9' := bl_get hb2 c9
      have c10' := bl_get hb2 c10
      have c11 := hn2 11 (.int .i32 n.qm) rfl
      have c12 := hn2 12 (.int .i64 n.qs) rfl
      have c13 := hn2 13 (.int .i8 n.qz) rfl
      have c17 := hn2 17 (.int .i8 n.lo) rfl
      have c18 := hn2 18 (.int .i8 n.hi) rfl
      clear c9 c10
      obtain ⟨m0, m1⟩ := wf_i32 ok.qm
      obtain ⟨z0, z1⟩ := wf_i8 ok.qz
      obtain ⟨L0, L1⟩ := wf_i8 ok.lo
      obtain ⟨H0, H1⟩ := wf_i8 ok.hi
      have HO := Lib.hid hown; clear hown
      go_wp2_with fail
      refine (after_any a b n.qm n.qs n.qz n.lo n.hi _ a0 a1 b0 b1 m0 m1 z0 z1 L0 L1 H0 H1).mono ?_
      rintro e w3 ⟨rfl, hb3⟩
      obtain ⟨X, hX⟩ : ∃ X, X = aftLo a b n.qm n.qs n.qz n.lo n.hi := ⟨_, rfl⟩
      obtain ⟨Y, hY⟩ : ∃ Y, Y = aftHi a b n.qm n.qs n.qz n.lo n.hi := ⟨_, rfl⟩
      have hb13 := bl_step hb2 hb3
      have hn3 := hn.below hb13
      have c9 := bl_get hb3 c9'
      have c10 := bl_get hb3 c10'
      replace c11 := bl_get hb3 c11
      replace c12 := bl_get hb3 c12
      replace c13 := bl_get hb3 c13
      replace c17 := bl_get hb3 c17
      replace c18 := bl_get hb3 c18
      rw [← hX, ← hY]
      have HX := Lib.hid hX; have HY := Lib.hid hY; clear hX hY c9' c10'
      go_wp2_with fail
      refine ((refAfter_any a b n.qm n.qs n.qz n.lo n.hi _ a0 a1 b0 b1 m0 m1 z0 z1 L0 L1 H0 H1).mono (fun e w' h => show e = .returned (.tuple #[.int .i8 X, .int .i8 Y]) ∧ _ from ⟨by rw [HX.out, HY.out]; exact h.1, h.2⟩)).mono ?_
      rintro e w4 ⟨rfl, hb4⟩
      have hb14 := bl_step hb13 hb4
      have d9 := bl_get hb4 c9
      have d10 := bl_get hb4 c10
      have hn4 := hn3.below hb4
      have d5 := hn4 5 (.int .i64 n.np) rfl
      have d7 := hn4 7 (.int .i8 n.za) rfl
      clear c9 c10 c11 c12 c13 c17 c18 hn hn2 hn3
      have hal4 : allL ws bs lo hi n.za (decide (0 < n.np)) ≠ [] → ∃ b off, al = some ⟨b, off, none⟩ ∧ ∀ j (hj : j < (allL ws bs lo hi n.za (decide (0 < n.np))).length), w4.cell? ⟨b, off + j * 2, none⟩ = some (.int .i64 (allL ws bs lo hi n.za (decide (0 < n.np)))[j].1) ∧ w4.cell? ⟨b, off + j * 2 + 1, none⟩ = some (.int .i64 (allL ws bs lo hi n.za (decide (0 < n.np)))[j].2) := by
        intro hne
        obtain ⟨b, off, e, hk⟩ := hal hne
        exact ⟨b, off, e, fun j hj => ⟨bl_get hb4 (bl_get hb3 (hk j hj).1), bl_get hb4 (bl_get hb3 (hk j hj).2)⟩⟩
      have HAL := Lib.hid hal4
      clear hal hal4
      by_cases hb0 : bs.length = 0
      · have hz : ((bs.length : Int) == 0) = true := by rw [beq_iff_eq]; omega
        have hlen : (allL ws bs lo hi n.za (decide (0 < n.np))).length = 0 := by unfold allL; rw [if_pos (.inl hb0)]; rfl
        rw [hlen]
        clear hb0 hlen
        go_wp2_with fail
        refine (known24_any _).mono ?_
        rintro e w5 ⟨rfl, hb5⟩
        go_wp2
        go_ret
        exact ⟨rfl, bl_step (hb1.trans (hb14.mono hb1.size)) hb5⟩
      · have hz : ((bs.length : Int) == 0) = false := by rw [beq_eq_false_iff_ne]; omega
        have hpos : 0 < (bs.length : Int) := by omega
        by_cases hmod : ws.length % bs.length = 0
        · have hmz : (((ws.length : Int) % (bs.length : Int)) == 0) = true := by rw [beq_iff_eq]; omega
          have hmz2 : (((ws.length : Int) % (bs.length : Int)) != 0) = false := by simp only [bne, hmz]; rfl
          obtain ⟨E, hE⟩ : ∃ E, E = ws.length / bs.length := ⟨_, rfl⟩
          have hEW : bs.length * E = ws.length := by rw [hE]; have := Nat.div_add_mod ws.length bs.length; omega
          have hEi : (ws.length : Int) / (bs.length : Int) = (E : Int) := by rw [hE]; simp
          obtain ⟨L, hL⟩ : ∃ L, L = allL ws bs lo hi n.za (decide (0 < n.np)) := ⟨_, rfl⟩
          have hLl : L.length = bs.length := by rw [hL]; unfold allL; rw [if_neg (by omega)]; simp
          have hLk : ∀ k (hk : k < L.length), L[k] = (rowLo (seg ws E k) (bs.getD k 0) lo hi n.za (decide (0 < n.np)), rowHi (seg ws E k) (bs.getD k 0) lo hi n.za (decide (0 < n.np))) := by
            intro k hk
            have : L[k]? = some (rowLo (seg ws E k) (bs.getD k 0) lo hi n.za (decide (0 < n.np)), rowHi (seg ws E k) (bs.getD k 0) lo hi n.za (decide (0 < n.np))) := by
              rw [hL]; unfold allL; rw [if_neg (by omega), hE]; simp [show k < bs.length by omega]
            rw [List.getElem?_eq_getElem hk] at this
            exact Option.some.inj this
          rw [← hL] at HAL hcl ⊢
          have hEle : E ≤ ws.length := by rw [← hEW]; exact Nat.le_mul_of_pos_left _ (by omega)
          have HEW2 := Lib.hid hEW; have HLK := Lib.hid hLk; have HLL := Lib.hid hLl
          have hE0 : (0 : Int) ≤ (E : Int) := by omega
          have hE1 : (E : Int) ≤ 1000000 := by omega
          have hLi : ((L.length : Int) == (bs.length : Int)) = true := by rw [beq_iff_eq]; omega
          have hW4 := hW.below (hb1.trans (hb14.mono hb1.size)) (Nat.le_refl _)
          have hB4 := hB.below (hb1.trans (hb14.mono hb1.size)) (Nat.le_refl _)
          clear hE hb0 hmod hEW hL hLl hLk
          go_wp2_with fail
          go_loopw [17, 18, 19] (fun i _ _ wr => ∃ (k : Nat), i = .int .i64 k ∧ k ≤ bs.length ∧ Below w4.heap.size w4 wr) (fun i _ _ _ => bs.length - (intOf i).toNat)
          case atStart => exact ⟨0, rfl, by omega, Below.refl _ _⟩
          case round =>
            obtain ⟨k, rfl, hk, hb⟩ := hrel
            by_cases hlt : k < bs.length
            · obtain ⟨bb, ob, rfl, hcb⟩ := hab (by intro h; subst h; simp at hlt)
              have cb := bl_get hb (bl_get (hb1.trans (hb14.mono hb1.size)) (hcb k hlt))
              obtain ⟨B0, B1⟩ := HB32.out bs[k] (List.getElem_mem hlt)
              have hgd : bs.getD k 0 = bs[k] := by simp [List.getD, hlt]
              obtain ⟨bk, hbk⟩ : ∃ bk, bk = bs[k] := ⟨_, rfl⟩
              rw [← hbk] at cb B0 B1 hgd
              obtain ⟨R, hR⟩ : ∃ R, R = L[k]'(by rw [HLL.out]; exact hlt) := ⟨_, rfl⟩
              have hR1 : R = (rowLo (seg ws E k) bk lo hi n.za (decide (0 < n.np)), rowHi (seg ws E k) bk lo hi n.za (decide (0 < n.np))) := by rw [hR, HLK.out, ← hgd]
              obtain ⟨bl, ol, rfl, hkl⟩ := HAL.out (by intro h; have := HLL.out; rw [h] at this; simp at this; omega)
              have q0 := bl_get hb (hkl k (by rw [HLL.out]; exact hlt)).1
              have q1 := bl_get hb (hkl k (by rw [HLL.out]; exact hlt)).2
              rw [← hR] at q0 q1
              have HR1 := Lib.hid hR1
              have hllt : (k : Int) < (L.length : Int) := by have := HLL.out; omega
              clear hR hR1 hgd hbk hkl hcb
              have hltB : decide ((k : Int) < (bs.length : Int)) = true := by rw [decide_eq_true_eq]; omega
              have kk0 : (0 : Int) ≤ (k : Int) := by omega
              have kk1 : (k : Int) < (bs.length : Int) := by omega
              have e9 := bl_get hb d9
              have e10 := bl_get hb d10
              have e5 := bl_get hb d5
              have e7 := bl_get hb d7
              obtain ⟨z0, z1⟩ := wf_i8 ok.za
              have hkE : (k + 1) * E ≤ ws.length := by rw [← HEW2.out]; exact Nat.mul_le_mul_right E hlt
              have hkE2 : (k + 1) * E = k * E + E := by rw [Nat.add_mul]; omega
              have hkE3 : ((k : Int) + 1) * (E : Int) = (k : Int) * (E : Int) + (E : Int) := by rw [Int.add_mul]; omega
              have hkE4 : ((k * E : Nat) : Int) = (k : Int) * (E : Int) := by simp
              have g1 : 0 ≤ (k : Int) * (E : Int) := by omega
              have g2 : (k : Int) * (E : Int) ≤ 1000000 := by omega
              have g3 : ((k : Int) + 1) * (E : Int) ≤ (ws.length : Int) := by omega
              have g4 : (k : Int) * (E : Int) ≤ ((k : Int) + 1) * (E : Int) := by omega
              have g5 : ((k : Int) + 1) * (E : Int) ≤ (cw : Int) := by omega
              have g6 : 0 ≤ ((k : Int) + 1) * (E : Int) := by omega
              have t1 : ((k : Int) * (E : Int)).toNat = k * E := by omega
              have t2 : (((k : Int) + 1) * (E : Int)).toNat = (k + 1) * E := by omega
              obtain ⟨sv, hsv⟩ : ∃ sv, sv = subV 1 (.slice aw ws.length cw) (k * E) ((k + 1) * E) := ⟨_, rfl⟩
              have hsl : ∀ w', (Instr.sliceAt 36 (.slice aw ws.length cw) (some (.int .i64 ((k : Int) * (E : Int)))) (some (.int .i64 (((k : Int) + 1) * (E : Int)))) none).run Try.prog w' = .ok sv w' := by
                intro w'
                rw [run_subV (s := 1) Try.underlying36 (by kernel_rfl) aw ws.length cw .i64 .i64 _ _ g1 g4 g5 w', t1, t2, hsv]
              have hrd : Rd wr sv ((seg ws E k).map (Value.int .i8)) := by
                have h1 := hW4.below hb (Nat.le_refl _)
                rw [HEW.out] at h1
                have h2 := h1.subV (k * E) ((k + 1) * E) (by omega) (by rw [List.length_map]; omega)
                rw [hsv]; unfold seg; rw [List.map_take, List.map_drop]
                rwa [show (k + 1) * E - k * E = E from by omega] at h2
              have hsl2 := seg_len ws E k hkE
              have hsm := seg_mem ws E k
              have HROW : Hid (∀ wx, Hid (Below wr.heap.size wr wx) → Calls Try.prog 34 #[sv, .int .i32 bk, .int .i8 lo, .int .i8 hi, .int .i8 n.za, .bool (decide (0 < n.np))] wx fun e w' => e = .returned (.tuple #[.int .i64 R.1, .int .i64 R.2]) ∧ Below wx.heap.size wx w') := by
                refine Lib.hid (fun wx hx => ?_)
                rw [HR1.out]
                exact refRow_any _ (seg ws E k) bk lo hi n.za _ wx (hrd.below hx.out (Nat.le_refl _)) (by rw [hsl2]; omega) (fun x hx => HW8.out x (hsm x hx)) B0 B1 l0 l1 k0 k1 z0 z1
              clear hrd hkE hkE2 hkE3 hkE4 hsl2 hsm hsv t1 t2 hW4 hB4 hW hB haw hab
              go_wp2_with fail
              refine wp_region_vals (fun i => List.lookup i [(22, .tuple #[.int .i64 R.1, .int .i64 R.2])]) (AV [(22, .tuple #[.int .i64 R.1, .int .i64 R.2])] []) (by kernel_rfl) (by kernel_rfl) (AV_pers _ _ (by intro p hp; cases hp)) (AV_V _ _) ?_
              intro vs hvs
              (refine wpF_ex ?_; apply Exists.intro; apply Exists.intro; refine ⟨fun wx hwx K Qp hK => ?_, ?_, rfl, rfl, ?_⟩; (clear hwx; go_wp2_with fail; exact hK); rfl)
              (refine wpF_ex ?_; apply Exists.intro; apply Exists.intro; refine ⟨fun wx hwx K Qp hK => ?_, ?_, rfl, rfl, ?_⟩; (have d := bl_get hwx.1 e9; clear hwx; go_wp2_with fail; exact hK); rfl)
              (refine wpF_ex ?_; apply Exists.intro; apply Exists.intro; refine ⟨fun wx hwx K Qp hK => ?_, ?_, rfl, rfl, ?_⟩; (clear hwx; go_wp2_with fail; exact hK); rfl)
              (refine wpF_ex ?_; apply Exists.intro; apply Exists.intro; refine ⟨fun wx hwx K Qp hK => ?_, ?_, rfl, rfl, ?_⟩; (clear hwx; go_wp2_with fail; exact hK); rfl)
              (refine wpF_ex ?_; apply Exists.intro; apply Exists.intro; refine ⟨fun wx hwx K Qp hK => ?_, ?_, rfl, rfl, ?_⟩; (clear hwx; go_wp2_with fail; exact hK); rfl)
              (refine wpF_ex ?_; apply Exists.intro; apply Exists.intro; refine ⟨fun wx hwx K Qp hK => ?_, ?_, rfl, rfl, ?_⟩; (clear hwx; go_wp2_with fail; exact hK); rfl)
              (refine wpF_ex ?_; apply Exists.intro; apply Exists.intro; refine ⟨fun wx hwx K Qp hK => ?_, ?_, rfl, rfl, ?_⟩; (clear hwx; go_wp2_with fail; exact hK); rfl)
              (refine wpF_ex ?_; apply Exists.intro; apply Exists.intro; refine ⟨fun wx hwx K Qp hK => ?_, ?_, rfl, rfl, ?_⟩; (clear hwx; go_wp2_with fail; exact hK); rfl)
              (refine wpF_ex ?_; apply Exists.intro; apply Exists.intro; refine ⟨fun wx hwx K Qp hK => ?_, ?_, rfl, rfl, ?_⟩; (clear hwx; go_wp2_with fail; exact hK); rfl)
              (refine wpF_ex ?_; apply Exists.intro; apply Exists.intro; refine ⟨fun wx hwx K Qp hK => ?_, ?_, rfl, rfl, ?_⟩; (clear hwx; go_wp2_with fail; exact hK); rfl)
              (refine wpF_ex ?_; apply Exists.intro; apply Exists.intro; refine ⟨fun wx hwx K Qp hK => ?_, ?_, rfl, rfl, ?_⟩; (clear hwx; go_wp2_with fail; exact hK); rfl)
              (refine wpF_ex ?_; apply Exists.intro; apply Exists.intro; refine ⟨fun wx hwx K Qp hK => ?_, ?_, rfl, rfl, ?_⟩; (have d := bl_get hwx.1 e10; clear hwx; go_wp2_with fail; exact hK); rfl)
              (refine wpF_ex ?_; apply Exists.intro; apply Exists.intro; refine ⟨fun wx hwx K Qp hK => ?_, ?_, rfl, rfl, ?_⟩; (clear hwx; go_wp2_with fail; exact hK); rfl)
              (refine wpF_ex ?_; apply Exists.intro; apply Exists.intro; refine ⟨fun wx hwx K Qp hK => ?_, ?_, rfl, rfl, ?_⟩; (clear hwx; go_wp2_with fail; exact hK); rfl)
              (refine wpF_ex ?_; apply Exists.intro; apply Exists.intro; refine ⟨fun wx hwx K Qp hK => ?_, ?_, rfl, rfl, ?_⟩; (have d := bl_get hwx.1 cb; clear hwx; go_wp2_with fail; exact hK); rfl)
              (refine wpF_ex ?_; apply Exists.intro; apply Exists.intro; refine ⟨fun wx hwx K Qp hK => ?_, ?_, rfl, rfl, ?_⟩; (clear hwx; go_wp2_with fail; exact hK); rfl)
              (refine wpF_ex ?_; apply Exists.intro; apply Exists.intro; refine ⟨fun wx hwx K Qp hK => ?_, ?_, rfl, rfl, ?_⟩; (clear hwx; go_wp2_with fail; exact hK); rfl)
              (refine wpF_ex ?_; apply Exists.intro; apply Exists.intro; refine ⟨fun wx hwx K Qp hK => ?_, ?_, rfl, rfl, ?_⟩; (clear hwx; go_wp2_with fail; exact hK); rfl)
              (refine wpF_ex ?_; apply Exists.intro; apply Exists.intro; refine ⟨fun wx hwx K Qp hK => ?_, ?_, rfl, rfl, ?_⟩; (have d := bl_get hwx.1 e7; clear hwx; go_wp2_with fail; exact hK); rfl)
              (refine wpF_ex ?_; apply Exists.intro; apply Exists.intro; refine ⟨fun wx hwx K Qp hK => ?_, ?_, rfl, rfl, ?_⟩; (clear hwx; go_wp2_with fail; exact hK); rfl)
              (refine wpF_ex ?_; apply Exists.intro; apply Exists.intro; refine ⟨fun wx hwx K Qp hK => ?_, ?_, rfl, rfl, ?_⟩; (have d := bl_get hwx.1 e5; clear hwx; go_wp2_with fail; exact hK); rfl)
              (refine wpF_ex ?_; apply Exists.intro; apply Exists.intro; refine ⟨fun wx hwx K Qp hK => ?_, ?_, rfl, rfl, ?_⟩; (clear hwx; go_wp2_with fail; exact hK); rfl)
              (refine wpF_valA (.tuple #[.int .i64 R.1, .int .i64 R.2]) rfl (hvs 22 _ rfl) ?_; apply Exists.intro; refine ⟨fun wx hwx K Qp hK => ?_, ?_, rfl, ?_⟩; (have hx1 := Lib.hid hwx.1; clear hwx; go_wp2_with fail; refine (HROW.out wx hx1).mono ?_; rintro e w' ⟨rfl, hb⟩; exact hK _ hb); rfl)
              (refine wpF_ex ?_; apply Exists.intro; apply Exists.intro; refine ⟨fun wx hwx K Qp hK => ?_, ?_, rfl, rfl, ?_⟩; (clear hwx; go_wp2_with fail; exact hK); rfl)
              (refine wpF_ex ?_; apply Exists.intro; apply Exists.intro; refine ⟨fun wx hwx K Qp hK => ?_, ?_, rfl, rfl, ?_⟩; (clear hwx; go_wp2_with fail; exact hK); rfl)
              (refine wpF_ex ?_; apply Exists.intro; apply Exists.intro; refine ⟨fun wx hwx K Qp hK => ?_, ?_, rfl, rfl, ?_⟩; (clear hwx; go_wp2_with fail; exact hK); rfl)
              (refine wpF_ex ?_; apply Exists.intro; apply Exists.intro; refine ⟨fun wx hwx K Qp hK => ?_, ?_, rfl, rfl, ?_⟩; (clear hwx; go_wp2_with fail; exact hK); rfl)
              (refine wpF_ex ?_; apply Exists.intro; apply Exists.intro; refine ⟨fun wx hwx K Qp hK => ?_, ?_, rfl, rfl, ?_⟩; (clear hwx; go_wp2_with fail; exact hK); rfl)
              refine wpF_nil ?_
              intro w9 hb9 hp9
              replace q0 := bl_get hb9 q0
              replace q1 := bl_get hb9 q1
              have HBW := Lib.hid (bl_step hb hb9)
              clear hb9 hp9 hb
              go_wp2_with fail
              go_roundw
              case rel => exact ⟨k + 1, by go_num, by omega, HBW.out⟩
              case measure => simp [intOf]; omega
            · obtain rfl : k = bs.length := by omega
              have f10 := bl_get hb d10
              have hkB : decide ((bs.length : Int) < (bs.length : Int)) = false := by rw [decide_eq_false_iff_not]; omega
              go_wp2_with fail
              refine (known24_any _).mono ?_
              rintro e w5 ⟨rfl, hb5⟩
              go_wp2
              go_ret
              exact ⟨rfl, bl_step (bl_step (hb1.trans (hb14.mono hb1.size)) hb) hb5⟩
        · have hmz : (((ws.length : Int) % (bs.length : Int)) == 0) = false := by rw [beq_eq_false_iff_ne]; omega
          have hmz2 : (((ws.length : Int) % (bs.length : Int)) != 0) = true := by simp only [bne, hmz]; rfl
          have hlen : (allL ws bs lo hi n.za (decide (0 < n.np))).length = 0 := by unfold allL; rw [if_pos (.inr hmod)]; rfl
          rw [hlen]
          clear hb0 hlen hmod
          go_wp2_with fail
          refine (known24_any _).mono ?_
          rintro e w5 ⟨rfl, hb5⟩
          go_wp2
          go_ret
          exact ⟨rfl, bl_step (hb1.trans (hb14.mono hb1.size)) hb5⟩
    · go_enter Try.func9, Try.ntmps9
      go_wp2_with (go_at_call 27; refine (known24_any _).mono ?_; rintro e w9 ⟨rfl, hb9⟩)
      go_ret
      exact ⟨rfl, ((Below.refl _ _).alloc (Nat.le_refl _) _).trans (hb9.mono (by simp))⟩
  · go_enter Try.func9, Try.ntmps9
    go_wp2_with (go_at_call 27; refine (known24_any _).mono ?_; rintro e w9 ⟨rfl, hb9⟩)
    go_ret
    exact ⟨rfl, ((Below.refl _ _).alloc (Nat.le_refl _) _).trans (hb9.mono (by simp))⟩
end Go.Proofs.Ytolpecacibmkjaa
