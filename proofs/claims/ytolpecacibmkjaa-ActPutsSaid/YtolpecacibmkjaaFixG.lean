/- Sums as numbers: fix.All. No condition. -/
import Derived.Test.YtolpecacibmkjaaFixF
namespace Go.Proofs.Ytolpecacibmkjaa
open Go.RowKit

set_option maxHeartbeats 1600000 in
set_option maxRecDepth 100000 in
theorem fixAll_any (v : Value) (xs : List Int) (m s z lo hi : Int) (w : World) (hv : Rd w v (xs.map (Value.int .i32))) (hx : xs.length ≤ 1099511627770) (hb : ∀ x ∈ xs, -2147483648 ≤ x ∧ x ≤ 2147483647)
    (m0 : -2147483648 ≤ m) (m1 : m ≤ 2147483647) (z0 : -128 ≤ z) (z1 : z ≤ 127) (l0 : -128 ≤ lo) (l1 : lo ≤ 127) (k0 : -128 ≤ hi) (k1 : hi ≤ 127) :
    Calls Try.prog 25 #[v, .agg #[.int .i32 m, .int .i64 s, .int .i8 z], .int .i8 lo, .int .i8 hi] w fun e w' => ∃ u, e = .returned u ∧ Own w.heap.size w' 26 u ((heldL xs m s z lo hi).map (Value.int .i8)) ∧ Below w.heap.size w w' := by
  obtain ⟨ao, ca, rfl, _, ha⟩ := hv
  simp only [List.length_map]
  obtain ⟨ii, hii, hz0, hz1, hz2⟩ := info_parts info_i8
  have INF := Lib.hid hii; have I0 := Lib.hid hz0; have I1 := Lib.hid hz1; have I2 := Lib.hid hz2; clear hii hz0 hz1 hz2
  have HB := Lib.hid hb; clear hb
  have f0 : (w.alloc (.cells #[.int .i32 m, .int .i64 s, .int .i8 z] 28)).cell? ⟨w.heap.size, 0, none⟩ = some (.int .i32 m) := by rw [World.cell?_alloc_at _ _ _ _ rfl]; rfl
  have f1 : (w.alloc (.cells #[.int .i32 m, .int .i64 s, .int .i8 z] 28)).cell? ⟨w.heap.size, 1, none⟩ = some (.int .i64 s) := by rw [World.cell?_alloc_at _ _ _ _ rfl]; rfl
  have f2 : (w.alloc (.cells #[.int .i32 m, .int .i64 s, .int .i8 z] 28)).cell? ⟨w.heap.size, 2, none⟩ = some (.int .i8 z) := by rw [World.cell?_alloc_at _ _ _ _ rfl]; rfl
  have hwb : Below w.heap.size w (w.alloc (.cells #[.int .i32 m, .int .i64 s, .int .i8 z] 28)) := (Below.refl _ _).alloc (Nat.le_refl _) _
  have hsz : w.heap.size ≤ (w.alloc (.cells #[.int .i32 m, .int .i64 s, .int .i8 z] 28)).heap.size := hwb.size
  go_enter Try.func25, Try.ntmps25
  go_wp2_with fail
  refine (right_any _ _ _ _).mono ?_
  rintro e w1 ⟨rfl, hb1⟩
  have hb1w := bl_step hwb hb1
  replace f0 := bl_get hb1 f0
  replace f1 := bl_get hb1 f1
  replace f2 := bl_get hb1 f2
  have hsz1 := Nat.le_trans hsz hb1.size
  cases hq : rightQ m s with
  | false =>
    have HQ := Lib.hid hq; clear hq
    go_wp2
    go_ret
    refine ⟨_, rfl, ?_, hb1w⟩
    have : heldL xs m s z lo hi = [] := by unfold heldL; rw [HQ.out]; rfl
    rw [this]; exact Own.nil _ _ _
  | true =>
    have HQ := Lib.hid hq; clear hq
    go_wp2_with (first | (at_make; refine wpList_make_full _ rfl _ _ 36 rfl w1.heap.size 26 ii (.int .i8 0) 1 Try.underlying36 INF.out I0.out I1.out _ _ _ _ xs.length rfl rfl rfl rfl (by rw [I2.out]; omega) (by unfold maxLen; omega) (Nat.le_refl _) ?_))
    intro wm hom hgm
    have hbm : Below w1.heap.size w1 wm := (Below.refl _ _).grown hgm (Nat.le_refl _) (by simp)
    obtain ⟨g, hg⟩ : ∃ g, g = w1.heap.size := ⟨_, rfl⟩
    have hom2 : wm.ownsRow w1.heap.size 26 1 (.slice (some ⟨g, 0, none⟩) xs.length xs.length) xs.length (madeCells #[.int .i8 0] xs.length).toList := by rw [hg]; exact hom
    rw [← hg]
    clear hom hgm
    have HG := Lib.hid hg; clear hg
    go_wp2
    go_loopw [10, 19] (fun o i wr => ∃ (k : Nat) (ys : List Value), i = .int .i64 k ∧ k ≤ xs.length ∧ wr.ownsRow w1.heap.size 26 1 (.slice (some ⟨g, 0, none⟩) xs.length xs.length) xs.length ys ∧ ys.length = xs.length ∧
      (∀ (j : Nat) (h : j < xs.length), j < k → ys[j]? = some (.int .i8 (heldQ xs[j] m s z lo hi))) ∧ Below w1.heap.size w1 wr) (fun _ i _ => xs.length - (intOf i).toNat)
    case atStart => exact ⟨0, _, rfl, by omega, hom2, by have := hom2.1; rw [Nat.mul_one] at this; exact this, by omega, hbm⟩
    case round =>
      obtain ⟨k, ys, rfl, hk, hown, hyl, hys, hbw⟩ := hrel
      by_cases hlt : k < xs.length
      · obtain ⟨b, o, rfl, hc⟩ := ha (by intro h; simp at h; subst h; simp at hlt)
        have hcell := bl_get (hb1w.trans (hbw.mono hsz1)) (hc k (by simpa using hlt))
        simp only [List.getElem_map] at hcell
        obtain ⟨e0, e1⟩ := HB.out xs[k] (List.getElem_mem hlt)
        obtain ⟨c, hcc⟩ : ∃ c, c = xs[k] := ⟨_, rfl⟩
        rw [← hcc] at hcell e0 e1
        obtain ⟨R, hR⟩ : ∃ R, R = heldQ c m s z lo hi := ⟨_, rfl⟩
        have c0 := bl_get hbw f0
        have c1 := bl_get hbw f1
        have c2 := bl_get hbw f2
        obtain ⟨y, hy⟩ : ∃ y, ys[k]? = some y := ⟨_, List.getElem?_eq_getElem (by omega)⟩
        have HR := Lib.hid hR; have HC := Lib.hid hcc; have HY := Lib.hid hy; have HYS := Lib.hid hys; clear hR hcc hc ha f0 f1 f2 hy hys
        have hownO : Own w1.heap.size wr 26 (.slice (some ⟨g, 0, none⟩) xs.length xs.length) ys := by unfold Own; rw [hyl]; exact hown
        go_wp2_with fail
        refine wp_region_tail 11 (V2 9 (.int .i8 R)) (by kernel_rfl) (by kernel_rfl) (by kernel_rfl) ?_
        intro vs hvs
        simp only [List.take_succ_cons, List.take_zero, List.drop_succ_cons, List.drop_zero]
        (refine wpF_ex ?_; apply Exists.intro; apply Exists.intro; refine ⟨fun wx hwx K Qp hK => ?_, ?_, rfl, rfl, ?_⟩; (clear hwx; go_wp2_with fail; exact hK); rfl)
        (refine wpF_ex ?_; apply Exists.intro; apply Exists.intro; refine ⟨fun wx hwx K Qp hK => ?_, ?_, rfl, rfl, ?_⟩; (clear hwx; go_wp2_with fail; exact hK); rfl)
        (refine wpF_ex ?_; apply Exists.intro; apply Exists.intro; refine ⟨fun wx hwx K Qp hK => ?_, ?_, rfl, rfl, ?_⟩; (clear hwx; go_wp2_with fail; exact hK); rfl)
        (refine wpF_ex ?_; apply Exists.intro; apply Exists.intro; refine ⟨fun wx hwx K Qp hK => ?_, ?_, rfl, rfl, ?_⟩; (clear hwx; go_wp2_with fail; exact hK); rfl)
        (refine wpF_ex ?_; apply Exists.intro; apply Exists.intro; refine ⟨fun wx hwx K Qp hK => ?_, ?_, rfl, rfl, ?_⟩; (clear hwx; go_wp2_with fail; exact hK); rfl)
        (refine wpF_ex ?_; apply Exists.intro; apply Exists.intro; refine ⟨fun wx hwx K Qp hK => ?_, ?_, rfl, rfl, ?_⟩; (have d := bl_get hwx.1 hcell; clear hwx; go_wp2_with fail; exact hK); rfl)
        (refine wpF_ex ?_; apply Exists.intro; apply Exists.intro; refine ⟨fun wx hwx K Qp hK => ?_, ?_, rfl, rfl, ?_⟩; (have d0 := bl_get hwx.1 c0; have d1 := bl_get hwx.1 c1; have d2 := bl_get hwx.1 c2; clear hwx; go_wp2_with fail; exact hK); rfl)
        (refine wpF_ex ?_; apply Exists.intro; apply Exists.intro; refine ⟨fun wx hwx K Qp hK => ?_, ?_, rfl, rfl, ?_⟩; (clear hwx; go_wp2_with fail; exact hK); rfl)
        (refine wpF_ex ?_; apply Exists.intro; apply Exists.intro; refine ⟨fun wx hwx K Qp hK => ?_, ?_, rfl, rfl, ?_⟩; (clear hwx; go_wp2_with fail; exact hK); rfl)
        (refine wpF_valx (.int .i8 R) rfl hvs ?_; apply Exists.intro; refine ⟨fun wx hwx K Qp hK => ?_, ?_, rfl, ?_⟩; (clear hwx; go_wp2_with fail; refine ((held_any _ _ _ _ _ _ _ e0 e1 m0 m1 z0 z1 l0 l1 k0 k1).mono (fun e w' h => show e = .returned (.int .i8 R) ∧ _ from ⟨by rw [HR.out]; exact h.1, h.2⟩)).mono ?_; rintro e w' ⟨rfl, hb⟩; exact hK _ hb); rfl)
        (refine wpF_ex ?_; apply Exists.intro; apply Exists.intro; refine ⟨fun wx hwx K Qp hK => ?_, ?_, rfl, rfl, ?_⟩; (clear hwx; go_wp2_with fail; exact hK); rfl)
        refine wpF_nil ?_
        intro w9 hb9
        have hr9 : w9.ownsRow w1.heap.size 26 1 (.slice (some ⟨g, 0, none⟩) xs.length xs.length) xs.length ys := by
          have := hownO.below hb9 (Nat.le_refl _)
          unfold Own at this; rw [hyl] at this; exact this
        have hce := hr9.cellAt k (by omega)
        rw [HY.out] at hce
        have hfr := hr9.frozenAt k
        go_wp2
        go_roundw
        case rel =>
          refine ⟨k + 1, ys.set k (.int .i8 R), by go_num, by omega, (hr9.stored k _).1, by simpa using hyl, fun j hj hjk => ?_, (hbw.trans (hb9.mono hbw.size)).setCell (Nat.le_of_eq HG.out.symm) _⟩
          by_cases hjk2 : j = k
          · subst hjk2
            rw [List.getElem?_set_self (by omega), ← HC.out, HR.out]
          · rw [List.getElem?_set_ne (by omega)]
            exact HYS.out j hj (by omega)
        case measure => simp [intOf]; omega
      · go_wp2
        go_ret
        refine ⟨_, rfl, ?_, hb1w.trans (hbw.mono hsz1)⟩
        have e : k = xs.length := by omega
        have : ys = (heldL xs m s z lo hi).map (Value.int .i8) := by
          unfold heldL; rw [if_pos HQ.out]
          refine List.ext_getElem? fun j => ?_
          by_cases hj : j < xs.length
          · rw [hys j hj (by omega)]; simp [hj]
          · rw [List.getElem?_eq_none (by omega), List.getElem?_eq_none (by simp; omega)]
        rw [this] at hown
        have hl : ((heldL xs m s z lo hi).map (Value.int .i8)).length = xs.length := by rw [← this]; exact hyl
        refine Own.mono (B := w1.heap.size) ?_ hsz1
        unfold Own; rw [hl]; exact hown
end Go.Proofs.Ytolpecacibmkjaa
