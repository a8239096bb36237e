/- CraftThrows: dice throw what the document says. No condition. -/
import Derived.Test.YtlganffeaapebaaDice
import Derived.Test.YtlganffeaapebaaState
import Derived.Outline
namespace Go.Proofs.Ytlganffeaapebaa
open Go.RowKit

theorem nextU_any (s : Int) (g : Nat) (w : World) (hs : At w g 84 #[.int .u64 s]) :
    Calls Try.prog 32 #[.pointer (some ⟨g, 0, none⟩)] w fun e w' => e = .returned (.int .u64 (dmix (dst s))) ∧ At w' g 84 #[.int .u64 (dst s)] ∧ Upd (· = g) w w' :=
  (next_any s g w hs).mono fun _ _ ⟨h1, h2⟩ => ⟨h1, by rw [h2]; exact hs.set 0 _, by rw [h2]; exact Upd.one _ _ _ _⟩
theorem refNextU_any (s : Int) (g : Nat) (w : World) (hs : At w g 57 #[.int .u64 s]) :
    Calls Try.prog 33 #[.pointer (some ⟨g, 0, none⟩)] w fun e w' => e = .returned (.int .u64 (dmix (dst s))) ∧ At w' g 57 #[.int .u64 (dst s)] ∧ Upd (· = g) w w' :=
  (refNext_any s g w hs).mono fun _ _ ⟨h1, h2⟩ => ⟨h1, by rw [h2]; exact hs.set 0 _, by rw [h2]; exact Upd.one _ _ _ _⟩

set_option maxHeartbeats 3200000 in
set_option maxRecDepth 100000 in
theorem craftThrows_walk (s f : Int) (v : Value) (l : List Int) (w : World) (hv : Rd w v (l.map (Value.int .i64))) (hx : ∀ x ∈ l, -9223372036854775808 ≤ x ∧ x ≤ 9223372036854775807) (f0 : -32768 ≤ f) (f1 : f ≤ 32767) :
    Calls Try.prog 9 #[.int .u64 s, v, .int .i16 f] w fun e w' => e = .returned (.bool true) ∧ Below w.heap.size w w' := by
  have hv0 := hv
  obtain ⟨ao, ca, rfl, hcap, ha⟩ := hv0
  simp only [List.length_map] at hv hcap ⊢
  have hm : l.length ≤ 9223372036854775807 := by have := hcap.2.1; have := hcap.1; unfold maxLen at *; omega
  have HX := Lib.hid hx; clear hx hcap
  go_enter Try.func9, Try.ntmps9
  go_wp2_with fail
  refine (roll_any _ _).mono ?_
  rintro e w1 ⟨rfl, rfl⟩
  go_wp2_with fail
  obtain ⟨g, hg⟩ : ∃ g, g = w.heap.size := ⟨_, rfl⟩
  obtain ⟨g', hg'⟩ : ∃ g', g' = g + 1 := ⟨_, rfl⟩
  obtain ⟨w2, hw2⟩ : ∃ w2, w2 = (w.alloc (.cells #[.int .u64 s] 84)).alloc (.cells #[.int .u64 s] 57) := ⟨_, rfl⟩
  have hs : At w2 g 84 #[.int .u64 s] := by rw [hw2, hg]; exact (At.new _ _ _).alloc _
  have hr : At w2 g' 57 #[.int .u64 s] := by
    rw [hw2, hg', hg]
    have := At.new (w.alloc (.cells #[.int .u64 s] 84)) 57 #[.int .u64 s]
    simpa using this
  have hb : Below w.heap.size w w2 := by rw [hw2]; exact ((Below.refl _ _).alloc (Nat.le_refl _) _).alloc (by simp) _
  rw [← hw2, ← hg, ← hg']
  have hgB : w.heap.size ≤ g := by omega
  have hgB' : w.heap.size ≤ g' := by omega
  have hne : g ≠ g' := by omega
  clear hw2 hg hg'
  go_loopw [6, 9] (fun r i wr => ∃ (k : Nat) (s : Int), r = .bool false ∧ i = .int .i64 k ∧ k ≤ l.length ∧ At wr g 84 #[.int .u64 s] ∧ At wr g' 57 #[.int .u64 s] ∧ Below w.heap.size w wr) (fun _ i _ => l.length - (intOf i).toNat)
  case atStart => exact ⟨0, s, rfl, rfl, by omega, hs, hr, hb⟩
  case round =>
    obtain ⟨k, s, rfl, rfl, hk, hs, hr, hb⟩ := hrel
    by_cases hlt : k < l.length ∧ k < 60
    · obtain ⟨hlt, h60⟩ := hlt
      obtain ⟨b, o, rfl, hc⟩ := ha (by intro h; simp at h; subst h; simp at hlt)
      have hcell := bl_get hb (hc k (by simpa using hlt))
      have hbl : b < w.heap.size := lt_of_cell (hc k (by simpa using hlt))
      simp only [List.getElem_map] at hcell
      obtain ⟨y0, y1⟩ := HX.out l[k] (List.getElem_mem hlt)
      obtain ⟨y, hy⟩ : ∃ y, y = l[k] := ⟨_, rfl⟩
      rw [← hy] at hcell y0 y1
      have hn1 : ¬ b = g := by omega
      have hn2 : ¬ b = g' := by omega
      have hn3 : ¬ g' = g := by omega
      have hn4 : ¬ g = g' := by omega
      clear hc ha hy
      have HS := Lib.hid hs; have HR := Lib.hid hr
      clear hs hr
      have hnG : ¬ (b = g ∨ b = g') := by omega
      have hltB : decide ((k : Int) < (l.length : Int)) = true := by rw [decide_eq_true_eq]; omega
      have h60B : decide ((k : Int) < 60) = true := by rw [decide_eq_true_eq]; omega
      by_cases h3 : (k : Int) % 3 = 0
      · have e3 : ((k : Int) % 3 == 0) = true := by rw [beq_iff_eq]; exact h3
        clear h3
        go_wp2_with fail
        refine wp_region_state (fun k => k = g ∨ k = g') (fun i => List.lookup i [(5, .int .u64 (dmix (dst s))), (7, .int .u64 (dmix (dst s))), (16, .int .i64 (dbel (dst s) y)), (22, .int .i64 (dbel (dst s) y))]) (AV [(5, .int .u64 (dmix (dst s))), (7, .int .u64 (dmix (dst s))), (16, .int .i64 (dbel (dst s) y)), (22, .int .i64 (dbel (dst s) y))] []) (fun i => ([5, 7, 16, 22] : List Nat).contains i) (fun w => At w g 84 #[.int .u64 s] ∧ At w g' 57 #[.int .u64 s]) (StL [(5, (fun w => At w g 84 #[.int .u64 (dst s)] ∧ At w g' 57 #[.int .u64 s])), (7, (fun w => At w g 84 #[.int .u64 (dst s)] ∧ At w g' 57 #[.int .u64 (dst s)])), (16, (fun w => At w g 84 #[.int .u64 (dbst (dst s) y)] ∧ At w g' 57 #[.int .u64 (dst s)])), (22, (fun w => At w g 84 #[.int .u64 (dbst (dst s) y)] ∧ At w g' 57 #[.int .u64 (dbst (dst s) y)]))]) (by kernel_rfl) (by kernel_rfl) (by kernel_rfl) (TA_of _ _ (by kernel_rfl)) (by exact fun w w' hb h => ⟨h.1.below hb h.1.lt, h.2.below hb h.2.lt⟩) (StL_pers _ (by intro p hp; simp only [List.mem_cons, List.not_mem_nil, or_false] at hp; rcases hp with rfl | rfl | rfl | rfl <;> (exact fun w w' hb h => ⟨h.1.below hb h.1.lt, h.2.below hb h.2.lt⟩))) (AV_persU _ _ _ (by intro p hp; cases hp)) (AV_V _ _) (⟨HS.out, HR.out⟩) ?_
        intro vs hvs
        (refine wpS_ex ?_; apply Exists.intro; apply Exists.intro; refine ⟨fun wx hwx K Qp hK => ?_, ?_, rfl, rfl, rfl, ?_⟩; (clear hwx; go_wp2_with fail; exact hK); rfl)
        (refine wpS_ex ?_; apply Exists.intro; apply Exists.intro; refine ⟨fun wx hwx K Qp hK => ?_, ?_, rfl, rfl, rfl, ?_⟩; (clear hwx; go_wp2_with fail; exact hK); rfl)
        (refine wpS_ex ?_; apply Exists.intro; apply Exists.intro; refine ⟨fun wx hwx K Qp hK => ?_, ?_, rfl, rfl, rfl, ?_⟩; (clear hwx; go_wp2_with fail; exact hK); rfl)
        (refine wpS_ex ?_; apply Exists.intro; apply Exists.intro; refine ⟨fun wx hwx K Qp hK => ?_, ?_, rfl, rfl, rfl, ?_⟩; (clear hwx; go_wp2_with fail; exact hK); rfl)
        (refine wpS_ex ?_; apply Exists.intro; apply Exists.intro; refine ⟨fun wx hwx K Qp hK => ?_, ?_, rfl, rfl, rfl, ?_⟩; (clear hwx; go_wp2_with fail; exact hK); rfl)
        (refine wpS_st (.int .u64 (dmix (dst s))) rfl rfl (hvs 5 _ rfl) ?_; apply Exists.intro; refine ⟨fun wx hwx hst K Qp hK => ?_, ?_, rfl, ?_⟩; (have HWX := Lib.hid hwx; have HST := Lib.hid hst; clear hwx hst; go_wp2_with fail; refine (nextU_any s g _ HST.out.1).mono ?_; rintro e w' ⟨rfl, hs1, hu⟩; exact hK _ (hu.mono (fun _ h => .inl h)) ⟨hs1, HST.out.2.upd hu hn3⟩); rfl)
        (refine wpS_ex ?_; apply Exists.intro; apply Exists.intro; refine ⟨fun wx hwx K Qp hK => ?_, ?_, rfl, rfl, rfl, ?_⟩; (clear hwx; go_wp2_with fail; exact hK); rfl)
        (refine wpS_st (.int .u64 (dmix (dst s))) rfl rfl (hvs 7 _ rfl) ?_; apply Exists.intro; refine ⟨fun wx hwx hst K Qp hK => ?_, ?_, rfl, ?_⟩; (have HWX := Lib.hid hwx; have HST := Lib.hid hst; clear hwx hst; go_wp2_with fail; refine (refNextU_any s g' _ HST.out.2).mono ?_; rintro e w' ⟨rfl, hs1, hu⟩; exact hK _ (hu.mono (fun _ h => .inr h)) ⟨HST.out.1.upd hu hn4, hs1⟩); rfl)
        (refine wpS_ex ?_; apply Exists.intro; apply Exists.intro; refine ⟨fun wx hwx K Qp hK => ?_, ?_, rfl, rfl, rfl, ?_⟩; (clear hwx; go_wp2_with fail; exact hK); rfl)
        (refine wpS_ex ?_; apply Exists.intro; apply Exists.intro; refine ⟨fun wx hwx K Qp hK => ?_, ?_, rfl, rfl, rfl, ?_⟩; (clear hwx; go_wp2_with fail; exact hK); rfl)
        (refine wpS_ex ?_; apply Exists.intro; apply Exists.intro; refine ⟨fun wx hwx K Qp hK => ?_, ?_, rfl, rfl, rfl, ?_⟩; (clear hwx; go_wp2_with fail; exact hK); rfl)
        (refine wpS_ex ?_; apply Exists.intro; apply Exists.intro; refine ⟨fun wx hwx K Qp hK => ?_, ?_, rfl, rfl, rfl, ?_⟩; (clear hwx; go_wp2_with fail; exact hK); rfl)
        (refine wpS_ex ?_; apply Exists.intro; apply Exists.intro; refine ⟨fun wx hwx K Qp hK => ?_, ?_, rfl, rfl, rfl, ?_⟩; (clear hwx; go_wp2_with fail; exact hK); rfl)
        (refine wpS_ex ?_; apply Exists.intro; apply Exists.intro; refine ⟨fun wx hwx K Qp hK => ?_, ?_, rfl, rfl, rfl, ?_⟩; (clear hwx; go_wp2_with fail; exact hK); rfl)
        (refine wpS_ex ?_; apply Exists.intro; apply Exists.intro; refine ⟨fun wx hwx K Qp hK => ?_, ?_, rfl, rfl, rfl, ?_⟩; (clear hwx; go_wp2_with fail; exact hK); rfl)
        (refine wpS_ex ?_; apply Exists.intro; apply Exists.intro; refine ⟨fun wx hwx K Qp hK => ?_, ?_, rfl, rfl, rfl, ?_⟩; (have d := hwx.1.cell hcell hnG; clear hwx; go_wp2_with fail; exact hK); rfl)
        (refine wpS_st (.int .i64 (dbel (dst s) y)) rfl rfl (hvs 16 _ rfl) ?_; apply Exists.intro; refine ⟨fun wx hwx hst K Qp hK => ?_, ?_, rfl, ?_⟩; (have HWX := Lib.hid hwx; have HST := Lib.hid hst; clear hwx hst; go_wp2_with fail; refine (below_any (dst s) y g _ HST.out.1 y0 y1).mono ?_; rintro e w' ⟨rfl, hs1, hu⟩; exact hK _ (hu.mono (fun _ h => .inl h)) ⟨hs1, HST.out.2.upd hu hn3⟩); rfl)
        (refine wpS_ex ?_; apply Exists.intro; apply Exists.intro; refine ⟨fun wx hwx K Qp hK => ?_, ?_, rfl, rfl, rfl, ?_⟩; (clear hwx; go_wp2_with fail; exact hK); rfl)
        (refine wpS_ex ?_; apply Exists.intro; apply Exists.intro; refine ⟨fun wx hwx K Qp hK => ?_, ?_, rfl, rfl, rfl, ?_⟩; (clear hwx; go_wp2_with fail; exact hK); rfl)
        (refine wpS_ex ?_; apply Exists.intro; apply Exists.intro; refine ⟨fun wx hwx K Qp hK => ?_, ?_, rfl, rfl, rfl, ?_⟩; (clear hwx; go_wp2_with fail; exact hK); rfl)
        (refine wpS_ex ?_; apply Exists.intro; apply Exists.intro; refine ⟨fun wx hwx K Qp hK => ?_, ?_, rfl, rfl, rfl, ?_⟩; (clear hwx; go_wp2_with fail; exact hK); rfl)
        (refine wpS_ex ?_; apply Exists.intro; apply Exists.intro; refine ⟨fun wx hwx K Qp hK => ?_, ?_, rfl, rfl, rfl, ?_⟩; (have d := hwx.1.cell hcell hnG; clear hwx; go_wp2_with fail; exact hK); rfl)
        (refine wpS_st (.int .i64 (dbel (dst s) y)) rfl rfl (hvs 22 _ rfl) ?_; apply Exists.intro; refine ⟨fun wx hwx hst K Qp hK => ?_, ?_, rfl, ?_⟩; (have HWX := Lib.hid hwx; have HST := Lib.hid hst; clear hwx hst; go_wp2_with fail; refine (refBelow_any (dst s) y g' _ HST.out.2 y0 y1).mono ?_; rintro e w' ⟨rfl, hs1, hu⟩; exact hK _ (hu.mono (fun _ h => .inr h)) ⟨HST.out.1.upd hu hn4, hs1⟩); rfl)
        (refine wpS_ex ?_; apply Exists.intro; apply Exists.intro; refine ⟨fun wx hwx K Qp hK => ?_, ?_, rfl, rfl, rfl, ?_⟩; (clear hwx; go_wp2_with fail; exact hK); rfl)
        (refine wpS_ex ?_; apply Exists.intro; apply Exists.intro; refine ⟨fun wx hwx K Qp hK => ?_, ?_, rfl, rfl, rfl, ?_⟩; (clear hwx; go_wp2_with fail; exact hK); rfl)
        refine wpS_nil ?_
        intro w9 hu9 hp9 hs9
        replace hs9 : ((fun w => At w g 84 #[.int .u64 (dbst (dst s) y)] ∧ At w g' 57 #[.int .u64 (dbst (dst s) y)])) w9 := hs9
        go_wp2_with fail
        go_roundw
        case rel => exact ⟨k + 1, _, rfl, by go_num, by omega, hs9.1, hs9.2, hb.trans (hu9.below (by rintro k (rfl | rfl) <;> omega) hb.size)⟩
        case measure => simp [intOf]; omega
      · have e3 : ((k : Int) % 3 == 0) = false := by rw [beq_eq_false_iff_ne]; exact h3
        clear h3
        go_wp2_with fail
        refine wp_region_state (fun k => k = g ∨ k = g') (fun i => List.lookup i [(16, .int .i64 (dbel (s) y)), (22, .int .i64 (dbel (s) y)), (5, undef), (7, undef)]) (AV [(16, .int .i64 (dbel (s) y)), (22, .int .i64 (dbel (s) y)), (5, undef), (7, undef)] []) (fun i => ([16, 22] : List Nat).contains i) (fun w => At w g 84 #[.int .u64 s] ∧ At w g' 57 #[.int .u64 s]) (StL [(16, (fun w => At w g 84 #[.int .u64 (dbst (s) y)] ∧ At w g' 57 #[.int .u64 (s)])), (22, (fun w => At w g 84 #[.int .u64 (dbst (s) y)] ∧ At w g' 57 #[.int .u64 (dbst (s) y)]))]) (by kernel_rfl) (by kernel_rfl) (by kernel_rfl) (TA_of _ _ (by kernel_rfl)) (by exact fun w w' hb h => ⟨h.1.below hb h.1.lt, h.2.below hb h.2.lt⟩) (StL_pers _ (by intro p hp; simp only [List.mem_cons, List.not_mem_nil, or_false] at hp; rcases hp with rfl | rfl <;> (exact fun w w' hb h => ⟨h.1.below hb h.1.lt, h.2.below hb h.2.lt⟩))) (AV_persU _ _ _ (by intro p hp; cases hp)) (AV_V _ _) (⟨HS.out, HR.out⟩) ?_
        intro vs hvs
        (refine wpS_ex ?_; apply Exists.intro; apply Exists.intro; refine ⟨fun wx hwx K Qp hK => ?_, ?_, rfl, rfl, rfl, ?_⟩; (clear hwx; go_wp2_with fail; exact hK); rfl)
        (refine wpS_ex ?_; apply Exists.intro; apply Exists.intro; refine ⟨fun wx hwx K Qp hK => ?_, ?_, rfl, rfl, rfl, ?_⟩; (clear hwx; go_wp2_with fail; exact hK); rfl)
        (refine wpS_ex ?_; apply Exists.intro; apply Exists.intro; refine ⟨fun wx hwx K Qp hK => ?_, ?_, rfl, rfl, rfl, ?_⟩; (clear hwx; go_wp2_with fail; exact hK); rfl)
        (refine wpS_ex ?_; apply Exists.intro; apply Exists.intro; refine ⟨fun wx hwx K Qp hK => ?_, ?_, rfl, rfl, rfl, ?_⟩; (clear hwx; go_wp2_with fail; exact hK); rfl)
        (refine wpS_no ?_; apply Exists.intro; refine ⟨?_, rfl, ?_⟩; (go_simp; rfl))
        (refine wpS_no ?_; apply Exists.intro; refine ⟨?_, rfl, ?_⟩; (go_simp; rfl))
        (refine wpS_no ?_; apply Exists.intro; refine ⟨?_, rfl, ?_⟩; (go_simp; rfl))
        (refine wpS_no ?_; apply Exists.intro; refine ⟨?_, rfl, ?_⟩; (go_simp; rfl))
        (refine wpS_no ?_; apply Exists.intro; refine ⟨?_, rfl, ?_⟩; (go_simp; rfl))
        (refine wpS_ex ?_; apply Exists.intro; apply Exists.intro; refine ⟨fun wx hwx K Qp hK => ?_, ?_, rfl, rfl, rfl, ?_⟩; (clear hwx; go_wp2_with fail; exact hK); rfl)
        (refine wpS_ex ?_; apply Exists.intro; apply Exists.intro; refine ⟨fun wx hwx K Qp hK => ?_, ?_, rfl, rfl, rfl, ?_⟩; (clear hwx; go_wp2_with fail; exact hK); rfl)
        (refine wpS_ex ?_; apply Exists.intro; apply Exists.intro; refine ⟨fun wx hwx K Qp hK => ?_, ?_, rfl, rfl, rfl, ?_⟩; (clear hwx; go_wp2_with fail; exact hK); rfl)
        (refine wpS_ex ?_; apply Exists.intro; apply Exists.intro; refine ⟨fun wx hwx K Qp hK => ?_, ?_, rfl, rfl, rfl, ?_⟩; (clear hwx; go_wp2_with fail; exact hK); rfl)
        (refine wpS_ex ?_; apply Exists.intro; apply Exists.intro; refine ⟨fun wx hwx K Qp hK => ?_, ?_, rfl, rfl, rfl, ?_⟩; (clear hwx; go_wp2_with fail; exact hK); rfl)
        (refine wpS_ex ?_; apply Exists.intro; apply Exists.intro; refine ⟨fun wx hwx K Qp hK => ?_, ?_, rfl, rfl, rfl, ?_⟩; (clear hwx; go_wp2_with fail; exact hK); rfl)
        (refine wpS_ex ?_; apply Exists.intro; apply Exists.intro; refine ⟨fun wx hwx K Qp hK => ?_, ?_, rfl, rfl, rfl, ?_⟩; (have d := hwx.1.cell hcell hnG; clear hwx; go_wp2_with fail; exact hK); rfl)
        (refine wpS_st (.int .i64 (dbel (s) y)) rfl rfl (hvs 16 _ rfl) ?_; apply Exists.intro; refine ⟨fun wx hwx hst K Qp hK => ?_, ?_, rfl, ?_⟩; (have HWX := Lib.hid hwx; have HST := Lib.hid hst; clear hwx hst; go_wp2_with fail; refine (below_any (s) y g _ HST.out.1 y0 y1).mono ?_; rintro e w' ⟨rfl, hs1, hu⟩; exact hK _ (hu.mono (fun _ h => .inl h)) ⟨hs1, HST.out.2.upd hu hn3⟩); rfl)
        (refine wpS_ex ?_; apply Exists.intro; apply Exists.intro; refine ⟨fun wx hwx K Qp hK => ?_, ?_, rfl, rfl, rfl, ?_⟩; (clear hwx; go_wp2_with fail; exact hK); rfl)
        (refine wpS_ex ?_; apply Exists.intro; apply Exists.intro; refine ⟨fun wx hwx K Qp hK => ?_, ?_, rfl, rfl, rfl, ?_⟩; (clear hwx; go_wp2_with fail; exact hK); rfl)
        (refine wpS_ex ?_; apply Exists.intro; apply Exists.intro; refine ⟨fun wx hwx K Qp hK => ?_, ?_, rfl, rfl, rfl, ?_⟩; (clear hwx; go_wp2_with fail; exact hK); rfl)
        (refine wpS_ex ?_; apply Exists.intro; apply Exists.intro; refine ⟨fun wx hwx K Qp hK => ?_, ?_, rfl, rfl, rfl, ?_⟩; (clear hwx; go_wp2_with fail; exact hK); rfl)
        (refine wpS_ex ?_; apply Exists.intro; apply Exists.intro; refine ⟨fun wx hwx K Qp hK => ?_, ?_, rfl, rfl, rfl, ?_⟩; (have d := hwx.1.cell hcell hnG; clear hwx; go_wp2_with fail; exact hK); rfl)
        (refine wpS_st (.int .i64 (dbel (s) y)) rfl rfl (hvs 22 _ rfl) ?_; apply Exists.intro; refine ⟨fun wx hwx hst K Qp hK => ?_, ?_, rfl, ?_⟩; (have HWX := Lib.hid hwx; have HST := Lib.hid hst; clear hwx hst; go_wp2_with fail; refine (refBelow_any (s) y g' _ HST.out.2 y0 y1).mono ?_; rintro e w' ⟨rfl, hs1, hu⟩; exact hK _ (hu.mono (fun _ h => .inr h)) ⟨HST.out.1.upd hu hn4, hs1⟩); rfl)
        (refine wpS_ex ?_; apply Exists.intro; apply Exists.intro; refine ⟨fun wx hwx K Qp hK => ?_, ?_, rfl, rfl, rfl, ?_⟩; (clear hwx; go_wp2_with fail; exact hK); rfl)
        (refine wpS_ex ?_; apply Exists.intro; apply Exists.intro; refine ⟨fun wx hwx K Qp hK => ?_, ?_, rfl, rfl, rfl, ?_⟩; (clear hwx; go_wp2_with fail; exact hK); rfl)
        refine wpS_nil ?_
        intro w9 hu9 hp9 hs9
        replace hs9 : ((fun w => At w g 84 #[.int .u64 (dbst (s) y)] ∧ At w g' 57 #[.int .u64 (dbst (s) y)])) w9 := hs9
        go_wp2_with fail
        go_roundw
        case rel => exact ⟨k + 1, _, rfl, by go_num, by omega, hs9.1, hs9.2, hb.trans (hu9.below (by rintro k (rfl | rfl) <;> omega) hb.size)⟩
        case measure => simp [intOf]; omega
    · have hh : (l.length : Int) ≤ (k : Int) ∨ ((k : Int) < (l.length : Int) ∧ (60 : Int) ≤ (k : Int)) := by omega
      have HS := Lib.hid hs; have HR := Lib.hid hr; clear hs hr hlt
      clear ha
      rcases hh with hh | ⟨hh, hh2⟩
      all_goals
        go_wp2_with fail
        refine (numbersU_any s f 9 _ g _ HS.out (by omega) (by omega) (by omega) (by omega) (by omega)).mono ?_
        have hlt' := HR.out.lt
        rintro e w3 ⟨u, rfl, hown, hs3, hu3⟩
        have hr3 := HR.out.upd hu3 (by omega)
        have hb3 : Below w.heap.size w w3 := hb.trans (hu3.below (by rintro k rfl; exact hgB) hb.size)
        obtain ⟨N, hN⟩ : ∃ N, N = ((l.length : Int) % 20).toNat := ⟨_, rfl⟩
        have hNi : ((l.length : Int) % 20) = (N : Int) := by omega
        rw [← hN] at hown hs3
        rw [hNi]
        obtain ⟨uo, uc, rfl, _, _, hua⟩ := hown.ints
        have hln : (nums s f 9 N).length = N := nums_len _ _ _ _
        have HLN := Lib.hid hln
        have hln2 : ((nums s f 9 N).length : Int) = (N : Int) := by omega
        have HUA := Lib.hid hua; have HN := Lib.hid hN
        have HO := Lib.hid hown; have HS3 := Lib.hid hs3; have HR3 := Lib.hid hr3; have HU3 := Lib.hid hu3
        have hNb : N ≤ 20 := by omega
        clear hua hln hN hown hs3 hr3 hu3 hh
        go_wp2_with fail
        go_loopw [6, 12] (fun r i wr => ∃ (j : Nat), r = .bool false ∧ i = .int .i64 j ∧ j ≤ N ∧ At wr g 84 #[.int .u64 (nst s 9 N)] ∧ At wr g' 57 #[.int .u64 (nst s 9 j)] ∧ Upd (· = g') w3 wr) (fun _ i _ => N - (intOf i).toNat)
        case atStart => exact ⟨0, rfl, rfl, by omega, HS3.out, HR3.out, Upd.refl _ _⟩
        case round =>
          obtain ⟨j, rfl, rfl, hj, hsj, hrj, huj⟩ := hrel
          have HSJ := Lib.hid hsj; have HRJ := Lib.hid hrj; clear hsj hrj
          by_cases hjlt : j < N
          · obtain ⟨gb, rfl, hgb1, hgb2, hcb⟩ := HUA.out (by intro h; have := HLN.out; rw [h] at this; simp at this; omega)
            have hcj := huj.cell (hcb j (by rw [HLN.out]; exact hjlt)) (by omega)
            have hget : (nums s f 9 N)[j]'(by rw [HLN.out]; exact hjlt) = f + dbel (nst s 9 j) 9 := by
              have := nums_get s f 9 N j hjlt
              rw [List.getElem?_eq_getElem (by rw [HLN.out]; exact hjlt)] at this
              exact Option.some.inj this
            rw [hget] at hcj
            obtain ⟨b0, b1⟩ := dbel_bd (nst s 9 j) 9 (by omega)
            have hjB : decide ((j : Int) < (N : Int)) = true := by rw [decide_eq_true_eq]; omega
            have hgbG : ¬ gb = g' := by omega
            clear hget hcb
            go_wp2_with fail
            refine wp_region_state (fun k => k = g') (fun i => List.lookup i [(7, .int .i64 (dbel (nst s 9 j) 9))]) (AV [(7, .int .i64 (dbel (nst s 9 j) 9))] []) (fun i => ([7] : List Nat).contains i) (fun w => At w g' 57 #[.int .u64 (nst s 9 j)]) (StL [(7, (fun w => At w g' 57 #[.int .u64 (nst s 9 (j + 1))]))]) (by kernel_rfl) (by kernel_rfl) (by kernel_rfl) (TA_of _ _ (by kernel_rfl)) (by exact fun w w' hb h => h.below hb h.lt) (StL_pers _ (by intro p hp; simp only [List.mem_cons, List.not_mem_nil, or_false] at hp; rcases hp with rfl <;> (exact fun w w' hb h => h.below hb h.lt))) (AV_persU _ _ _ (by intro p hp; cases hp)) (AV_V _ _) (HRJ.out) ?_
            intro vs hvs
            (refine wpS_ex ?_; apply Exists.intro; apply Exists.intro; refine ⟨fun wx hwx K Qp hK => ?_, ?_, rfl, rfl, rfl, ?_⟩; (clear hwx; go_wp2_with fail; exact hK); rfl)
            (refine wpS_ex ?_; apply Exists.intro; apply Exists.intro; refine ⟨fun wx hwx K Qp hK => ?_, ?_, rfl, rfl, rfl, ?_⟩; (clear hwx; go_wp2_with fail; exact hK); rfl)
            (refine wpS_ex ?_; apply Exists.intro; apply Exists.intro; refine ⟨fun wx hwx K Qp hK => ?_, ?_, rfl, rfl, rfl, ?_⟩; (clear hwx; go_wp2_with fail; exact hK); rfl)
            (refine wpS_ex ?_; apply Exists.intro; apply Exists.intro; refine ⟨fun wx hwx K Qp hK => ?_, ?_, rfl, rfl, rfl, ?_⟩; (have d := hwx.1.cell hcj hgbG; clear hwx; go_wp2_with fail; exact hK); rfl)
            (refine wpS_ex ?_; apply Exists.intro; apply Exists.intro; refine ⟨fun wx hwx K Qp hK => ?_, ?_, rfl, rfl, rfl, ?_⟩; (clear hwx; go_wp2_with fail; exact hK); rfl)
            (refine wpS_ex ?_; apply Exists.intro; apply Exists.intro; refine ⟨fun wx hwx K Qp hK => ?_, ?_, rfl, rfl, rfl, ?_⟩; (clear hwx; go_wp2_with fail; exact hK); rfl)
            (refine wpS_ex ?_; apply Exists.intro; apply Exists.intro; refine ⟨fun wx hwx K Qp hK => ?_, ?_, rfl, rfl, rfl, ?_⟩; (clear hwx; go_wp2_with fail; exact hK); rfl)
            (refine wpS_st (.int .i64 (dbel (nst s 9 j) 9)) rfl rfl (hvs 7 _ rfl) ?_; apply Exists.intro; refine ⟨fun wx hwx hst K Qp hK => ?_, ?_, rfl, ?_⟩; (have HWX := Lib.hid hwx; have HST := Lib.hid hst; clear hwx hst; go_wp2_with fail; refine (refBelow_any _ 9 g' _ HST.out (by omega) (by omega)).mono ?_; rintro e w' ⟨rfl, hs1, hu⟩; exact hK _ hu hs1); rfl)
            (refine wpS_ex ?_; apply Exists.intro; apply Exists.intro; refine ⟨fun wx hwx K Qp hK => ?_, ?_, rfl, rfl, rfl, ?_⟩; (clear hwx; go_wp2_with fail; exact hK); rfl)
            (refine wpS_ex ?_; apply Exists.intro; apply Exists.intro; refine ⟨fun wx hwx K Qp hK => ?_, ?_, rfl, rfl, rfl, ?_⟩; (clear hwx; go_wp2_with fail; exact hK); rfl)
            refine wpS_nil ?_
            intro w9 hu9 hp9 hs9
            replace hs9 : ((fun w => At w g' 57 #[.int .u64 (nst s 9 (j + 1))])) w9 := hs9
            have HU9 := Lib.hid hu9; have HS9 := Lib.hid hs9; clear hu9 hs9 hp9
            go_wp2_with fail
            go_roundw
            case rel => exact ⟨j + 1, rfl, by go_num, by omega, HSJ.out.upd HU9.out (by omega), HS9.out, huj.trans HU9.out⟩
            case measure => simp [intOf]; omega
          · obtain rfl : j = N := by omega
            have hb4 : Below w.heap.size w wr := hb3.trans (huj.below (by rintro k rfl; exact hgB') hb3.size)
            have hjB : decide ((j : Int) < (j : Int)) = false := by rw [decide_eq_false_iff_not]; omega
            go_wp2_with fail
            refine (numbersNo_any 0 5 (-1) g _ (by omega)).mono ?_
            rintro e w5 ⟨rfl, rfl⟩
            go_wp2_with fail
            refine (nextU_any _ g _ HSJ.out).mono ?_
            rintro e w5 ⟨rfl, hs5, hu5⟩
            have HR5 := Lib.hid (HRJ.out.upd hu5 (by omega))
            have hb5 : Below w.heap.size w w5 := hb4.trans (hu5.below (by rintro k rfl; exact hgB) hb4.size)
            clear hs5 hu5
            go_wp2_with fail
            refine (refNextU_any _ g' _ HR5.out).mono ?_
            rintro e w6 ⟨rfl, hs6, hu6⟩
            have hb6 : Below w.heap.size w w6 := hb5.trans (hu6.below (by rintro k rfl; exact hgB') hb5.size)
            clear hs6 hu6
            go_wp2_with fail
            refine (known49_any _).mono ?_
            rintro e w7 ⟨rfl, hb7⟩
            go_wp2
            go_ret
            exact ⟨rfl, bl_step hb6 hb7⟩
end Go.Proofs.Ytlganffeaapebaa
