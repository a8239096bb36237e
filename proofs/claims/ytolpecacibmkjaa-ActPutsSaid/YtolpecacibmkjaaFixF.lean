/- Sums as numbers: the document's All, fix.All; whether two slices are alike. No condition. -/
import Derived.Test.YtolpecacibmkjaaFixD
import Derived.Test.YtolpecacibmkjaaTail
import Derived.OwnWalk
namespace Go.Proofs.Ytolpecacibmkjaa
open Go.RowKit

/-- 'append(v, u)' of one element that lies in a block. -/
theorem wpList_appG {P : Program} {ops : Array Oper} {rest : List Oper} {o : Oper} {a : Act} {Q : Exit → Act → World → Prop} (hgd : o.guard = none) (s x : Operand) (t : TypeId)
    (ho : o.op = .call { callee := .builtin .append, args := #[s, x], argTypes := #[t, t] })
    (B : Nat) (e : TypeId) (i : TypeInfo) (z : Value) (bytes : Nat) (ht : P.underlying t = some (.slice e)) (hi : P.info? e = some i) (hz : i.zero = some z)
    (hsize : i.size = 1) (hby : i.bytes = bytes) (hbs : bytes ≤ 64) (hzs : z.cells.size = 1)
    (v : Value) (xs : List Value) (w : World) (u : Value) (g : Nat)
    (hown : Own B w e v xs) (hs : a.eval s = v) (hx : a.eval x = .slice (some ⟨g, 0, none⟩) 1 1) (hc : w.cell? ⟨g, 0, none⟩ = some u) (hu : u.oneCell' = true) (hlen : xs.length + 1 ≤ 1099511627776) (hB : B ≤ w.heap.size)
    (h : ∀ v' w', Own B w' e v' (xs ++ [u]) → Below B w w' → wpList P ops Q rest (a.put o.dst v') w') :
    wpList P ops Q (o :: rest) a w := by
  have h63 : xs.length + 1 ≤ maxLen := by unfold maxLen; omega
  have hbytes : (xs.length + 1) * bytes ≤ 140737488355328 := Nat.le_trans (Nat.mul_le_mul hlen hbs) (by decide)
  refine wpList_append_own _ hgd s x t ho B e i z 1 bytes ht hi hz hsize hby hzs (by decide) v xs.length xs hs hown ⟨g, 0, none⟩ 1 1 [u] hx rfl (fun j y hj => ?_) (one_cell u hu) h63 hbytes hB ?_
  · match j, hj with
    | 0, hj => simp at hj; subst hj; rw [add_off]; exact hc
  · intro v' w' hown' hgrow _
    refine h v' w' ?_ ((Below.refl B w).grown hgrow hB (fun k hk => (hown.lt k hk).1))
    unfold Own; rw [List.length_append]; exact hown'

theorem info_i8 : (Try.prog.info? 26).map (fun i => (i.zero, i.size, i.bytes)) = some (some (.int .i8 0), 1, 1) := by kernel_rfl

set_option maxHeartbeats 800000 in
set_option maxRecDepth 100000 in
theorem same8_eq (v u : Value) (xs : List Int) (w : World) (hv : Rd w v (xs.map (Value.int .i8))) (hu : Rd w u (xs.map (Value.int .i8))) (hx : xs.length ≤ 1099511627776) :
    Calls Try.prog 24 #[v, u] w fun e w' => e = .returned (.bool true) ∧ ∃ n, w' = w.drewN n := by
  obtain ⟨ao, ca, rfl, _, ha⟩ := hv
  obtain ⟨bo, cb, rfl, _, hb⟩ := hu
  simp only [List.length_map]
  go_enter Try.func24, Try.ntmps24
  go_wp2
  go_loopw [5] (fun i wr => ∃ (k : Nat), i = .int .i64 k ∧ k ≤ xs.length ∧ ∃ n, wr = w.drewN n) (fun i _ => xs.length - (intOf i).toNat)
  case atStart => exact ⟨0, rfl, by omega, 0, rfl⟩
  case round =>
    obtain ⟨k, rfl, hk, n, rfl⟩ := hrel
    by_cases hlt : k < xs.length
    · obtain ⟨b, o, rfl, hc⟩ := ha (by intro h; simp at h; subst h; simp at hlt)
      obtain ⟨b', o', rfl, hc'⟩ := hb (by intro h; simp at h; subst h; simp at hlt)
      have h1 := hc k (by simpa using hlt)
      have h2 := hc' k (by simpa using hlt)
      simp only [List.getElem_map] at h1 h2
      obtain ⟨c, hcc⟩ : ∃ c, c = xs[k] := ⟨_, rfl⟩
      rw [← hcc] at h1 h2
      clear hcc hc hc' ha hb
      go_wp2_with fail
      go_region
      go_wp2
      go_roundw
      case rel => exact ⟨k + 1, by go_num, by omega, n + 1, rfl⟩
      case measure => simp [intOf]; omega
    · go_wp2
      go_ret
      exact ⟨rfl, n, rfl⟩
def heldL (xs : List Int) (m s z lo hi : Int) : List Int := if rightQ m s = true then xs.map fun a => heldQ a m s z lo hi else []

set_option maxHeartbeats 1600000 in
set_option maxRecDepth 100000 in
theorem refAll_any (v : Value) (xs : List Int) (m s z lo hi : Int) (w : World) (hv : Rd w v (xs.map (Value.int .i32))) (hx : xs.length ≤ 1099511627770) (hb : ∀ x ∈ xs, -2147483648 ≤ x ∧ x ≤ 2147483647)
    (m0 : -2147483648 ≤ m) (m1 : m ≤ 2147483647) (z0 : -128 ≤ z) (z1 : z ≤ 127) (l0 : -128 ≤ lo) (l1 : lo ≤ 127) (k0 : -128 ≤ hi) (k1 : hi ≤ 127) :
    Calls Try.prog 26 #[v, .agg #[.int .i32 m, .int .i64 s, .int .i8 z], .int .i8 lo, .int .i8 hi] w fun e w' => ∃ u, e = .returned u ∧ Own w.heap.size w' 26 u ((heldL xs m s z lo hi).map (Value.int .i8)) ∧ Below w.heap.size w w' := by
  obtain ⟨ao, ca, rfl, _, ha⟩ := hv
  simp only [List.length_map]
  obtain ⟨ii, hii, hz0, hz1, hz2⟩ := info_parts info_i8
  have INF := Lib.hid hii; have I0 := Lib.hid hz0; have I1 := Lib.hid hz1; have I2 := Lib.hid hz2; clear hii hz0 hz1 hz2
  have HB := Lib.hid hb; clear hb
  have f0 : (w.alloc (.cells #[.int .i32 m, .int .i64 s, .int .i8 z] 28)).cell? ⟨w.heap.size, 0, none⟩ = some (.int .i32 m) := by rw [World.cell?_alloc_at _ _ _ _ rfl]; rfl
  have f1 : (w.alloc (.cells #[.int .i32 m, .int .i64 s, .int .i8 z] 28)).cell? ⟨w.heap.size, 1, none⟩ = some (.int .i64 s) := by rw [World.cell?_alloc_at _ _ _ _ rfl]; rfl
  have f2 : (w.alloc (.cells #[.int .i32 m, .int .i64 s, .int .i8 z] 28)).cell? ⟨w.heap.size, 2, none⟩ = some (.int .i8 z) := by rw [World.cell?_alloc_at _ _ _ _ rfl]; rfl
  have hwb : Below w.heap.size w (w.alloc (.cells #[.int .i32 m, .int .i64 s, .int .i8 z] 28)) := (Below.refl _ _).alloc (Nat.le_refl _) _
  have hsz : w.heap.size ≤ (w.alloc (.cells #[.int .i32 m, .int .i64 s, .int .i8 z] 28)).heap.size := hwb.size
  go_enter Try.func26, Try.ntmps26
  go_wp2
  obtain ⟨wa, hwa⟩ : ∃ wa, wa = w.alloc (.cells #[.int .i32 m, .int .i64 s, .int .i8 z] 28) := ⟨_, rfl⟩
  rw [← hwa] at f0 f1 f2 hwb hsz ⊢
  clear hwa
  go_loopw [9, 10] (fun o i wr => ∃ (k : Nat), i = .int .i64 k ∧ k ≤ xs.length ∧ Own wa.heap.size wr 26 o ((heldL (xs.take k) m s z lo hi).map (Value.int .i8)) ∧ Below wa.heap.size wa wr) (fun _ i _ => xs.length - (intOf i).toNat)
  case atStart => exact ⟨0, rfl, by omega, by unfold heldL; simp; exact Own.nil _ _ _, Below.refl _ _⟩
  case round =>
    obtain ⟨k, rfl, hk, hown, hbw⟩ := hrel
    by_cases hlt : k < xs.length
    · have c0 := bl_get hbw f0
      have c1 := bl_get hbw f1
      have c2 := bl_get hbw f2
      go_wp2_with fail
      refine (refRight_any _ _ _ _).mono ?_
      rintro e w2 ⟨rfl, hb2⟩
      replace c0 := bl_get hb2 c0
      replace c1 := bl_get hb2 c1
      replace c2 := bl_get hb2 c2
      have hb3 := bl_stepB hbw hb2 hbw.size
      cases hq : rightQ m s with
      | false =>
        have HQ := Lib.hid hq; clear hq
        go_wp2
        go_ret
        refine ⟨_, rfl, ?_, ?_⟩
        · have : heldL xs m s z lo hi = [] := by unfold heldL; rw [HQ.out]; rfl
          rw [this]
          have h2 : heldL (xs.take k) m s z lo hi = [] := by unfold heldL; rw [HQ.out]; rfl
          rw [h2] at hown
          exact (hown.below hb2 (Nat.le_refl _)).mono hsz
        · exact hwb.trans (hb3.mono hsz)
      | true =>
        obtain ⟨b, o, rfl, hc⟩ := ha (by intro h; simp at h; subst h; simp at hlt)
        have hcell := bl_get hb3 (bl_get hwb (hc k (by simpa using hlt)))
        simp only [List.getElem_map] at hcell
        obtain ⟨e0, e1⟩ := HB.out xs[k] (List.getElem_mem hlt)
        obtain ⟨c, hcc⟩ : ∃ c, c = xs[k] := ⟨_, rfl⟩
        rw [← hcc] at hcell e0 e1
        obtain ⟨R, hR⟩ : ∃ R, R = heldQ c m s z lo hi := ⟨_, rfl⟩
        have HR := Lib.hid hR; have HC := Lib.hid hcc; have HQ := Lib.hid hq; clear hq hR hcc hc ha f0 f1 f2
        have hown2 := hown.below hb2 (Nat.le_refl _)
        go_wp2_with fail
        refine wp_region_tailA 10 (V2 8 (.int .i8 R)) (A2 8 (.int .i8 R) 9 (.int .i8 R)) (by kernel_rfl) (by kernel_rfl) (by kernel_rfl) (A2_pers _ _ _ _) (A2_V2 _ _ _ _) ?_
        intro vs hvs
        simp only [List.take_succ_cons, List.take_zero, List.drop_succ_cons, List.drop_zero]
        (refine wpF_ex ?_; apply Exists.intro; apply Exists.intro; refine ⟨fun wx hwx K Qp hK => ?_, ?_, rfl, rfl, ?_⟩; (clear hwx; go_wp2_with fail; exact hK); rfl)
        (refine wpF_ex ?_; apply Exists.intro; apply Exists.intro; refine ⟨fun wx hwx K Qp hK => ?_, ?_, rfl, rfl, ?_⟩; (clear hwx; go_wp2_with fail; exact hK); rfl)
        (refine wpF_ex ?_; apply Exists.intro; apply Exists.intro; refine ⟨fun wx hwx K Qp hK => ?_, ?_, rfl, rfl, ?_⟩; (clear hwx; go_wp2_with fail; exact hK); rfl)
        (refine wpF_ex ?_; apply Exists.intro; apply Exists.intro; refine ⟨fun wx hwx K Qp hK => ?_, ?_, rfl, rfl, ?_⟩; (clear hwx; go_wp2_with fail; exact hK); rfl)
        (refine wpF_ex ?_; apply Exists.intro; apply Exists.intro; refine ⟨fun wx hwx K Qp hK => ?_, ?_, rfl, rfl, ?_⟩; (have d := bl_get hwx.1 hcell; clear hwx; go_wp2_with fail; exact hK); rfl)
        (refine wpF_ex ?_; apply Exists.intro; apply Exists.intro; refine ⟨fun wx hwx K Qp hK => ?_, ?_, rfl, rfl, ?_⟩; (have d0 := bl_get hwx.1 c0; have d1 := bl_get hwx.1 c1; have d2 := bl_get hwx.1 c2; clear hwx; go_wp2_with fail; exact hK); rfl)
        (refine wpF_ex ?_; apply Exists.intro; apply Exists.intro; refine ⟨fun wx hwx K Qp hK => ?_, ?_, rfl, rfl, ?_⟩; (clear hwx; go_wp2_with fail; exact hK); rfl)
        (refine wpF_ex ?_; apply Exists.intro; apply Exists.intro; refine ⟨fun wx hwx K Qp hK => ?_, ?_, rfl, rfl, ?_⟩; (clear hwx; go_wp2_with fail; exact hK); rfl)
        (refine wpF_valA (.int .i8 R) rfl (hvs 8 _ rfl) ?_; apply Exists.intro; refine ⟨fun wx hwx K Qp hK => ?_, ?_, rfl, ?_⟩; (clear hwx; go_wp2_with fail; refine ((refHeld_any _ _ _ _ _ _ _ e0 e1 m0 m1 z0 z1 l0 l1 k0 k1).mono (fun e w' h => show e = .returned (.int .i8 R) ∧ _ from ⟨by rw [HR.out]; exact h.1, h.2⟩)).mono ?_; rintro e w' ⟨rfl, hb⟩; exact hK _ hb); rfl)
        (refine wpF_newx _ rfl ?_; apply Exists.intro; refine ⟨fun wx hwx K Qp hK => ?_, rfl, rfl, ?_⟩; (clear hwx; go_wp2_with fail; exact hK _ _ ((Below.refl _ _).alloc (Nat.le_refl _) _) ⟨_, rfl, by rw [World.cell?_alloc_at _ _ _ _ rfl]; rfl⟩))
        refine wpF_nil ?_
        intro w9 hb9 hp9
        obtain ⟨g, hg, hcg⟩ := hp9 _ _ List.mem_cons_self
        rw [hg]
        have hln : (heldL (xs.take k) m s z lo hi).length ≤ xs.length := by unfold heldL; split <;> simp <;> omega
        refine wpList_appG rfl _ _ 36 rfl wa.heap.size 26 ii (.int .i8 0) 1 Try.underlying36 INF.out I0.out I1.out I2.out (by decide) rfl _ _ w9 (.int .i8 R) g (hown2.below hb9 (Nat.le_refl _)) rfl rfl hcg rfl (by rw [List.length_map]; omega) (Nat.le_trans hb3.size hb9.size) ?_
        intro v' w' hown' hb'
        go_wp2
        go_roundw
        case rel =>
          refine ⟨k + 1, by go_num, by omega, ?_, (hb3.trans (hb9.mono hb3.size)).trans hb'⟩
          have : heldL (xs.take (k + 1)) m s z lo hi = heldL (xs.take k) m s z lo hi ++ [R] := by
            unfold heldL; rw [if_pos HQ.out, if_pos HQ.out, List.take_succ_eq_append_getElem hlt, List.map_append, ← HC.out, HR.out]; rfl
          rw [this, List.map_append]; exact hown'
        case measure => simp [intOf]; omega
    · go_wp2
      go_ret
      refine ⟨_, rfl, ?_, hwb.trans (hbw.mono hsz)⟩
      have e : k = xs.length := by omega
      subst e
      rw [List.take_length] at hown
      exact hown.mono hsz
end Go.Proofs.Ytolpecacibmkjaa
