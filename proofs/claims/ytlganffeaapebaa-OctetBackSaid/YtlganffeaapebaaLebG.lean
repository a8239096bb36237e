/- The law LebBack walked. No condition. -/
import Derived.Test.YtlganffeaapebaaLebF
import Derived.Test.YtlganffeaapebaaFresh
namespace Go.Proofs.Ytlganffeaapebaa
open Go.RowKit

theorem Rd.alloc {w : World} {v : Value} {xs : List Value} (h : Rd w v xs) (o : Obj) : Rd (w.alloc o) v xs := h.below ((Below.refl w.heap.size w).alloc (Nat.le_refl _) o) (Nat.le_refl _)
theorem bl_alloc {B : Nat} {a w : World} (h : Below B a w) (hB : B ≤ a.heap.size) (o : Obj) : Below B a (w.alloc o) := h.alloc (Nat.le_trans hB h.size) o

theorem putL_rng : ∀ (n : Nat), ∀ x ∈ putL n, 0 ≤ x ∧ x ≤ 255 := by
  intro n
  induction n using Nat.strongRecOn with
  | _ n ih =>
    intro x hx
    rw [putL] at hx
    split at hx
    · simp at hx; omega
    · simp at hx
      rcases hx with rfl | hx
      · omega
      · exact ih (n / 128) (by omega) x hx

theorem got (n : Nat) (b : List Int) (hn : n < 18446744073709551616) : getAt (putL n ++ b) 0 0 = ((n : Int), ((putL n).length : Int), 0) := by
  rw [get_put b n 0 0 (by omega) (by omega) (.inl rfl)]; simp

set_option maxHeartbeats 2000000 in
set_option maxRecDepth 100000 in
theorem lebBack_walk (n v : Int) (bv : Value) (xs : List Int) (at_ : Int) (w : World) (h0 : 0 ≤ n) (h1 : n ≤ 18446744073709551615) (g0 : -9223372036854775808 ≤ v) (g1 : v ≤ 9223372036854775807)
    (hv : Rd w bv (xs.map (Value.int .u8))) (hb : ∀ x ∈ xs, 0 ≤ x ∧ x ≤ 255) (hx : xs.length ≤ 9223372036854775807) (a0 : 0 ≤ at_) (a1 : at_ ≤ 255) :
    Calls Try.prog 5 #[.int .u64 n, .int .i64 v, bv, .int .u8 at_] w fun e w' => e = .returned (.bool true) ∧ Below w.heap.size w w' := by
  obtain ⟨i0, hi, hz0, hz1, hz2⟩ := info_parts Try.info5
  have hv0 := hv
  obtain ⟨ao, ca, rfl, hcap, _⟩ := hv0
  simp only [List.length_map] at hv hcap ⊢
  have HV := Lib.hid hv; clear hv
  have HB := Lib.hid hb; clear hb
  by_cases hl : 100 < xs.length
  · go_enter Try.func5, Try.ntmps5
    go_wp2_with fail
    refine (known06_any _).mono ?_
    rintro e w8 ⟨rfl, hb8⟩
    go_wp2
    go_ret
    exact ⟨rfl, hb8⟩
  · have hf := foldN_bd v g0 g1
    have l1 := putL_len10 n.toNat (by omega)
    have l2 := putL_len10 (foldN v).toNat (by omega)
    have p1 : 1 ≤ (putL n.toNat).length := List.length_pos_iff.2 (putL_ne _)
    have p2 : 1 ≤ (putL (foldN v).toNat).length := List.length_pos_iff.2 (putL_ne _)
    have hk : xs.length ≤ 1099511627776 := by omega
    go_enter Try.func5, Try.ntmps5
    go_wp2_with fail
    refine (put_any _ _ h0 h1).mono ?_
    rintro e w1 ⟨pv, rfl, hown1, hb1⟩
    go_wp2_with fail
    refine (putInt_any _ _ g0 g1).mono ?_
    rintro e w2 ⟨qv, rfl, hown2, hb2⟩
    obtain ⟨ap, cp, rfl, hcp, _⟩ := hown1.rd
    obtain ⟨aq, cq, rfl, hcq, _⟩ := hown2.rd
    simp only [List.length_map] at hown1 hown2 hcp hcq ⊢
    have O1 := Lib.hid hown1; have O2 := Lib.hid hown2; clear hown1 hown2
    go_wp2_with (at_builtin; refine hold ?_)
    have c12 := bl_step hb1 hb2
    have c2a := bl_alloc (Below.refl w2.heap.size w2) (Nat.le_refl _) (.cells #[] 5)
    refine unheld ?_
    refine wpList_appS rfl _ _ 24 rfl w2.heap.size 5 i0 (.int .u8 0) 1 Try.underlying24 hi hz0 hz1 hz2 (by decide) rfl _ _ _ _ (Own.empty _ _ _ (Nat.le_refl _)) ((O1.out.rd.below hb2 (Nat.le_refl _)).alloc _) rfl rfl (ints_one _ _) (by simp; omega) c2a.size ?_
    intro va wa hownA hbA
    have cA := c2a.trans hbA
    go_wp2_with (at_builtin; refine hold ?_)
    refine unheld ?_
    refine wpList_appS rfl _ _ 24 rfl w2.heap.size 5 i0 (.int .u8 0) 1 Try.underlying24 hi hz0 hz1 hz2 (by decide) rfl _ _ _ _ hownA (HV.out.below (bl_step c12 cA) (Nat.le_refl _)) rfl rfl (ints_one _ _) (by simp; omega) cA.size ?_
    intro vb wb hownB hbB
    have cB := cA.trans hbB
    rw [List.nil_append, ← List.map_append] at hownB
    clear hownA
    go_wp2_with fail
    refine (get_any _ _ _ hownB.rd (fun x hx => by rcases List.mem_append.1 hx with h | h; exact putL_rng _ x h; exact HB.out x h) (by simp; omega)).mono ?_
    rintro e w3 ⟨rfl, hb3⟩
    rw [got n.toNat xs (by omega)]
    unfold tup3
    simp only [Int.toNat_of_nonneg h0]
    clear hownB
    have c3 := bl_stepB cB hb3 cB.size
    have c3a := bl_alloc (Below.refl w3.heap.size w3) (Nat.le_refl _) (.cells #[] 5)
    go_wp2_with (at_builtin; refine hold ?_)
    refine unheld ?_
    refine wpList_appS rfl _ _ 24 rfl w3.heap.size 5 i0 (.int .u8 0) 1 Try.underlying24 hi hz0 hz1 hz2 (by decide) rfl _ _ _ _ (Own.empty _ _ _ (Nat.le_refl _)) ((O2.out.rd.below c3 (Nat.le_refl _)).alloc _) rfl rfl (ints_one _ _) (by simp; omega) c3a.size ?_
    intro vc wc hownC hbC
    have cC := c3a.trans hbC
    go_wp2_with (at_builtin; refine hold ?_)
    refine unheld ?_
    refine wpList_appS rfl _ _ 24 rfl w3.heap.size 5 i0 (.int .u8 0) 1 Try.underlying24 hi hz0 hz1 hz2 (by decide) rfl _ _ _ _ hownC (HV.out.below (bl_step c12 (bl_step c3 cC)) (Nat.le_refl _)) rfl rfl (ints_one _ _) (by simp; omega) cC.size ?_
    intro vd wd hownD hbD
    have cD := cC.trans hbD
    rw [List.nil_append, ← List.map_append] at hownD
    clear hownC
    go_wp2_with fail
    refine (getInt_any _ _ _ hownD.rd (fun x hx => by rcases List.mem_append.1 hx with h | h; exact putL_rng _ x h; exact HB.out x h) (by simp; omega)).mono ?_
    rintro e w4 ⟨rfl, hb4⟩
    rw [got (foldN v).toNat xs (by omega)]
    simp only [Int.toNat_of_nonneg hf.1]
    rw [unfold_fold v (foldN v) rfl]
    clear hownD
    have c4 := bl_step c3 (bl_stepB cD hb4 cD.size)
    have m1 := Int.emod_nonneg at_ (show (((putL n.toNat).length : Nat) : Int) ≠ 0 by omega)
    have m2 := Int.emod_lt_of_pos at_ (show 0 < (((putL n.toNat).length : Nat) : Int) by omega)
    have m3 : at_ % (((putL n.toNat).length : Nat) : Int) ≤ (cp : Int) := by omega
    go_wp2_with fail
    refine (get_any _ ((putL n.toNat).take (at_ % (((putL n.toNat).length : Nat) : Int)).toNat) _ ?_ (fun x hx => putL_rng _ x (List.mem_of_mem_take hx)) (by simp; omega)).mono ?_
    · have hr := (O1.out.rd.below (bl_step hb2 c4) (Nat.le_refl _)).take (at_ % (((putL n.toNat).length : Nat) : Int)).toNat (by omega)
      rw [← List.map_take] at hr
      exact hr
    rintro e w5 ⟨rfl, hb5⟩
    rw [get_short n.toNat 0 _ 0 (by omega) (by omega) (by omega)]
    unfold tup3
    have c5 := bl_step c4 hb5
    go_wp2_with fail
    refine (get_any _ _ _ (HV.out.below (bl_step c12 c5) (Nat.le_refl _)) HB.out hk).mono ?_
    rintro e w6 ⟨rfl, hb6⟩
    have c6 := bl_step c12 (bl_step c5 hb6)
    unfold tup3
    have hr := getAt_range xs HB.out
    have hk1 := get_back xs HB.out (getAt xs 0 0).1 (getAt xs 0 0).2.1
    obtain ⟨r0, r1, r2, r3, r4, r5, _⟩ := hr
    by_cases hc : (getAt xs 0 0).2.2 = 0
    · have hk2 := hk1 (Prod.ext rfl (Prod.ext rfl hc))
      obtain ⟨k1, k2, k3⟩ := hk2
      generalize (getAt xs 0 0).1 = gn at *
      generalize (getAt xs 0 0).2.1 = gk at *
      rw [hc]
      have K3 := Lib.hid k3
      clear hc hk1 k3
      have hcz : ((0 : Int) != 0) = false := by decide
      have R6 := (HV.out.below c6 (Nat.le_refl _)).take gk.toNat (by omega)
      rw [← List.map_take] at R6
      go_wp2_with fail
      refine wp_region_fresh (fun | 12 => some (fun v w' => Rd w' v ((putL gn.toNat).map (Value.int .u8))) | 23 => some (fun v _ => v = .bool true) | _ => none) (by kernel_rfl) (by kernel_rfl) ?_ ?_
      · intro i Ai v w1 w2 hA h hb
        match i, hA with
        | 12, hA => cases hA; exact h.below hb (Nat.le_refl _)
        | 23, hA => cases hA; exact h
      · intro vs
        repeat (first | (refine wpF_skip rfl rfl ?_) | (refine wpF_ex ?_; apply Exists.intro; apply Exists.intro; refine ⟨fun wx hwx K Qp hK => ?_, ?_, rfl, rfl, ?_⟩; (obtain ⟨hbx, _⟩ := hwx; go_wp2_with fail; exact hK); rfl))
        refine wpF_new _ rfl rfl rfl (fun wx hwx K Qp hK => ?_) ?_
        · obtain ⟨hbx, _⟩ := hwx
          go_wp2_with fail
          refine (put_any _ _ r0 r1).mono ?_
          rintro e w7 ⟨r, rfl, hown7, hb7⟩
          exact hK _ _ hb7 hown7.rd
        (refine wpF_ex ?_; apply Exists.intro; apply Exists.intro; refine ⟨fun wx hwx K Qp hK => ?_, ?_, rfl, rfl, ?_⟩; (have S7 := run_str (P := Try.prog) Try.underlying24 Try.underlying5 Try.underlying9 (hwx.2 _ List.mem_cons_self (by kernel_rfl)); rw [K3.out] at S7; clear hwx; go_wp2_with fail; exact hK); rfl)
        repeat (first | (refine wpF_skip rfl rfl ?_) | (refine wpF_ex ?_; apply Exists.intro; apply Exists.intro; refine ⟨fun wx hwx K Qp hK => ?_, ?_, rfl, rfl, ?_⟩; (have S7 := run_str (P := Try.prog) Try.underlying24 Try.underlying5 Try.underlying9 (R6.below hwx.1 (Nat.le_refl _)); clear hwx; go_wp2_with fail; exact hK); rfl))
        refine wpF_new _ rfl rfl rfl (fun wx hwx K Qp hK => ?_) ?_
        · clear hwx
          go_wp2_with fail
          refine (known06_any _).mono ?_
          rintro e w7 ⟨rfl, hb7⟩
          exact hK _ _ hb7 rfl
        repeat (first | (refine wpF_skip rfl rfl ?_) | (refine wpF_ex ?_; apply Exists.intro; apply Exists.intro; refine ⟨fun wx hwx K Qp hK => ?_, ?_, rfl, rfl, ?_⟩; (clear hwx; go_wp2_with fail; exact hK); rfl))
        refine wpF_nil ?_
        intro w9 hb9 hp9
        have h23 : vs 23 = .bool true := hp9 _ List.mem_cons_self
        rw [h23]
        clear hp9
        go_wp2
        go_ret
        exact ⟨rfl, bl_step c6 hb9⟩
    · generalize (getAt xs 0 0).1 = gn at *
      generalize (getAt xs 0 0).2.1 = gk at *
      generalize (getAt xs 0 0).2.2 = gc at *
      have hcn : (gc != 0) = true := by simpa using hc
      clear hk1
      go_wp2_with fail
      refine wp_region_fresh (fun | 12 => some (fun _ _ => True) | 23 => some (fun v _ => v = .bool true) | _ => none) (by kernel_rfl) (by kernel_rfl) ?_ ?_
      · intro i Ai v w1 w2 hA h hb
        match i, hA with
        | 12, hA => cases hA; trivial
        | 23, hA => cases hA; exact h
      · intro vs
        repeat (first | (refine wpF_skip rfl rfl ?_) | (refine wpF_ex ?_; apply Exists.intro; apply Exists.intro; refine ⟨fun wx hwx K Qp hK => ?_, ?_, rfl, rfl, ?_⟩; (clear hwx; go_wp2_with fail; exact hK); rfl))
        refine wpF_new _ rfl rfl rfl (fun wx hwx K Qp hK => ?_) ?_
        · clear hwx
          go_wp2_with fail
          refine (known06_any _).mono ?_
          rintro e w7 ⟨rfl, hb7⟩
          exact hK _ _ hb7 rfl
        repeat (first | (refine wpF_skip rfl rfl ?_) | (refine wpF_ex ?_; apply Exists.intro; apply Exists.intro; refine ⟨fun wx hwx K Qp hK => ?_, ?_, rfl, rfl, ?_⟩; (clear hwx; go_wp2_with fail; exact hK); rfl))
        refine wpF_nil ?_
        intro w9 hb9 hp9
        have h23 : vs 23 = .bool true := hp9 _ List.mem_cons_self
        rw [h23]
        clear hp9
        go_wp2
        go_ret
        exact ⟨rfl, bl_step c6 hb9⟩
end Go.Proofs.Ytlganffeaapebaa
