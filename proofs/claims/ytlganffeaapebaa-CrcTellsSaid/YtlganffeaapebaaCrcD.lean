/- CrcTells: one byte that is another one is told by the sum. No condition. -/
import Derived.Test.YtlganffeaapebaaCrcC
import Derived.Outline
namespace Go.Proofs.Ytlganffeaapebaa
open Go.RowKit

theorem sum_tells (a b : List Int) (c d : Int) (hc : 0 ≤ c ∧ c ≤ 255) (hd : 0 ≤ d ∧ d ≤ 255) (h : c ≠ d) : sumOf (a ++ c :: b) ≠ sumOf (a ++ d :: b) := by
  intro he
  unfold sumOf at he
  exact tells (BitVec.allOnes 32) a b c d hc hd h (by have := congrArg (fun x => ~~~ x) he; simpa using this)

theorem set_tells (l : List Int) (i : Nat) (hi : i < l.length) (d : Int) (hc : ∀ x ∈ l, 0 ≤ x ∧ x ≤ 255) (hd : 0 ≤ d ∧ d ≤ 255) (h : d ≠ l[i]) : uv (sumOf (l.set i d)) ≠ uv (sumOf l) := by
  intro he
  have e1 : l.set i d = l.take i ++ d :: l.drop (i + 1) := List.set_eq_take_append_cons_drop ▸ by rw [if_pos hi]
  have e2 : l = l.take i ++ l[i] :: l.drop (i + 1) := by rw [List.getElem_cons_drop, List.take_append_drop]
  have e3 : sumOf (l.set i d) = sumOf l := by
    have := congrArg (BitVec.ofInt 32) he
    rwa [uv_ofInt, uv_ofInt] at this
  rw [e1] at e3
  conv at e3 => rhs; rw [e2]
  exact sum_tells _ _ _ _ hd (hc _ (List.getElem_mem hi)) h e3

theorem xor8 (a b : Int) (a0 : 0 ≤ a) (a1 : a ≤ 255) (b0 : 0 ≤ b) (b1 : b ≤ 255) (hb : b ≠ 0) : bits .xor .u8 a b ≠ a ∧ 0 ≤ bits .xor .u8 a b ∧ bits .xor .u8 a b ≤ 255 := by
  rw [u8_xor a b a0 (by omega) b0 (by omega)]
  have hx : a.toNat ^^^ b.toNat < 2 ^ 8 := Nat.xor_lt_two_pow (by omega) (by omega)
  refine ⟨fun h => ?_, by omega, by omega⟩
  have h1 : a.toNat ^^^ b.toNat = a.toNat := by omega
  have h2 : b.toNat = 0 := by
    have := congrArg (a.toNat ^^^ ·) h1
    simp only [← Nat.xor_assoc, Nat.xor_self, Nat.zero_xor] at this
    exact this
  omega

set_option maxHeartbeats 1600000 in
set_option maxRecDepth 100000 in
theorem crcTells_walk (v : Value) (l : List Int) (at_ d : Int) (w : World) (hv : Rd w v (l.map (Value.int .u8))) (hx : ∀ x ∈ l, 0 ≤ x ∧ x ≤ 255) (a0 : 0 ≤ at_) (a1 : at_ ≤ 65535) (d0 : 0 ≤ d) (d1 : d ≤ 255) :
    Calls Try.prog 6 #[v, .int .u16 at_, .int .u8 d] w fun e w' => e = .returned (.bool true) ∧ Below w.heap.size w w' := by
  have hv0 := hv
  obtain ⟨ao, ca, rfl, hcap, ha⟩ := hv0
  simp only [List.length_map] at hv hcap ⊢
  have HX := Lib.hid hx; clear hx
  have hm : ca ≤ 9223372036854775807 := by have := hcap.2.1; unfold maxLen at this; exact this
  have hle : l.length ≤ ca := hcap.1
  clear hcap
  by_cases h2000 : l.length ≤ 2000
  · by_cases hne : 0 < l.length
    · by_cases hd : d = 0
      · subst hd
        go_enter Try.func6, Try.ntmps6
        go_wp2_with (go_at_call 23; refine (known07_any _).mono ?_; rintro e w9 ⟨rfl, hb9⟩)
        all_goals
          go_ret
          exact ⟨rfl, hb9⟩
      · have hd2 : (d == 0) = false := by simpa using hd
        have hl2 : ((l.length : Int) == 0) = false := by simp; intro h; subst h; simp at hne
        have HNE := Lib.hid hd; clear hd
        obtain ⟨i0, hi, hz0, hz1, hz2⟩ := info_parts (show (Try.prog.info? 5).map (fun i => (i.zero, i.size, i.bytes)) = some (some (.int .u8 0), 1, 1) from by kernel_rfl)
        go_enter Try.func6, Try.ntmps6
        go_wp2_with (at_builtin; refine hold ?_)
        refine unheld ?_
        refine wpList_appS rfl _ _ 24 rfl w.heap.size 5 i0 (.int .u8 0) 1 Try.underlying24 hi hz0 hz1 hz2 (by decide) rfl _ _ _ _ (Own.empty _ _ _ (Nat.le_refl _)) (hv.below ((Below.refl _ _).alloc (Nat.le_refl _) _) (Nat.le_refl _)) rfl rfl (ints_one _ _) (by simp; omega) (by simp) ?_
        intro v2 w2 hown hb2
        rw [List.nil_append] at hown
        have hbw : Below w.heap.size w w2 := ((Below.refl _ _).alloc (Nat.le_refl _) _).trans hb2
        obtain ⟨g, cap, rfl, hg1, hg2, hg3, hg4, hcell, hfree, hset⟩ := hown.form (by intro h; simp at h; subst h; simp at hne)
        simp only [List.length_map] at hg1 hset hcell ⊢
        unfold maxLen at hg2
        have m0 : 0 ≤ at_ % (l.length : Int) := Int.emod_nonneg _ (by omega)
        have m1 : at_ % (l.length : Int) < l.length := Int.emod_lt_of_pos _ (by omega)
        obtain ⟨i, hi'⟩ : ∃ i : Nat, at_ % (l.length : Int) = (i : Int) := ⟨(at_ % (l.length : Int)).toNat, by omega⟩
        have hil : i < l.length := by omega
        have hc := hcell i hil
        simp only [List.getElem_map] at hc
        have hf := hfree i
        obtain ⟨x0, x1⟩ := HX.out l[i] (List.getElem_mem hil)
        obtain ⟨y0, y1, y2⟩ := xor8 l[i] d x0 x1 d0 d1 HNE.out
        obtain ⟨c, hcc⟩ : ∃ c, c = l[i] := ⟨_, rfl⟩
        obtain ⟨u, hu⟩ : ∃ u, u = bits .xor .u8 c d := ⟨_, rfl⟩
        rw [← hcc] at hc x0 x1 y0 y1 y2
        rw [← hu] at y0 y1 y2
        have HU := Lib.hid hu
        have hu' := hu.symm
        have hs := (hset i (.int .u8 u) hil).rd
        rw [← List.map_set] at hs
        have hn : (uv (sumOf (l.set i u)) == uv (sumOf l)) = false := by
          rw [beq_eq_false_iff_ne]; exact set_tells l i hil u HX.out ⟨y1, y2⟩ (by rw [← hcc]; exact y0)
        have hn2 : (uv (sumOf (l.set i u)) != uv (sumOf l)) = true := by simpa using hn
        have HS := Lib.hid hs; have HC := Lib.hid hcc; have Y0 := Lib.hid y0
        clear hu hs hcc y0 hset hcell hfree hown
        go_wp2_with fail
        refine (crcOf_any _ (l.set i u) _ (by simpa using HS.out) (by simp; omega) (fun x hx => ?_)).mono ?_
        · rcases List.mem_or_eq_of_mem_set hx with h | rfl
          · exact HX.out x h
          · exact ⟨y1, y2⟩
        rintro e w3 ⟨rfl, hb3⟩
        have hbw3 : Below w.heap.size w w3 := (hbw.setCell hg3 _).trans (hb3.mono (by simp; omega))
        go_wp2_with fail
        refine (crcOf_any _ l _ (hv.below hbw3 (Nat.le_refl _)) (by omega) HX.out).mono ?_
        rintro e w4 ⟨rfl, hb4⟩
        go_wp2_with fail
        refine (known07_any _).mono ?_
        rintro e w5 ⟨rfl, hb5⟩
        go_wp2
        go_ret
        exact ⟨rfl, bl_step (bl_step hbw3 hb4) hb5⟩
    · obtain rfl : l = [] := List.eq_nil_of_length_eq_zero (by omega)
      go_enter Try.func6, Try.ntmps6
      go_wp2_with (go_at_call 23; refine (known07_any _).mono ?_; rintro e w9 ⟨rfl, hb9⟩)
      go_ret
      exact ⟨rfl, hb9⟩
  · go_enter Try.func6, Try.ntmps6
    go_wp2_with (go_at_call 23; refine (known07_any _).mono ?_; rintro e w9 ⟨rfl, hb9⟩)
    go_ret
    exact ⟨rfl, hb9⟩
end Go.Proofs.Ytlganffeaapebaa
