/- Numbers of 32 bits as bytes. No condition. -/
import Derived.Test.YtlganffeaapebaaOctA
import Derived.Test.YtlganffeaapebaaLebG
import Derived.Outline
namespace Go.Proofs.Ytlganffeaapebaa
open Go.RowKit

def wideL (xs : List Int) : List Int := (xs.map fun v => putL (foldN v).toNat).flatten
theorem wideL_nil : wideL [] = [] := rfl
theorem wideL_cons (x : Int) (xs : List Int) : wideL (x :: xs) = putL (foldN x).toNat ++ wideL xs := rfl
theorem wideL_snoc (xs : List Int) (x : Int) : wideL (xs ++ [x]) = wideL xs ++ putL (foldN x).toNat := by simp [wideL]
theorem wideL_len : ∀ (xs : List Int), (∀ x ∈ xs, -2147483648 ≤ x ∧ x ≤ 2147483647) → (wideL xs).length ≤ 10 * xs.length
  | [], _ => by simp [wideL]
  | x :: xs, h => by
    have h1 := h x (by simp)
    have h2 := wideL_len xs (fun y hy => h y (by simp [hy]))
    have hf := foldN_bd x (by omega) (by omega)
    have h3 := putL_len10 (foldN x).toNat (by omega)
    rw [wideL_cons, List.length_append, List.length_cons]; omega
theorem wideL_rng : ∀ (xs : List Int), ∀ y ∈ wideL xs, 0 ≤ y ∧ y ≤ 255
  | [], y, h => by simp [wideL] at h
  | x :: xs, y, h => by
    rw [wideL_cons, List.mem_append] at h
    rcases h with h | h
    · exact putL_rng _ y h
    · exact wideL_rng xs y h

set_option maxHeartbeats 800000 in
set_option maxRecDepth 100000 in
theorem refWide_any (v : Value) (xs : List Int) (w : World) (hv : Rd w v (xs.map (Value.int .i32))) (hx : ∀ x ∈ xs, -2147483648 ≤ x ∧ x ≤ 2147483647) (hl : xs.length ≤ 1000000) :
    Calls Try.prog 45 #[v] w fun e w' => ∃ r, e = .returned r ∧ Own w.heap.size w' 5 r ((wideL xs).map (Value.int .u8)) ∧ Below w.heap.size w w' := by
  obtain ⟨a, c, rfl, hle, hm, ha⟩ := hv.ints
  obtain ⟨i0, hi, hz0, hz1, hz2⟩ := info_parts (show (Try.prog.info? 5).map (fun i => (i.zero, i.size, i.bytes)) = some (some (.int .u8 0), 1, 1) from by kernel_rfl)
  have HX := Lib.hid hx; clear hx
  go_enter Try.func45, Try.ntmps45
  go_wp2_with fail
  go_loopw [3, 4] (fun r i wr => ∃ (k : Nat), i = .int .i64 k ∧ k ≤ xs.length ∧ Own w.heap.size wr 5 r ((wideL (xs.take k)).map (Value.int .u8)) ∧ Below w.heap.size w wr) (fun _ i _ => xs.length - (intOf i).toNat)
  case atStart => exact ⟨0, rfl, by omega, Own.nil _ _ _, Below.refl _ _⟩
  case round =>
    obtain ⟨k, rfl, hk, hown, hb⟩ := hrel
    by_cases hlt : k < xs.length
    · obtain ⟨b, o, rfl, hc⟩ := ha (by intro h; subst h; simp at hlt)
      have hcell := bl_get hb (hc k hlt)
      obtain ⟨x0, x1⟩ := HX.out xs[k] (List.getElem_mem hlt)
      have hst : (wideL (xs.take (k + 1))).map (Value.int .u8) = (wideL (xs.take k)).map (Value.int .u8) ++ (putL (foldN xs[k]).toNat).map (Value.int .u8) := by
        rw [List.take_succ_eq_append_getElem hlt, wideL_snoc, List.map_append]
      have hlk : ((wideL (xs.take k)).map (Value.int .u8)).length ≤ 10000000 := by
        have := wideL_len (xs.take k) (fun y hy => HX.out y (List.mem_of_mem_take hy))
        rw [List.length_take] at this; rw [List.length_map]; omega
      obtain ⟨x, hx⟩ : ∃ x, x = xs[k] := ⟨_, rfl⟩
      rw [← hx] at hcell hst x0 x1
      obtain ⟨f0, f1⟩ := foldN_bd x (by omega) (by omega)
      have hpl := putL_len10 (foldN x).toNat (by omega)
      have HST := Lib.hid hst; have HO := Lib.hid hown; have HLK := Lib.hid hlk; have HPL := Lib.hid hpl
      have kk0 : (0 : Int) ≤ (k : Int) := by omega
      have kk1 : (k : Int) < (xs.length : Int) := by omega
      clear hst hx hc ha hown hlk hpl
      go_wp2_with fail
      refine (fold_any x _ (by omega) (by omega)).mono ?_
      rintro e w1 ⟨rfl, rfl⟩
      go_wp2_with fail
      refine (refPut_any (foldN x) _ f0 f1).mono ?_
      rintro e w2 ⟨r, rfl, hr, hb2⟩
      have HR := Lib.hid hr.rd
      have HO2 := Lib.hid (HO.out.below hb2 (Nat.le_refl _))
      clear hr
      have hbw : Below w.heap.size w w2 := bl_step hb hb2
      go_wp2_with (at_builtin; refine hold ?_)
      refine unheld ?_
      refine wpList_appS rfl _ _ 24 rfl w.heap.size 5 i0 (.int .u8 0) 1 Try.underlying24 hi hz0 hz1 hz2 (by decide) rfl _ _ _ _ HO2.out HR.out rfl rfl (ints_one _ _) (by have := HLK.out; have := HPL.out; simp only [List.length_map] at *; omega) hbw.size ?_
      intro v' w' hown' hb'
      have HO3 := Lib.hid hown'; clear hown'
      go_wp2_with fail
      go_roundw
      case rel => exact ⟨k + 1, by go_num, by omega, by rw [HST.out]; exact HO3.out, hbw.trans hb'⟩
      case measure => simp [intOf]; omega
    · have hkk : xs.take k = xs := List.take_of_length_le (by omega)
      rw [hkk] at hown
      go_wp2
      go_ret
      exact ⟨_, rfl, hown, hb⟩

set_option maxHeartbeats 800000 in
set_option maxRecDepth 100000 in
theorem wide_any (v : Value) (xs : List Int) (w : World) (hv : Rd w v (xs.map (Value.int .i32))) (hx : ∀ x ∈ xs, -2147483648 ≤ x ∧ x ≤ 2147483647) (hl : xs.length ≤ 1000000) :
    Calls Try.prog 44 #[v] w fun e w' => ∃ r, e = .returned r ∧ Own w.heap.size w' 5 r ((wideL xs).map (Value.int .u8)) ∧ Below w.heap.size w w' := by
  obtain ⟨a, c, rfl, hle, hm, ha⟩ := hv.ints
  obtain ⟨i0, hi, hz0, hz1, hz2⟩ := info_parts (show (Try.prog.info? 5).map (fun i => (i.zero, i.size, i.bytes)) = some (some (.int .u8 0), 1, 1) from by kernel_rfl)
  have HX := Lib.hid hx; clear hx
  go_enter Try.func44, Try.ntmps44
  go_wp2_with fail
  go_loopw [3, 8] (fun r i wr => ∃ (k : Nat), i = .int .i64 k ∧ k ≤ xs.length ∧ Own w.heap.size wr 5 r ((wideL (xs.take k)).map (Value.int .u8)) ∧ Below w.heap.size w wr) (fun _ i _ => xs.length - (intOf i).toNat)
  case atStart => exact ⟨0, rfl, by omega, Own.nil _ _ _, Below.refl _ _⟩
  case round =>
    obtain ⟨k, rfl, hk, hown, hb⟩ := hrel
    by_cases hlt : k < xs.length
    · obtain ⟨b, o, rfl, hc⟩ := ha (by intro h; subst h; simp at hlt)
      have hcell := bl_get hb (hc k hlt)
      obtain ⟨x0, x1⟩ := HX.out xs[k] (List.getElem_mem hlt)
      have hst : (wideL (xs.take (k + 1))).map (Value.int .u8) = (wideL (xs.take k)).map (Value.int .u8) ++ (putL (foldN xs[k]).toNat).map (Value.int .u8) := by
        rw [List.take_succ_eq_append_getElem hlt, wideL_snoc, List.map_append]
      have hlk : ((wideL (xs.take k)).map (Value.int .u8)).length ≤ 10000000 := by
        have := wideL_len (xs.take k) (fun y hy => HX.out y (List.mem_of_mem_take hy))
        rw [List.length_take] at this; rw [List.length_map]; omega
      obtain ⟨x, hx⟩ : ∃ x, x = xs[k] := ⟨_, rfl⟩
      rw [← hx] at hcell hst x0 x1
      obtain ⟨f0, f1⟩ := foldN_bd x (by omega) (by omega)
      have hpl := putL_len10 (foldN x).toNat (by omega)
      have HST := Lib.hid hst; have HO := Lib.hid hown; have HLK := Lib.hid hlk; have HPL := Lib.hid hpl
      have kk0 : (0 : Int) ≤ (k : Int) := by omega
      have kk1 : (k : Int) < (xs.length : Int) := by omega
      clear hst hx hc ha hown hlk hpl
      go_wp2_with fail
      refine (putInt_any x _ (by omega) (by omega)).mono ?_
      rintro e w2 ⟨r, rfl, hr, hb2⟩
      have HR := Lib.hid hr.rd
      have HO2 := Lib.hid (HO.out.below hb2 (Nat.le_refl _))
      clear hr
      have hbw : Below w.heap.size w w2 := bl_step hb hb2
      go_wp2_with (at_builtin; refine hold ?_)
      refine unheld ?_
      refine wpList_appS rfl _ _ 24 rfl w.heap.size 5 i0 (.int .u8 0) 1 Try.underlying24 hi hz0 hz1 hz2 (by decide) rfl _ _ _ _ HO2.out HR.out rfl rfl (ints_one _ _) (by have := HLK.out; have := HPL.out; simp only [List.length_map] at *; omega) hbw.size ?_
      intro v' w' hown' hb'
      have HO3 := Lib.hid hown'; clear hown'
      go_wp2_with fail
      go_roundw
      case rel => exact ⟨k + 1, by go_num, by omega, by rw [HST.out]; exact HO3.out, hbw.trans hb'⟩
      case measure => simp [intOf]; omega
    · have hkk : xs.take k = xs := List.take_of_length_le (by omega)
      rw [hkk] at hown
      go_wp2
      go_ret
      exact ⟨_, rfl, hown, hb⟩
end Go.Proofs.Ytlganffeaapebaa
