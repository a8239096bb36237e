/- The known calls of the law on octets. No condition. -/
import Derived.Test.YtlganffeaapebaaOctE
import Derived.Test.YtlganffeaapebaaSame
import Derived.Outline
namespace Go.Proofs.Ytlganffeaapebaa
open Go.RowKit

theorem wideL_11 : wideL [1, -1] = [2, 1] := by
  have e1 : putL (foldN 1).toNat = [2] := by rw [show (foldN 1).toNat = 2 from by decide, putL, if_pos (by omega)]; rfl
  have e2 : putL (foldN (-1)).toNat = [1] := by rw [show (foldN (-1)).toNat = 1 from by decide, putL, if_pos (by omega)]; rfl
  simp [wideL, e1, e2]

set_option maxHeartbeats 800000 in
set_option maxRecDepth 100000 in
theorem known08_any (w : World) : Calls Try.prog 38 #[] w fun e w' => e = .returned (.bool true) ∧ Below w.heap.size w w' := by
  have hl := Rd.lit w 5 ([2, 1, 9].map (Value.int .u8)) (0, 0) (by simp)
  go_enter Try.func38, Try.ntmps38
  go_wp2_with fail
  refine (read_any _ [2, 1, 9] _ hl (by simp)).mono ?_
  rintro e w1 ⟨g, rfl, hg, hs, hb⟩
  have hbw : Below w.heap.size w w1 := ((Below.refl _ _).alloc (Nat.le_refl _) _).trans (hb.mono (by simp))
  have hg' : w.heap.size ≤ g := by simp at hg; omega
  have hs' : RdSt w1.heap.size w1 g (wideL [1, -1] ++ [9]) := by rw [wideL_11]; exact hs
  clear hl hb hg hs
  go_wp2_with fail
  refine (wideR_ok w1.heap.size g [1, -1] [9] _ hs' (Nat.le_refl _) (by simp) (by simp) (by simp) (by simp)).mono ?_
  rintro e w2 ⟨r, rfl, hr, hs2, hu2⟩
  obtain ⟨ro, rc, rfl, _, _, hrc⟩ := hr.ints
  obtain ⟨rg, rfl, hrg1, hrg2, hcell⟩ := hrc (by simp)
  have c0 := hcell 0 (by simp)
  have c1 := hcell 1 (by simp)
  simp only [List.getElem_cons_zero, List.getElem_cons_succ, List.length_cons, List.length_nil] at c0 c1 ⊢
  have hgb : g < w1.heap.size := by obtain ⟨_, _, _, _, h, _⟩ := hs2; exact h
  have hbw2 : Below w.heap.size w w2 := hbw.trans (hu2.below (by rintro k rfl; exact hg') hbw.size)
  have HS2 := Lib.hid hs2
  have hl2 := Rd.lit w2 21 ([1, -1].map (Value.int .i32)) (0, 0) (by simp)
  have hsz := hu2.size
  clear hrc hcell hr hs' hs2
  go_wp2_with fail
  refine (wide_any _ [1, -1] _ hl2 (by simp) (by simp)).mono ?_
  rintro e w3 ⟨v3, rfl, hown3, hb3⟩
  rw [wideL_11] at hown3
  have hc := run_str Try.underlying24 Try.underlying5 Try.underlying9 hown3.rd
  rw [show bstr [2, 1] = ⟨#[2, 1]⟩ from by rw [bstr_eq]; rfl] at hc
  have hb23 : Below w2.heap.size w2 w3 := ((Below.refl _ _).alloc (Nat.le_refl _) _).trans (hb3.mono (by simp))
  have HS3 := Lib.hid (HS2.out.below (hb23.mono hsz))
  have e0 := bl_get hb23 c0
  have e1 := bl_get hb23 c1
  clear hown3 hl2 c0 c1
  go_wp2_with fail
  refine (left_ok _ g [9] _ HS3.out).mono ?_
  rintro e w4 ⟨rfl, rfl⟩
  go_wp2_with fail
  refine (end_ok _ g [9] _ HS3.out).mono ?_
  rintro e w4 ⟨rfl, rfl⟩
  go_wp2
  go_ret
  exact ⟨rfl, bl_step hbw2 hb23⟩
end Go.Proofs.Ytlganffeaapebaa
