/- What nodes' kinds are called. No condition. -/
import Derived.Test.YtgecmooedhnenaaSpA
import Derived.Test.YtgecmooedhnenaaCl
namespace Go.Proofs.Ytgecmooedhnenaa
open Go.RowKit
set_option linter.unusedSimpArgs false
set_option linter.unusedVariables false
set_option linter.unnecessarySimpa false

def kindNames : List ByteArray := [⟨#[]⟩, ⟨#[99, 111, 110, 118]⟩, ⟨#[100, 101, 112, 116, 104]⟩, ⟨#[100, 101, 110, 115, 101]⟩, ⟨#[109, 97, 120, 112, 111, 111, 108]⟩, ⟨#[97, 118, 103, 112, 111, 111, 108]⟩, ⟨#[106, 111, 105, 110]⟩, ⟨#[97, 99, 116]⟩, ⟨#[112, 97, 100]⟩, ⟨#[102, 108, 97, 116]⟩]
def nameS (k : Int) : ByteArray := kindNames.getD k.toNat ⟨#[]⟩
abbrev strv (s : ByteArray) : AV := .lit (.string s)
theorem name_row {k : Int} (h1 : k < 10) : ([[strv ⟨#[]⟩], [strv ⟨#[99, 111, 110, 118]⟩], [strv ⟨#[100, 101, 112, 116, 104]⟩], [strv ⟨#[100, 101, 110, 115, 101]⟩], [strv ⟨#[109, 97, 120, 112, 111, 111, 108]⟩], [strv ⟨#[97, 118, 103, 112, 111, 111, 108]⟩], [strv ⟨#[106, 111, 105, 110]⟩], [strv ⟨#[97, 99, 116]⟩], [strv ⟨#[112, 97, 100]⟩], [strv ⟨#[102, 108, 97, 116]⟩]] : List (List AV))[k.toNat]? = some [strv (nameS k)] :=
  map_at (fun s => [strv s]) ⟨#[]⟩ (l := kindNames) (i := k.toNat) (by show k.toNat < 10; omega)
theorem name_out {k : Int} (h : k < 0 ∨ 10 ≤ k) : nameS k = ⟨#[]⟩ := by
  unfold nameS
  rcases h with h | h
  · rw [show k.toNat = 0 by omega]; rfl
  · rw [List.getD_eq_getElem?_getD, List.getElem?_eq_none (by show 10 ≤ k.toNat; omega)]; rfl
theorem name_in {k : Int} (h0 : 1 ≤ k) (h1 : k ≤ 9) : nameS k ≠ ⟨#[]⟩ := by
  have : k = 1 ∨ k = 2 ∨ k = 3 ∨ k = 4 ∨ k = 5 ∨ k = 6 ∨ k = 7 ∨ k = 8 ∨ k = 9 := by omega
  rcases this with rfl | rfl | rfl | rfl | rfl | rfl | rfl | rfl | rfl <;> (intro h; exact absurd (congrArg (fun b : ByteArray => b.size) h) (by decide))
theorem nameEq_in {k : Int} (h0 : 1 ≤ k) (h1 : k ≤ 9) : ((nameS k).toList == (ByteArray.mk #[]).toList) = false := by
  have : k = 1 ∨ k = 2 ∨ k = 3 ∨ k = 4 ∨ k = 5 ∨ k = 6 ∨ k = 7 ∨ k = 8 ∨ k = 9 := by omega
  have e1 : ((nameS 1).toList == (ByteArray.mk #[]).toList) = false := by kernel_rfl
  have e2 : ((nameS 2).toList == (ByteArray.mk #[]).toList) = false := by kernel_rfl
  have e3 : ((nameS 3).toList == (ByteArray.mk #[]).toList) = false := by kernel_rfl
  have e4 : ((nameS 4).toList == (ByteArray.mk #[]).toList) = false := by kernel_rfl
  have e5 : ((nameS 5).toList == (ByteArray.mk #[]).toList) = false := by kernel_rfl
  have e6 : ((nameS 6).toList == (ByteArray.mk #[]).toList) = false := by kernel_rfl
  have e7 : ((nameS 7).toList == (ByteArray.mk #[]).toList) = false := by kernel_rfl
  have e8 : ((nameS 8).toList == (ByteArray.mk #[]).toList) = false := by kernel_rfl
  have e9 : ((nameS 9).toList == (ByteArray.mk #[]).toList) = false := by kernel_rfl
  rcases this with rfl | rfl | rfl | rfl | rfl | rfl | rfl | rfl | rfl <;> assumption
theorem nameEq_out {k : Int} (h : k < 1 ∨ 9 < k) : ((nameS k).toList == (ByteArray.mk #[]).toList) = true := by
  have : nameS k = ⟨#[]⟩ := by
    by_cases h0 : k = 0
    · subst h0; rfl
    · exact name_out (by omega)
  rw [this]; exact beq_self_eq_true _
set_option maxRecDepth 100000 in
set_option maxHeartbeats 2000000 in
theorem name_v (k : Int) (hk : In64 k) : VC Try.prog 161 ([i64 k]) (strv (nameS k)) := by
  rcases Bool.eq_false_or_eq_true (decide (k < 0) || decide (k ≥ 10)) with hc0 | hc0
  · have gc0 : k < 0 ∨ k ≥ 10 := by first | (simp only [Bool.or_eq_true, Bool.or_eq_false_iff, Bool.and_eq_true, Bool.and_eq_false_iff, Bool.not_eq_true', Bool.not_eq_false', decide_eq_true_eq, decide_eq_false_iff_not, beq_iff_eq, bne_iff_ne, ne_eq, beq_eq_false_iff_ne, bne_eq_false_iff_eq, eqNums, Bool.and_true] at hc0; first | exact hc0 | omega) | simpa using hc0 | (simp at hc0 ⊢; omega)
    exact (VC.run (fn := Try.f161) (W := [.r [] [], .r [] [], .r [] [.op false, .op false, .sel 1], .br true, .r [] []]) (r := AV.lit (Value.string (ByteArray.mk #[]))) Try.func161 (by kernel_rfl) (.c hc0 <| .n)).weak (WeakL.refl _) (Weak.str (show ((ByteArray.mk #[]) : ByteArray) = (nameS k) from (by (rw [name_out (by omega)]))))
  · have gc0 : ¬k < 0 ∧ ¬k ≥ 10 := by first | (simp only [Bool.or_eq_true, Bool.or_eq_false_iff, Bool.and_eq_true, Bool.and_eq_false_iff, Bool.not_eq_true', Bool.not_eq_false', decide_eq_true_eq, decide_eq_false_iff_not, beq_iff_eq, bne_iff_ne, ne_eq, beq_eq_false_iff_ne, bne_eq_false_iff_eq, eqNums, Bool.and_true] at hc0; first | exact hc0 | omega) | simpa using hc0 | (simp at hc0 ⊢; omega)
    have oz3 := (show [[AV.lit (Value.string (ByteArray.mk #[]))], [AV.lit (Value.string (ByteArray.mk #[99, 111, 110, 118]))], [AV.lit (Value.string (ByteArray.mk #[100, 101, 112, 116, 104]))], [AV.lit (Value.string (ByteArray.mk #[100, 101, 110, 115, 101]))], [AV.lit (Value.string (ByteArray.mk #[109, 97, 120, 112, 111, 111, 108]))], [AV.lit (Value.string (ByteArray.mk #[97, 118, 103, 112, 111, 111, 108]))], [AV.lit (Value.string (ByteArray.mk #[106, 111, 105, 110]))], [AV.lit (Value.string (ByteArray.mk #[97, 99, 116]))], [AV.lit (Value.string (ByteArray.mk #[112, 97, 100]))], [AV.lit (Value.string (ByteArray.mk #[102, 108, 97, 116]))]][k.toNat]? = some [strv (nameS k)] by (exact name_row (by omega)))
    exact VC.run (fn := Try.f161) (W := [.r [] [], .r [] [], .r [] [.op false, .op false, .sel 1], .br false, .r [] [.row (sO oz3)]]) Try.func161 (by kernel_rfl) (.c hc0 <| .c (show 0 ≤ k by omega) <| .c (show k < (↑10 : Int) by omega) <| .c oz3 <| .n)

set_option maxRecDepth 100000 in
set_option maxHeartbeats 2000000 in
theorem refName_v (k : Int) (hk : In64 k) : VC Try.prog 170 ([i64 k]) (strv (nameS k)) := by
  rcases Bool.eq_false_or_eq_true (decide (k < 0) || decide (k > 9)) with hc0 | hc0
  · have gc0 : k < 0 ∨ k > 9 := by first | (simp only [Bool.or_eq_true, Bool.or_eq_false_iff, Bool.and_eq_true, Bool.and_eq_false_iff, Bool.not_eq_true', Bool.not_eq_false', decide_eq_true_eq, decide_eq_false_iff_not, beq_iff_eq, bne_iff_ne, ne_eq, beq_eq_false_iff_ne, bne_eq_false_iff_eq, eqNums, Bool.and_true] at hc0; first | exact hc0 | omega) | simpa using hc0 | (simp at hc0 ⊢; omega)
    exact (VC.run (fn := Try.f170) (W := [.r [] [], .r [] [], .r [] [.op false, .op false, .sel 1], .br true, .r [] []]) (r := AV.lit (Value.string (ByteArray.mk #[]))) Try.func170 (by kernel_rfl) (.c hc0 <| .n)).weak (WeakL.refl _) (Weak.str (show ((ByteArray.mk #[]) : ByteArray) = (nameS k) from (by (rw [name_out (by omega)]))))
  · have gc0 : ¬k < 0 ∧ ¬k > 9 := by first | (simp only [Bool.or_eq_true, Bool.or_eq_false_iff, Bool.and_eq_true, Bool.and_eq_false_iff, Bool.not_eq_true', Bool.not_eq_false', decide_eq_true_eq, decide_eq_false_iff_not, beq_iff_eq, bne_iff_ne, ne_eq, beq_eq_false_iff_ne, bne_eq_false_iff_eq, eqNums, Bool.and_true] at hc0; first | exact hc0 | omega) | simpa using hc0 | (simp at hc0 ⊢; omega)
    have oz3 := (show [[AV.lit (Value.string (ByteArray.mk #[]))], [AV.lit (Value.string (ByteArray.mk #[99, 111, 110, 118]))], [AV.lit (Value.string (ByteArray.mk #[100, 101, 112, 116, 104]))], [AV.lit (Value.string (ByteArray.mk #[100, 101, 110, 115, 101]))], [AV.lit (Value.string (ByteArray.mk #[109, 97, 120, 112, 111, 111, 108]))], [AV.lit (Value.string (ByteArray.mk #[97, 118, 103, 112, 111, 111, 108]))], [AV.lit (Value.string (ByteArray.mk #[106, 111, 105, 110]))], [AV.lit (Value.string (ByteArray.mk #[97, 99, 116]))], [AV.lit (Value.string (ByteArray.mk #[112, 97, 100]))], [AV.lit (Value.string (ByteArray.mk #[102, 108, 97, 116]))]][k.toNat]? = some [strv (nameS k)] by (exact name_row (by omega)))
    exact VC.run (fn := Try.f170) (W := [.r [] [], .r [] [], .r [] [.op false, .op false, .sel 1], .br false, .r [] [.row (sO oz3)]]) Try.func170 (by kernel_rfl) (.c hc0 <| .c (show 0 ≤ k by omega) <| .c (show k < (↑10 : Int) by omega) <| .c oz3 <| .n)
end Go.Proofs.Ytgecmooedhnenaa

