/- Ranges, the plain laws: where the least and the greatest of a row come from. No condition. -/
import Derived.Test.YtolpecacibmkjaaSpanB
namespace Go.Proofs.Ytolpecacibmkjaa
open Go.RowKit

/-- With limits in order one end of a weight's range is at 'lo', the other one at 'hi'. -/
theorem oneR_ends (y lo hi z : Int) (h : lo ≤ hi) :
    (oneR y lo hi z false).1 = y * ((if y < 0 then hi else lo) - z) ∧ (oneR y lo hi z false).2 = y * ((if y < 0 then lo else hi) - z) := by
  unfold oneR loOf hiOf
  simp only [List.foldl_cons, List.foldl_nil, Bool.false_eq_true, if_false]
  by_cases hy : y < 0
  · have h1 : y * (hi - z) ≤ y * (lo - z) := Int.mul_le_mul_of_nonpos_left (by omega) (by omega)
    simp only [hy, if_true]
    generalize y * (lo - z) = p at *
    generalize y * (hi - z) = q at *
    constructor <;> split <;> omega
  · have h1 : y * (lo - z) ≤ y * (hi - z) := Int.mul_le_mul_of_nonneg_left (by omega) (by omega)
    simp only [hy, if_false]
    generalize y * (lo - z) = p at *
    generalize y * (hi - z) = q at *
    constructor <;> split <;> omega

theorem oneR_in (y v lo hi z : Int) (h0 : lo ≤ v) (h1 : v ≤ hi) : (oneR y lo hi z false).1 ≤ y * (v - z) ∧ y * (v - z) ≤ (oneR y lo hi z false).2 := by
  rw [(oneR_ends y lo hi z (by omega)).1, (oneR_ends y lo hi z (by omega)).2]
  by_cases hy : y < 0
  · simp only [hy, if_true]
    exact ⟨Int.mul_le_mul_of_nonpos_left (by omega) (by omega), Int.mul_le_mul_of_nonpos_left (by omega) (by omega)⟩
  · simp only [hy, if_false]
    exact ⟨Int.mul_le_mul_of_nonneg_left (by omega) (by omega), Int.mul_le_mul_of_nonneg_left (by omega) (by omega)⟩

theorem oneR_gaps (y lo hi z : Int) : (oneR y lo hi z true).1 ≤ (oneR y lo hi z false).1 ∧ (oneR y lo hi z false).2 ≤ (oneR y lo hi z true).2 ∧ (oneR y lo hi z true).1 ≤ 0 ∧ 0 ≤ (oneR y lo hi z true).2 := by
  unfold oneR loOf hiOf
  simp only [List.foldl_cons, List.foldl_nil, Bool.false_eq_true, if_false, if_true]
  generalize y * (lo - z) = p
  generalize y * (hi - z) = q
  (repeat' split) <;> omega
end Go.Proofs.Ytolpecacibmkjaa
