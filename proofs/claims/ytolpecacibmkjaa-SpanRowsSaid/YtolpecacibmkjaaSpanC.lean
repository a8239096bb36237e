/- Ranges: what fixed calls make. No condition. -/
import Derived.Test.YtolpecacibmkjaaSpanB
namespace Go.Proofs.Ytolpecacibmkjaa
open Go.RowKit

theorem kn24a : rowLo [2, -3] 1 0 10 0 false = -29 := by decide
theorem kn24b : rowHi [2, -3] 1 0 10 0 false = 21 := by decide

set_option maxHeartbeats 800000 in
set_option maxRecDepth 100000 in
theorem known24_any (w : World) : Calls Try.prog 27 #[] w fun e w' => e = .returned (.bool true) ∧ Below w.heap.size w w' := by
  go_enter Try.func27, Try.ntmps27
  go_wp2_with fail
  refine (spanRow_any _ [2, -3] 1 0 10 0 false _ (Rd.new2 w 26 (.int .i8 2) (.int .i8 (-3))) (by simp) (by simp) (by omega) (by omega) (by omega) (by omega) (by omega) (by omega) (by omega) (by omega)).mono ?_
  rintro e w1 ⟨rfl, hb1⟩
  rw [kn24a, kn24b]
  go_wp2
  go_ret
  exact ⟨rfl, ((Below.refl _ _).alloc (Nat.le_refl _) _).trans (hb1.mono (by simp))⟩
end Go.Proofs.Ytolpecacibmkjaa
