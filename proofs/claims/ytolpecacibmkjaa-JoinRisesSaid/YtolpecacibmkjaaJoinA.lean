/- Two numbers as one: the inner functions of join. No condition. -/
import Derived.Test.YtolpecacibmkjaaNodeA
import Derived.Test.YtolpecacibmkjaaFixC
import Derived.Test.YtolpecacibmkjaaFresh
namespace Go.Proofs.Ytolpecacibmkjaa
open Go.RowKit

def mayQ (n : Nd) : Bool := rightQ n.qm n.qs && rightQ n.rm n.rs
def joinQ (x y : Int) (n : Nd) : Int := if mayQ n = true then clampI (rnd ((x - n.za) * n.qm) n.qs + rnd ((y - n.zb) * n.rm) n.rs + n.qz) n.lo n.hi else 0

set_option maxHeartbeats 800000 in
set_option maxRecDepth 100000 in
theorem joinMay_any (n : Nd) (w : World) : Calls Try.prog 53 #[.agg n.cs] w fun e w' => e = .returned (.bool (mayQ n)) ∧ Below w.heap.size w w' := by
  cases hq : rightQ n.qm n.qs with
  | false =>
    have e : mayQ n = false := by unfold mayQ; rw [hq]; rfl
    rw [e]; clear e
    have HQ := Lib.hid hq; clear hq
    go_enter Try.func53, Try.ntmps53
    obtain ⟨c0, c1, c2, c3, c4, c5, c6, c7, c8, c9, c10, c11, c12, c13, c14, c15, c16, c17, c18⟩ := (NdAt.new w n 51).all
    go_wp2_with fail
    refine (right_any _ _ _ _).mono ?_
    rintro e w1 ⟨rfl, hb1⟩
    rw [HQ.out]
    go_wp2
    go_ret
    exact ⟨rfl, ((Below.refl _ _).alloc (Nat.le_refl _) _).trans (hb1.mono (by simp))⟩
  | true =>
    have e : mayQ n = rightQ n.rm n.rs := by unfold mayQ; rw [hq]; rfl
    rw [e]; clear e
    have HQ := Lib.hid hq; clear hq
    go_enter Try.func53, Try.ntmps53
    have hn := NdAt.new w n 51
    obtain ⟨c0, c1, c2, c3, c4, c5, c6, c7, c8, c9, c10, c11, c12, c13, c14, c15, c16, c17, c18⟩ := hn.all
    go_wp2_with fail
    refine (right_any _ _ _ _).mono ?_
    rintro e w1 ⟨rfl, hb1⟩
    rw [HQ.out]
    clear c0 c1 c2 c3 c4 c5 c6 c7 c8 c9 c10 c11 c12 c13 c14 c15 c16 c17 c18
    obtain ⟨c0, c1, c2, c3, c4, c5, c6, c7, c8, c9, c10, c11, c12, c13, c14, c15, c16, c17, c18⟩ := (hn.below hb1).all
    clear hn
    go_wp2_with fail
    refine (right_any _ _ _ _).mono ?_
    rintro e w2 ⟨rfl, hb2⟩
    go_wp2
    go_ret
    exact ⟨rfl, (((Below.refl _ _).alloc (Nat.le_refl _) _).trans (hb1.mono (by simp))).trans (hb2.mono (by have := hb1.size; simp at this; omega))⟩

set_option maxHeartbeats 400000 in
set_option maxRecDepth 100000 in
theorem joinScaled_any (v z m s q : Int) (w : World) (v0 : -128 ≤ v) (v1 : v ≤ 127) (z0 : -128 ≤ z) (z1 : z ≤ 127) (m0 : -2147483648 ≤ m) (m1 : m ≤ 2147483647) :
    Calls Try.prog 54 #[.int .i8 v, .int .i8 z, .agg #[.int .i32 m, .int .i64 s, .int .i8 q]] w fun e w' => e = .returned (.int .i64 (rnd ((v - z) * m) s)) ∧ Below w.heap.size w w' := by
  go_enter Try.func54, Try.ntmps54
  go_wp2_with fail
  refine (scale_any _ _ _ _ (by omega) (by omega) m0 m1).mono ?_
  rintro e w1 ⟨rfl, n1, rfl⟩
  go_wp2
  go_ret
  exact ⟨rfl, below_drewN ((Below.refl _ _).alloc (Nat.le_refl _) _) _⟩
end Go.Proofs.Ytolpecacibmkjaa
