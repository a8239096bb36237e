/- Sums as numbers, one number as another one: by the program and by the document. No condition. -/
import Derived.Test.YtolpecacibmkjaaActA
import Derived.Outline
namespace Go.Proofs.Ytolpecacibmkjaa
open Go.RowKit

/-- A number as another one. -/
def one21 (v : Int) (n : Nd) : Int := heldQ (v - n.za) n.qm n.qs n.qz n.lo n.hi

set_option maxHeartbeats 800000 in
set_option maxRecDepth 100000 in
theorem actOne_any (v : Int) (n : Nd) (ok : n.Ok) (w : World) (v0 : -128 ≤ v) (v1 : v ≤ 127) :
    Calls Try.prog 43 #[.int .i8 v, .agg n.cs] w fun e w' => e = .returned (.int .i8 (one21 v n)) ∧ Below w.heap.size w w' := by
  obtain ⟨m0, m1⟩ := wf_i32 ok.qm
  obtain ⟨z0, z1⟩ := wf_i8 ok.qz
  obtain ⟨L0, L1⟩ := wf_i8 ok.lo
  obtain ⟨H0, H1⟩ := wf_i8 ok.hi
  obtain ⟨a0, a1⟩ := wf_i8 ok.za
  have hn := NdAt.new w n 51
  have c7 := hn 7 (.int .i8 n.za) rfl
  have c11 := hn 11 (.int .i32 n.qm) rfl
  have c12 := hn 12 (.int .i64 n.qs) rfl
  have c13 := hn 13 (.int .i8 n.qz) rfl
  have c17 := hn 17 (.int .i8 n.lo) rfl
  have c18 := hn 18 (.int .i8 n.hi) rfl
  go_enter Try.func43, Try.ntmps43
  go_wp2_with fail
  refine (held_any (v - n.za) n.qm n.qs n.qz n.lo n.hi _ (by omega) (by omega) m0 m1 z0 z1 L0 L1 H0 H1).mono ?_
  rintro e w1 ⟨rfl, hb1⟩
  go_wp2
  go_ret
  exact ⟨rfl, ((Below.refl _ _).alloc (Nat.le_refl _) _).trans (hb1.mono (by simp))⟩
set_option maxHeartbeats 800000 in
set_option maxRecDepth 100000 in
theorem refActOne_any (v : Int) (n : Nd) (ok : n.Ok) (w : World) (v0 : -128 ≤ v) (v1 : v ≤ 127) :
    Calls Try.prog 42 #[.int .i8 v, .agg n.cs] w fun e w' => e = .returned (.int .i8 (one21 v n)) ∧ Below w.heap.size w w' := by
  obtain ⟨m0, m1⟩ := wf_i32 ok.qm
  obtain ⟨z0, z1⟩ := wf_i8 ok.qz
  obtain ⟨L0, L1⟩ := wf_i8 ok.lo
  obtain ⟨H0, H1⟩ := wf_i8 ok.hi
  obtain ⟨a0, a1⟩ := wf_i8 ok.za
  have hn := NdAt.new w n 51
  have c7 := hn 7 (.int .i8 n.za) rfl
  have c11 := hn 11 (.int .i32 n.qm) rfl
  have c12 := hn 12 (.int .i64 n.qs) rfl
  have c13 := hn 13 (.int .i8 n.qz) rfl
  have c17 := hn 17 (.int .i8 n.lo) rfl
  have c18 := hn 18 (.int .i8 n.hi) rfl
  go_enter Try.func42, Try.ntmps42
  go_wp2_with fail
  refine (refHeld_any (v - n.za) n.qm n.qs n.qz n.lo n.hi _ (by omega) (by omega) m0 m1 z0 z1 L0 L1 H0 H1).mono ?_
  rintro e w1 ⟨rfl, hb1⟩
  go_wp2
  go_ret
  exact ⟨rfl, ((Below.refl _ _).alloc (Nat.le_refl _) _).trans (hb1.mono (by simp))⟩

abbrev kn21 : Nd := ⟨0, 0, 0, 0, 0, 0, 0, 0, 0, .slice none 0 0, .slice none 0 0, 1, 0, 0, 0, 0, 0, 0, 127⟩
theorem kn21_ok : kn21.Ok := ⟨rfl, rfl, rfl, rfl, rfl, rfl, rfl, rfl, rfl, rfl, rfl, rfl, rfl, rfl, rfl, rfl, rfl⟩
theorem kn21_a : one21 (-5) kn21 = 0 := by decide
theorem kn21_b : one21 5 kn21 = 5 := by decide
set_option maxHeartbeats 800000 in
set_option maxRecDepth 100000 in
theorem known21_any (w : World) : Calls Try.prog 37 #[] w fun e w' => e = .returned (.bool true) ∧ Below w.heap.size w w' := by
  go_enter Try.func37, Try.ntmps37
  have hn := NdAt.new w kn21 51
  go_wp2_with (first | (refine wpList_storeNew _ kn21.cs 51 rfl _ _ rfl rfl rfl (by kernel_rfl) rfl (by kernel_rfl) ?_) | (refine wpList_loadN hn rfl _ rfl rfl ?_))
  refine (actOne_any (-5) kn21 kn21_ok _ (by omega) (by omega)).mono ?_
  rintro e w1 ⟨rfl, hb1⟩
  rw [kn21_a]
  have hn1 := hn.below hb1
  go_wp2_with (first | (refine wpList_loadN hn1 rfl _ rfl rfl ?_) | (refine wpList_loadNg hn1 rfl _ rfl rfl ?_))
  refine (actOne_any 5 kn21 kn21_ok _ (by omega) (by omega)).mono ?_
  rintro e w2 ⟨rfl, hb2⟩
  rw [kn21_b]
  go_wp2
  go_ret
  exact ⟨rfl, bl_step (((Below.refl _ _).alloc (Nat.le_refl _) _).trans (hb1.mono (by simp))) hb2⟩

/-- Sums as numbers, or why they can't be. -/
def put21 (T : Tns) (n : Nd) : Tns × Int :=
  if elems T.h T.x T.c = 0 ∨ elems T.h T.x T.c ≠ (T.d.length : Int) then (Tns.none, 5) else if rightQ n.qm n.qs = false then (Tns.none, 7) else (⟨T.h, T.x, T.c, heldL T.d n.qm n.qs n.qz n.lo n.hi⟩, 0)
end Go.Proofs.Ytolpecacibmkjaa
