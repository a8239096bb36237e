/- What join.One makes of fixed numbers; where one of both grows, what comes never falls. No condition. -/
import Derived.Test.YtolpecacibmkjaaJoinB
import Derived.Deep.WholeRow
namespace Go.Proofs.Ytolpecacibmkjaa
open Go.RowKit

theorem joinQ_mono1 (x x' y : Int) (n : Nd) (h : x ≤ x') (hl : n.lo ≤ n.hi) : joinQ x y n ≤ joinQ x' y n := by
  unfold joinQ
  split
  · rename_i hq
    have h0 : 0 < n.qm := by unfold mayQ at hq; simp at hq; exact (rightQ_true hq.1).1
    refine clampI_mono _ _ _ _ ?_ hl
    have := rnd_mono ((x - n.za) * n.qm) ((x' - n.za) * n.qm) n.qs (Int.mul_le_mul_of_nonneg_right (by omega) (by omega))
    omega
  · omega

theorem joinQ_mono2 (x y y' : Int) (n : Nd) (h : y ≤ y') (hl : n.lo ≤ n.hi) : joinQ x y n ≤ joinQ x y' n := by
  unfold joinQ
  split
  · rename_i hq
    have h0 : 0 < n.rm := by unfold mayQ at hq; simp at hq; exact (rightQ_true hq.2).1
    refine clampI_mono _ _ _ _ ?_ hl
    have := rnd_mono ((y - n.zb) * n.rm) ((y' - n.zb) * n.rm) n.rs (Int.mul_le_mul_of_nonneg_right (by omega) (by omega))
    omega
  · omega

/-- A whole struct into the block that was made last. -/
theorem wpList_storeNew {P : Program} {ops : Array Oper} {rest : List Oper} {op : Oper} {a : Act} {w0 : World} {Q : Exit → Act → World → Prop} (c c' : Array Value) (t : TypeId) (hgd : op.guard = none) (x y : Operand) (ho : op.op = .store t x y)
    (hx : a.eval x = .pointer (some ⟨w0.heap.size, 0, none⟩)) (hy : a.eval y = .agg c') (hi : (P.info? t).map (·.size) = some c'.size) (hc : c.size = c'.size) (h1 : c'.all (·.oneCell') = true)
    (h : wpList P ops Q rest (a.put op.dst undef) (w0.alloc (.cells c' t))) : wpList P ops Q (op :: rest) a (w0.alloc (.cells c t)) :=
  wpList_plain hgd fun K hK => by
    unfold Oper.wp execOp
    simp only [ho, hx, hy, Instr.storeAt, Instr.sureAddr, Sem.run_bind, Sem.run_pure, Result.andThen_ok, run_storeVar_new w0 t c c' hi hc h1]
    exact hK _ _ h

abbrev kn20 : Nd := ⟨0, 0, 0, 0, 0, 0, 0, 0, 0, .slice none 0 0, .slice none 0 0, 1, 0, 1, 1, 0, 0, -128, 127⟩
theorem kn20_ok : kn20.Ok := ⟨rfl, rfl, rfl, rfl, rfl, rfl, rfl, rfl, rfl, rfl, rfl, rfl, rfl, rfl, rfl, rfl, rfl⟩
theorem kn20_eq : joinQ 3 4 kn20 = 8 := by decide

set_option maxHeartbeats 800000 in
set_option maxRecDepth 100000 in
theorem known20_any (w : World) : Calls Try.prog 35 #[] w fun e w' => e = .returned (.bool true) ∧ Below w.heap.size w w' := by
  go_enter Try.func35, Try.ntmps35
  have hn := NdAt.new w kn20 51
  go_wp2_with (first | (refine wpList_storeNew _ kn20.cs 51 rfl _ _ rfl rfl rfl (by kernel_rfl) rfl (by kernel_rfl) ?_) | (refine wpList_loadN hn rfl _ rfl rfl ?_))
  refine (joinOne_any 3 4 kn20 _ kn20_ok (by omega) (by omega) (by omega) (by omega)).mono ?_
  rintro e w1 ⟨rfl, hb1⟩
  rw [kn20_eq]
  go_wp2
  go_ret
  exact ⟨rfl, ((Below.refl _ _).alloc (Nat.le_refl _) _).trans (hb1.mono (by simp))⟩
end Go.Proofs.Ytolpecacibmkjaa
