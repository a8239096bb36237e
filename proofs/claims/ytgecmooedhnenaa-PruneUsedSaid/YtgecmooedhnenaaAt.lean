/- A block whose cells are all known. No condition. -/
import Derived.Test.YtgecmooedhnenaaBase
import Derived.Laws.Tables
import Derived.Laws.CopyOwn
import Derived.Deep.WholeRow
import Derived.Laws.ResultCell
namespace Go.Proofs.Ytgecmooedhnenaa
open Go.RowKit

/-- Block g holds the cells cs, of type t, none of them frozen. -/
def At (w : World) (g : Nat) (t : TypeId) (cs : Array Value) : Prop := w.heap[g]? = some (.cells cs t (0, 0))

theorem At.cell {w : World} {g : Nat} {t : TypeId} {cs : Array Value} (h : At w g t cs) (i : Nat) : w.cell? ⟨g, i, none⟩ = cs[i]? := by
  unfold At at h; simp [World.cell?, h]
theorem At.free {w : World} {g : Nat} {t : TypeId} {cs : Array Value} (h : At w g t cs) (i : Nat) : w.frozen? ⟨g, i, none⟩ = false := by
  unfold At at h; simp [World.frozen?, h]
theorem At.lt {w : World} {g : Nat} {t : TypeId} {cs : Array Value} (h : At w g t cs) : g < w.heap.size := (Array.getElem?_eq_some_iff.1 h).1
theorem At.new (w : World) (t : TypeId) (cs : Array Value) : At (w.alloc (.cells cs t)) w.heap.size t cs := by
  show (w.heap.push _)[w.heap.size]? = _
  simp
theorem At.alloc {w : World} {g : Nat} {t : TypeId} {cs : Array Value} (h : At w g t cs) (o : Obj) : At (w.alloc o) g t cs := (Below.heap_alloc w o g h.lt).trans h
theorem At.set {w : World} {g : Nat} {t : TypeId} {cs : Array Value} (h : At w g t cs) (i : Nat) (u : Value) : At (w.setCell ⟨g, i, none⟩ u) g t (cs.setIfInBounds i u) := by
  unfold At at h ⊢
  simp [World.setCell, Array.getElem?_modify, h]
theorem At.other {w : World} {g : Nat} {t : TypeId} {cs : Array Value} (h : At w g t cs) {p : Addr} (hp : g ≠ p.block) (u : Value) : At (w.setCell p u) g t cs := (Below.heap_setCell w p u g hp).trans h
theorem At.below {B : Nat} {w w' : World} {g : Nat} {t : TypeId} {cs : Array Value} (h : At w g t cs) (hb : Below B w w') (hg : g < B) : At w' g t cs := (hb.block g hg).trans h
theorem At.drewN {w : World} {g : Nat} {t : TypeId} {cs : Array Value} (h : At w g t cs) (n : Nat) : At (w.drewN n) g t cs := h
theorem At.row {w : World} {g : Nat} {t : TypeId} {cs : Array Value} (h : At w g t cs) (cs' : Array Value) : At (w.setRow g cs') g t cs' := setRow_heap w g cs cs' t (0, 0) h
theorem At.rowOther {w : World} {g k : Nat} {t : TypeId} {cs : Array Value} (h : At w k t cs) (hk : k ≠ g) (cs' : Array Value) : At (w.setRow g cs') k t cs := (setRow_other w g k cs' hk).trans h
theorem bl_row {B g : Nat} {w0 w : World} (hb : Below B w0 w) (hBg : B ≤ g) (cs : Array Value) : Below B w0 (w.setRow g cs) := below_setRow hb hBg cs
theorem bl_drawn {B : Nat} {w0 w : World} (hb : Below B w0 w) (n : Nat) : Below B w0 (w.drewN n) := hb.trans ⟨rfl, rfl, rfl, Nat.le_refl _, fun _ _ => rfl⟩
/-- A whole struct into the block that was made last. -/
theorem wpList_storeNew {P : Program} {ops : Array Oper} {rest : List Oper} {op : Oper} {a : Act} {w0 : World} {Q : Exit → Act → World → Prop} (c c' : Array Value) (t : TypeId) (hgd : op.guard = none) (x y : Operand) (ho : op.op = .store t x y)
    (hx : a.eval x = .pointer (some ⟨w0.heap.size, 0, none⟩)) (hy : a.eval y = .agg c') (hi : (P.info? t).map (·.size) = some c'.size) (hc : c.size = c'.size) (h1 : c'.all (·.oneCell') = true)
    (h : wpList P ops Q rest (a.put op.dst undef) (w0.alloc (.cells c' t))) : wpList P ops Q (op :: rest) a (w0.alloc (.cells c t)) :=
  wpList_plain hgd fun K hK => by
    unfold Oper.wp execOp
    simp only [ho, hx, hy, Instr.storeAt, Instr.sureAddr, Sem.run_bind, Sem.run_pure, Result.andThen_ok, run_storeVar_new w0 t c c' hi hc h1]
    exact hK _ _ h

theorem blk1 {w w' : World} {c0 : Array Value} {t0 : TypeId} (hb : Below (w.alloc (.cells c0 t0)).heap.size (w.alloc (.cells c0 t0)) w') : At w' (w.heap.size) t0 c0 ∧ Below w.heap.size w w' ∧ w.heap.size + 1 ≤ w'.heap.size := by
  have a0 := At.new w t0 c0
  simp only [World.size_alloc] at hb 
  have hsz := hb.size
  simp only [World.size_alloc] at hsz
  exact ⟨(a0).below hb (by omega), ((Below.refl _ _).alloc (by first | exact Nat.le_refl _ | (simp only [World.size_alloc]; omega)) _).trans (hb.mono (by omega)), by omega⟩
theorem blk2 {w w' : World} {c0 c1 : Array Value} {t0 t1 : TypeId} (hb : Below ((w.alloc (.cells c0 t0)).alloc (.cells c1 t1)).heap.size ((w.alloc (.cells c0 t0)).alloc (.cells c1 t1)) w') : At w' (w.heap.size) t0 c0 ∧ At w' (w.heap.size + 1) t1 c1 ∧ Below w.heap.size w w' ∧ w.heap.size + 2 ≤ w'.heap.size := by
  have a0 := At.new w t0 c0
  have a1 := At.new (w.alloc (.cells c0 t0)) t1 c1
  simp only [World.size_alloc] at hb a1
  have hsz := hb.size
  simp only [World.size_alloc] at hsz
  exact ⟨((a0.alloc _)).below hb (by omega), (a1).below hb (by omega), (((Below.refl _ _).alloc (by first | exact Nat.le_refl _ | (simp only [World.size_alloc]; omega)) _).alloc (by first | exact Nat.le_refl _ | (simp only [World.size_alloc]; omega)) _).trans (hb.mono (by omega)), by omega⟩
theorem blk3 {w w' : World} {c0 c1 c2 : Array Value} {t0 t1 t2 : TypeId} (hb : Below (((w.alloc (.cells c0 t0)).alloc (.cells c1 t1)).alloc (.cells c2 t2)).heap.size (((w.alloc (.cells c0 t0)).alloc (.cells c1 t1)).alloc (.cells c2 t2)) w') : At w' (w.heap.size) t0 c0 ∧ At w' (w.heap.size + 1) t1 c1 ∧ At w' (w.heap.size + 2) t2 c2 ∧ Below w.heap.size w w' ∧ w.heap.size + 3 ≤ w'.heap.size := by
  have a0 := At.new w t0 c0
  have a1 := At.new (w.alloc (.cells c0 t0)) t1 c1
  have a2 := At.new ((w.alloc (.cells c0 t0)).alloc (.cells c1 t1)) t2 c2
  simp only [World.size_alloc] at hb a1 a2
  have hsz := hb.size
  simp only [World.size_alloc] at hsz
  exact ⟨(((a0.alloc _).alloc _)).below hb (by omega), ((a1.alloc _)).below hb (by omega), (a2).below hb (by omega), ((((Below.refl _ _).alloc (by first | exact Nat.le_refl _ | (simp only [World.size_alloc]; omega)) _).alloc (by first | exact Nat.le_refl _ | (simp only [World.size_alloc]; omega)) _).alloc (by first | exact Nat.le_refl _ | (simp only [World.size_alloc]; omega)) _).trans (hb.mono (by omega)), by omega⟩
theorem blk4 {w w' : World} {c0 c1 c2 c3 : Array Value} {t0 t1 t2 t3 : TypeId} (hb : Below ((((w.alloc (.cells c0 t0)).alloc (.cells c1 t1)).alloc (.cells c2 t2)).alloc (.cells c3 t3)).heap.size ((((w.alloc (.cells c0 t0)).alloc (.cells c1 t1)).alloc (.cells c2 t2)).alloc (.cells c3 t3)) w') : At w' (w.heap.size) t0 c0 ∧ At w' (w.heap.size + 1) t1 c1 ∧ At w' (w.heap.size + 2) t2 c2 ∧ At w' (w.heap.size + 3) t3 c3 ∧ Below w.heap.size w w' ∧ w.heap.size + 4 ≤ w'.heap.size := by
  have a0 := At.new w t0 c0
  have a1 := At.new (w.alloc (.cells c0 t0)) t1 c1
  have a2 := At.new ((w.alloc (.cells c0 t0)).alloc (.cells c1 t1)) t2 c2
  have a3 := At.new (((w.alloc (.cells c0 t0)).alloc (.cells c1 t1)).alloc (.cells c2 t2)) t3 c3
  simp only [World.size_alloc] at hb a1 a2 a3
  have hsz := hb.size
  simp only [World.size_alloc] at hsz
  exact ⟨((((a0.alloc _).alloc _).alloc _)).below hb (by omega), (((a1.alloc _).alloc _)).below hb (by omega), ((a2.alloc _)).below hb (by omega), (a3).below hb (by omega), (((((Below.refl _ _).alloc (by first | exact Nat.le_refl _ | (simp only [World.size_alloc]; omega)) _).alloc (by first | exact Nat.le_refl _ | (simp only [World.size_alloc]; omega)) _).alloc (by first | exact Nat.le_refl _ | (simp only [World.size_alloc]; omega)) _).alloc (by first | exact Nat.le_refl _ | (simp only [World.size_alloc]; omega)) _).trans (hb.mono (by omega)), by omega⟩
theorem blk5 {w w' : World} {c0 c1 c2 c3 c4 : Array Value} {t0 t1 t2 t3 t4 : TypeId} (hb : Below (((((w.alloc (.cells c0 t0)).alloc (.cells c1 t1)).alloc (.cells c2 t2)).alloc (.cells c3 t3)).alloc (.cells c4 t4)).heap.size (((((w.alloc (.cells c0 t0)).alloc (.cells c1 t1)).alloc (.cells c2 t2)).alloc (.cells c3 t3)).alloc (.cells c4 t4)) w') : At w' (w.heap.size) t0 c0 ∧ At w' (w.heap.size + 1) t1 c1 ∧ At w' (w.heap.size + 2) t2 c2 ∧ At w' (w.heap.size + 3) t3 c3 ∧ At w' (w.heap.size + 4) t4 c4 ∧ Below w.heap.size w w' ∧ w.heap.size + 5 ≤ w'.heap.size := by
  have a0 := At.new w t0 c0
  have a1 := At.new (w.alloc (.cells c0 t0)) t1 c1
  have a2 := At.new ((w.alloc (.cells c0 t0)).alloc (.cells c1 t1)) t2 c2
  have a3 := At.new (((w.alloc (.cells c0 t0)).alloc (.cells c1 t1)).alloc (.cells c2 t2)) t3 c3
  have a4 := At.new ((((w.alloc (.cells c0 t0)).alloc (.cells c1 t1)).alloc (.cells c2 t2)).alloc (.cells c3 t3)) t4 c4
  simp only [World.size_alloc] at hb a1 a2 a3 a4
  have hsz := hb.size
  simp only [World.size_alloc] at hsz
  exact ⟨(((((a0.alloc _).alloc _).alloc _).alloc _)).below hb (by omega), ((((a1.alloc _).alloc _).alloc _)).below hb (by omega), (((a2.alloc _).alloc _)).below hb (by omega), ((a3.alloc _)).below hb (by omega), (a4).below hb (by omega), ((((((Below.refl _ _).alloc (by first | exact Nat.le_refl _ | (simp only [World.size_alloc]; omega)) _).alloc (by first | exact Nat.le_refl _ | (simp only [World.size_alloc]; omega)) _).alloc (by first | exact Nat.le_refl _ | (simp only [World.size_alloc]; omega)) _).alloc (by first | exact Nat.le_refl _ | (simp only [World.size_alloc]; omega)) _).alloc (by first | exact Nat.le_refl _ | (simp only [World.size_alloc]; omega)) _).trans (hb.mono (by omega)), by omega⟩
theorem results_row_tmp {P : Program} {fn : Func} {p q : Tmp} {ty : TypeId} (h : fn.results = #[.cell p ty, .tmp q]) (tmps : Array Value) (w : World) (g : Nat) (t : TypeId) (cs : Array Value) (fr : Nat × Nat) (d : TypeDesc)
    (x : Value) (hp : tmps.getD p undef = .pointer (some ⟨g, 0, none⟩)) (hq : tmps.getD q undef = x) (hg : w.heap[g]? = some (.cells cs t fr))
    (hu : P.underlying ty = some d) (hd : (match d with | .struct _ | .array _ _ => true | _ => false) = true) (hi : (P.info? ty).map (·.size) = some cs.size) :
    (results fn tmps).run P w = .ok (.tuple #[.agg cs, x]) w := by
  subst hq
  have hp' : tmps[p]?.getD undef = .pointer (some ⟨g, 0, none⟩) := by simpa using hp
  rw [results_cell_tmp h, hp]
  simp [asAddr, run_loadVar_row w g t ty cs fr d hg hu hd hi, Result.andThen]
end Go.Proofs.Ytgecmooedhnenaa
