/- A node of a block, by value and in a block of its own. No condition. -/
import Derived.Test.YtolpecacibmkjaaBase
import Derived.Deep.MidRow
namespace Go.Proofs.Ytolpecacibmkjaa
open Go.RowKit

/-- A node's numbers; its two slices as they stand. -/
structure Nd where
  kd : Int
  na : Int
  nb : Int
  nk : Int
  ns : Int
  np : Int
  no : Int
  za : Int
  zb : Int
  vw : Value
  vb : Value
  qm : Int
  qs : Int
  qz : Int
  rm : Int
  rs : Int
  rz : Int
  lo : Int
  hi : Int

abbrev Nd.cs (n : Nd) : Array Value := #[.int .i64 n.kd, .int .i64 n.na, .int .i64 n.nb, .int .i64 n.nk, .int .i64 n.ns, .int .i64 n.np, .int .i64 n.no, .int .i8 n.za, .int .i8 n.zb, n.vw, n.vb,
  .int .i32 n.qm, .int .i64 n.qs, .int .i8 n.qz, .int .i32 n.rm, .int .i64 n.rs, .int .i8 n.rz, .int .i8 n.lo, .int .i8 n.hi]

/-- Each number is one of its type. -/
structure Nd.Ok (n : Nd) : Prop where
  kd : (Lit.int .i64 n.kd).wf = true
  na : (Lit.int .i64 n.na).wf = true
  nb : (Lit.int .i64 n.nb).wf = true
  nk : (Lit.int .i64 n.nk).wf = true
  ns : (Lit.int .i64 n.ns).wf = true
  np : (Lit.int .i64 n.np).wf = true
  no : (Lit.int .i64 n.no).wf = true
  za : (Lit.int .i8 n.za).wf = true
  zb : (Lit.int .i8 n.zb).wf = true
  qm : (Lit.int .i32 n.qm).wf = true
  qs : (Lit.int .i64 n.qs).wf = true
  qz : (Lit.int .i8 n.qz).wf = true
  rm : (Lit.int .i32 n.rm).wf = true
  rs : (Lit.int .i64 n.rs).wf = true
  rz : (Lit.int .i8 n.rz).wf = true
  lo : (Lit.int .i8 n.lo).wf = true
  hi : (Lit.int .i8 n.hi).wf = true

/-- The node lies in block g. -/
def NdAt (w : World) (g : Nat) (n : Nd) : Prop := ∀ i v, n.cs[i]? = some v → w.cell? ⟨g, i, none⟩ = some v

theorem NdAt.new (w : World) (n : Nd) (t : TypeId) : NdAt (w.alloc (.cells n.cs t)) w.heap.size n := by
  intro i v h; rw [World.cell?_alloc_at _ _ _ _ rfl]; exact h
theorem NdAt.below {w w' : World} {g : Nat} {n : Nd} (h : NdAt w g n) (hb : Below w.heap.size w w') : NdAt w' g n := fun i v hv => bl_get hb (h i v hv)
theorem NdAt.all {w : World} {g : Nat} {n : Nd} (h : NdAt w g n) : w.cell? ⟨g, 0, none⟩ = some (.int .i64 n.kd) ∧ w.cell? ⟨g, 1, none⟩ = some (.int .i64 n.na) ∧ w.cell? ⟨g, 2, none⟩ = some (.int .i64 n.nb) ∧ w.cell? ⟨g, 3, none⟩ = some (.int .i64 n.nk) ∧
    w.cell? ⟨g, 4, none⟩ = some (.int .i64 n.ns) ∧ w.cell? ⟨g, 5, none⟩ = some (.int .i64 n.np) ∧ w.cell? ⟨g, 6, none⟩ = some (.int .i64 n.no) ∧ w.cell? ⟨g, 7, none⟩ = some (.int .i8 n.za) ∧ w.cell? ⟨g, 8, none⟩ = some (.int .i8 n.zb) ∧
    w.cell? ⟨g, 9, none⟩ = some n.vw ∧ w.cell? ⟨g, 10, none⟩ = some n.vb ∧ w.cell? ⟨g, 11, none⟩ = some (.int .i32 n.qm) ∧ w.cell? ⟨g, 12, none⟩ = some (.int .i64 n.qs) ∧ w.cell? ⟨g, 13, none⟩ = some (.int .i8 n.qz) ∧
    w.cell? ⟨g, 14, none⟩ = some (.int .i32 n.rm) ∧ w.cell? ⟨g, 15, none⟩ = some (.int .i64 n.rs) ∧ w.cell? ⟨g, 16, none⟩ = some (.int .i8 n.rz) ∧ w.cell? ⟨g, 17, none⟩ = some (.int .i8 n.lo) ∧ w.cell? ⟨g, 18, none⟩ = some (.int .i8 n.hi) :=
  ⟨h 0 _ rfl, h 1 _ rfl, h 2 _ rfl, h 3 _ rfl, h 4 _ rfl, h 5 _ rfl, h 6 _ rfl, h 7 _ rfl, h 8 _ rfl, h 9 _ rfl, h 10 _ rfl, h 11 _ rfl, h 12 _ rfl, h 13 _ rfl, h 14 _ rfl, h 15 _ rfl, h 16 _ rfl, h 17 _ rfl, h 18 _ rfl⟩

theorem NdAt.load {w : World} {g : Nat} {n : Nd} (h : NdAt w g n) : (Instr.loadAt 51 (.pointer (some ⟨g, 0, none⟩))).run Try.prog w = .ok (.agg n.cs) w := by
  have := run_loadAt_mid (P := Try.prog) w g 0 51 n.cs.toList _ (fun j v hv => by rw [Nat.zero_add]; exact h j v (by simpa using hv)) Try.underlying51 rfl (by kernel_rfl)
  simpa using this

/-- The whole node is loaded: at a plain region's list; at one operation. -/
theorem wpList_loadN {ops : Array Oper} {rest : List Oper} {op : Oper} {a : Act} {w : World} {Q : Exit → Act → World → Prop} {g : Nat} {n : Nd} (hn : NdAt w g n) (hgd : op.guard = none) (x : Operand) (ho : op.op = .load 51 x)
    (hx : a.eval x = .pointer (some ⟨g, 0, none⟩)) (h : wpList Try.prog ops Q rest (a.put op.dst (.agg n.cs)) w) : wpList Try.prog ops Q (op :: rest) a w :=
  wpList_load_mid hgd 51 x ho g 0 hx n.cs.toList _ (fun j v hv => by rw [Nat.zero_add]; exact hn j v (by simpa using hv)) Try.underlying51 rfl (by kernel_rfl) (by simpa using h)
theorem wp_loadN {op : Oper} {a : Act} {w : World} {K : Act → World → Prop} {Q : Exit → Act → World → Prop} {g : Nat} {n : Nd} (hn : NdAt w g n) (x : Operand) (ho : op.op = .load 51 x)
    (hx : a.eval x = .pointer (some ⟨g, 0, none⟩)) (h : K (a.put op.dst (.agg n.cs)) w) : op.wp Try.prog a w K Q :=
  wp_load_mid 51 x ho g 0 hx n.cs.toList _ (fun j v hv => by rw [Nat.zero_add]; exact hn j v (by simpa using hv)) Try.underlying51 rfl (by kernel_rfl) (by simpa using h)
/-- The same at a guarded operation that is carried out. -/
theorem wpList_loadNg {ops : Array Oper} {rest : List Oper} {op : Oper} {a : Act} {w : World} {Q : Exit → Act → World → Prop} {g : Nat} {n : Nd} (hn : NdAt w g n) (hw : Region.wanted op (yielded ops a.tmps) = true) (x : Operand) (ho : op.op = .load 51 x)
    (hx : a.eval x = .pointer (some ⟨g, 0, none⟩)) (h : wpList Try.prog ops Q rest (a.put op.dst (.agg n.cs)) w) : wpList Try.prog ops Q (op :: rest) a w :=
  wpList_step fun K hK => by simp only [hw, if_true]; exact wp_loadN hn x ho hx (hK _ _ h)
end Go.Proofs.Ytolpecacibmkjaa
