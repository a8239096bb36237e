/- Texts of this claim, put together: Base, At, FixP, Core, Fin, Elems, Open, Rdr, SpA, Eq, KnC, KnP, Gs, Few, Blc, BnS, BcC, BcD, BcE, BnT, BnA, BnB, LbA, LbC, LbG, Lbv, CrcP, CrcA, CrcB, CsC, BnC, Va, VaM, BnF. No condition. -/
import Derived.Shelf.Bits.Mul64
import Derived.Handy
import Derived.ScopeJumps
import Derived.OwnWalk
import Derived.Outline
import Derived.Deep.LoopGhost
import Derived.Test.YtdmkhinckljddaaGreatProg
import Derived.WalkKit
import Derived.Below
import Derived.LoopTactic
import Derived.RegionTactic
import Derived.ChangeAlike
import Derived.BigRegion
import Derived.Deep.QuietTactic
import Derived.BigQuiet
import Derived.Lib.Hide
import Derived.WalkSpells
import Derived.WalkLawsBesides
import Derived.WalkSmall
import Derived.Laws.BytesString
import Derived.Laws.IdiomStrings
import Derived.Laws.BitsAllLaws
import Derived.Laws.AppendOwnNone
import Derived.PlainAid
import Derived.Laws.Tables
import Derived.Laws.CopyOwn
import Derived.Deep.WholeRow
import Derived.Laws.ResultCell
import Derived.Deep.Slices
import Derived.ProofKit
import Derived.OpenShut
import Derived.ShutString
import Derived.ChangeOld
import Derived.Lib.SlBytesConst
import Derived.Test.YtdmkhinckljddaaGreatBundleCopiesG2
set_option linter.unusedVariables false
set_option linter.unusedSimpArgs false
set_option linter.unnecessarySimpa false
/- Words that all texts of this seat share: a slice that reads as a list of values, and how that reading is kept. No condition. -/
namespace Go.Proofs.YtdmkhinckljddaaGreat
open Go.RowKit

/-- The slice value v reads as the list xs (one cell an element) in the world w. -/
def Rd (w : World) (v : Value) (xs : List Value) : Prop :=
  ∃ ao cap, v = .slice ao xs.length cap ∧ (xs.length ≤ cap ∧ cap ≤ maxLen ∧ (ao = none → cap = 0)) ∧ (xs ≠ [] → ∃ b off, ao = some ⟨b, off, none⟩ ∧ ∀ j (h : j < xs.length), w.cell? ⟨b, off + j, none⟩ = some xs[j])

theorem lt_of_cell {w : World} {a : Addr} {v : Value} (h : w.cell? a = some v) : a.block < w.heap.size := World.block_lt_of_cell? w a h

theorem bl_get {w w' : World} (hb : Below w.heap.size w w') {b o : Nat} {v : Value} (h : w.cell? ⟨b, o, none⟩ = some v) : w'.cell? ⟨b, o, none⟩ = some v :=
  (hb.cell (p := ⟨b, o, none⟩) (lt_of_cell h)).trans h

/-- A goal at which the walk is to stand still: 'go_wp2_with (at_builtin; refine hold ?_)', then 'refine unheld ?_'. -/
def Held (p : Prop) : Prop := p
theorem hold {p : Prop} (h : Held p) : p := h
theorem unheld {p : Prop} (h : p) : Held p := h

theorem add_off (b off j : Nat) : (⟨b, off, none⟩ : Addr).add j = ⟨b, off + j, none⟩ := by unfold Addr.add; split <;> simp_all

theorem wf_i64 {n : Int} (h : (Lit.int .i64 n).wf = true) : -9223372036854775808 ≤ n ∧ n ≤ 9223372036854775807 := by
  simp only [Lit.wf, IntKind.min, IntKind.max, IntKind.signed, IntKind.bits, Bool.and_eq_true, decide_eq_true_eq] at h; simp at h; omega
theorem wf_i32 {n : Int} (h : (Lit.int .i32 n).wf = true) : -2147483648 ≤ n ∧ n ≤ 2147483647 := by
  simp only [Lit.wf, IntKind.min, IntKind.max, IntKind.signed, IntKind.bits, Bool.and_eq_true] at h; simp at h; omega
theorem wf_i8 {n : Int} (h : (Lit.int .i8 n).wf = true) : -128 ≤ n ∧ n ≤ 127 := by
  simp only [Lit.wf, IntKind.min, IntKind.max, IntKind.signed, IntKind.bits, Bool.and_eq_true] at h; simp at h; omega

end Go.Proofs.YtdmkhinckljddaaGreat

/- A block whose cells are all known. No condition. -/
namespace Go.Proofs.YtdmkhinckljddaaGreat
open Go.RowKit

/-- Block g holds the cells cs, of type t, none of them frozen. -/
def At (w : World) (g : Nat) (t : TypeId) (cs : Array Value) : Prop := w.heap[g]? = some (.cells cs t (0, 0))

theorem At.cell {w : World} {g : Nat} {t : TypeId} {cs : Array Value} (h : At w g t cs) (i : Nat) : w.cell? ⟨g, i, none⟩ = cs[i]? := by
  unfold At at h; simp [World.cell?, h]
theorem At.free {w : World} {g : Nat} {t : TypeId} {cs : Array Value} (h : At w g t cs) (i : Nat) : w.frozen? ⟨g, i, none⟩ = false := by
  unfold At at h; simp [World.frozen?, h]
theorem At.lt {w : World} {g : Nat} {t : TypeId} {cs : Array Value} (h : At w g t cs) : g < w.heap.size := (Array.getElem?_eq_some_iff.1 h).1
theorem At.new (w : World) (t : TypeId) (cs : Array Value) : At (w.alloc (.cells cs t)) w.heap.size t cs := by
  show (w.heap.push _)[w.heap.size]? = _
  simp
theorem At.alloc {w : World} {g : Nat} {t : TypeId} {cs : Array Value} (h : At w g t cs) (o : Obj) : At (w.alloc o) g t cs := (Below.heap_alloc w o g h.lt).trans h
theorem At.set {w : World} {g : Nat} {t : TypeId} {cs : Array Value} (h : At w g t cs) (i : Nat) (u : Value) : At (w.setCell ⟨g, i, none⟩ u) g t (cs.setIfInBounds i u) := by
  unfold At at h ⊢
  simp [World.setCell, Array.getElem?_modify, h]
theorem At.other {w : World} {g : Nat} {t : TypeId} {cs : Array Value} (h : At w g t cs) {p : Addr} (hp : g ≠ p.block) (u : Value) : At (w.setCell p u) g t cs := (Below.heap_setCell w p u g hp).trans h
theorem At.row {w : World} {g : Nat} {t : TypeId} {cs : Array Value} (h : At w g t cs) (cs' : Array Value) : At (w.setRow g cs') g t cs' := setRow_heap w g cs cs' t (0, 0) h
theorem bl_row {B g : Nat} {w0 w : World} (hb : Below B w0 w) (hBg : B ≤ g) (cs : Array Value) : Below B w0 (w.setRow g cs) := below_setRow hb hBg cs
/-- A whole struct into the block that was made last. -/
theorem wpList_storeNew {P : Program} {ops : Array Oper} {rest : List Oper} {op : Oper} {a : Act} {w0 : World} {Q : Exit → Act → World → Prop} (c c' : Array Value) (t : TypeId) (hgd : op.guard = none) (x y : Operand) (ho : op.op = .store t x y)
    (hx : a.eval x = .pointer (some ⟨w0.heap.size, 0, none⟩)) (hy : a.eval y = .agg c') (hi : (P.info? t).map (·.size) = some c'.size) (hc : c.size = c'.size) (h1 : c'.all (·.oneCell') = true)
    (h : wpList P ops Q rest (a.put op.dst undef) (w0.alloc (.cells c' t))) : wpList P ops Q (op :: rest) a (w0.alloc (.cells c t)) :=
  wpList_plain hgd fun K hK => by
    unfold Oper.wp execOp
    simp only [ho, hx, hy, Instr.storeAt, Instr.sureAddr, Sem.run_bind, Sem.run_pure, Result.andThen_ok, run_storeVar_new w0 t c c' hi hc h1]
    exact hK _ _ h

end Go.Proofs.YtdmkhinckljddaaGreat

/- Plain laws of numbers by powers of two, rounded to the nearest, halves away from 0. No program here. No condition. -/
namespace Go.Proofs.YtdmkhinckljddaaGreat

/-- A number by 2 to the s, to the nearest, halves up. -/
def rn (m s : Nat) : Nat := if s = 0 then m else m / 2 ^ s + m / 2 ^ (s - 1) % 2
end Go.Proofs.YtdmkhinckljddaaGreat

/- Scalar functions in the words of values; tensors and nodes. No condition. -/
namespace Go.Proofs.YtdmkhinckljddaaGreat
open Go.RowKit

/-- A tensor's sides and its numbers. -/
structure Ten where
  h : Int
  x : Int
  c : Int
  d : List Int
abbrev In64 (n : Int) : Prop := -9223372036854775808 ≤ n ∧ n ≤ 9223372036854775807
abbrev In32 (n : Int) : Prop := -2147483648 ≤ n ∧ n ≤ 2147483647
abbrev In8 (n : Int) : Prop := -128 ≤ n ∧ n ≤ 127
abbrev ten (k : IntKind) (T : Ten) : AV := .agg [i64 T.h, i64 T.x, i64 T.c, ints k T.d]
structure Nod where
  kd : Int
  na : Int
  nb : Int
  nk : Int
  ns : Int
  np : Int
  no : Int
  za : Int
  zb : Int
  w : List Int
  b : List Int
  qm : Int
  qs : Int
  qz : Int
  rm : Int
  rs : Int
  rz : Int
  lo : Int
  hi : Int
abbrev nodC (n : Nod) : List AV := [i64 n.kd, i64 n.na, i64 n.nb, i64 n.nk, i64 n.ns, i64 n.np, i64 n.no, i8 n.za, i8 n.zb, ints .i8 n.w, ints .i32 n.b, i32 n.qm, i64 n.qs, i8 n.qz, i32 n.rm, i64 n.rs, i8 n.rz, i8 n.lo, i8 n.hi]
abbrev nod (n : Nod) : AV := .agg (nodC n)
structure Nod.Ok (n : Nod) : Prop where
  kd : In64 n.kd
  na : In64 n.na
  nb : In64 n.nb
  nk : In64 n.nk
  ns : In64 n.ns
  np : In64 n.np
  no : In64 n.no
  za : In8 n.za
  zb : In8 n.zb
  w : ∀ v ∈ n.w, In8 v
  b : ∀ v ∈ n.b, In32 v
  qm : In32 n.qm
  qs : In64 n.qs
  qz : In8 n.qz
  rm : In32 n.rm
  rs : In64 n.rs
  rz : In8 n.rz
  lo : In8 n.lo
  hi : In8 n.hi

end Go.Proofs.YtdmkhinckljddaaGreat

/- From the world's words into those of values: what a law's arguments are. No condition. -/
namespace Go.Proofs.YtdmkhinckljddaaGreat
open Go.RowKit
set_option linter.unusedSimpArgs false
set_option linter.unusedVariables false
set_option linter.unnecessarySimpa false

def RelL (w : World) (l : List AV) (vs : List Value) : Prop := vs.length = l.length ∧ ∀ (i : Nat) (c : AV) (v : Value), l[i]? = some c → vs[i]? = some v → Rel (fun _ => none) E0 w c v
theorem RelL.nil (w : World) : RelL w [] [] := ⟨rfl, fun i c v h => by simp at h⟩
theorem RelL.cons {w : World} {c : AV} {v : Value} {l : List AV} {vs : List Value} (h : Rel (fun _ => none) E0 w c v) (hl : RelL w l vs) : RelL w (c :: l) (v :: vs) := ⟨by simp [hl.1], fun i a b ha hb => by
  cases i with
  | zero => simp at ha hb; subst ha hb; exact h
  | succ i => exact hl.2 i a b (by simpa using ha) (by simpa using hb)⟩
theorem RelL.agg {w : World} {l : List AV} {vs : List Value} (h : RelL w l vs) : Rel (fun _ => none) E0 w (.agg l) (.agg vs.toArray) := .agg h.1 h.2
/-- A law that holds, in the world's words. -/
theorem law_of {P : Program} {f : Nat} {args : List AV} {xs : List Value} {w : World} (h : VC P f args (bv true)) (hr : RelL w args xs) (ht : TabW w := by intro p hp; cases hp) : Calls P f xs.toArray w fun e w' => e = .returned (.bool true) ∧ Below w.heap.size w w' :=
  (h E0 w xs ⟨fun _ h => h.elim, ht, fun _ h => h.elim⟩ hr.1 hr.2).mono fun e w' ⟨x, he, hx, hb⟩ => ⟨by rw [he, rel_lit hx], hb⟩
end Go.Proofs.YtdmkhinckljddaaGreat

/- Slices whose elements have more than one cell: how they read, and the call's own ones. No condition. -/
namespace Go.Proofs.YtdmkhinckljddaaGreat
open Go.RowKit
set_option linter.unusedVariables false
set_option linter.unusedSimpArgs false

/-- The slice value v reads as the rows rs, each of c cells. -/
def RdN (c : Nat) (w : World) (v : Value) (rs : List (List Value)) : Prop :=
  (∀ r ∈ rs, r.length = c) ∧ ∃ ao cap, v = .slice ao rs.length cap ∧ (rs.length ≤ cap ∧ cap ≤ maxLen ∧ (ao = none → cap = 0)) ∧
    (rs ≠ [] → ∃ b off, ao = some ⟨b, off, none⟩ ∧ ∀ j r i u, rs[j]? = some r → r[i]? = some u → w.cell? ⟨b, off + j * c + i, none⟩ = some u)

theorem RdN.nil (c : Nat) (w : World) : RdN c w (.slice none 0 0) [] := ⟨by simp, none, 0, rfl, ⟨Nat.le_refl _, Nat.zero_le _, fun _ => rfl⟩, fun h => absurd rfl h⟩
end Go.Proofs.YtdmkhinckljddaaGreat

/- What an argument's reading tells of its cells: numbers, slices of numbers, fields of structs, elements of arrays. No condition. -/
namespace Go.Proofs.YtdmkhinckljddaaGreat
open Go.RowKit Go.ChangeShapes Go.WideShapes

section
variable {H : Type} {enc : TypeId × Value → H} {P : Program} {w : World} {sp : Nat → Bool} {held : Bool}

/-- Cells that can be read as of a type. -/
def Can {H : Type} (enc : TypeId × Value → H) (P : Program) (w : World) (sp : Nat → Bool) (held : Bool) (t : TypeId) (cs : List Value) : Prop := ∃ m x, DataW.trod enc P w 0 sp held m t cs = some x

theorem Can.of {t : TypeId} {v : Value} {d : DataW H} {p : List MemPlace} (h : DataW.Trod enc P w 0 sp held t v d p) : Can enc P w sp held t v.cells.toList := by
  obtain ⟨m, h⟩ := h; exact ⟨m, _, h⟩

theorem Can.int {t : TypeId} {k : IntKind} {c : Value} (ht : P.underlying t = some (.int k)) (h : Can enc P w sp held t [c]) : ∃ n, c = .int k n ∧ (Lit.int k n).wf = true := by
  obtain ⟨m, x, h⟩ := h
  obtain ⟨n, hc, _, hw⟩ := DataW.trod_int ht h
  exact ⟨n, by simpa using hc, hw⟩

theorem Can.bool {t : TypeId} {c : Value} (ht : P.underlying t = some .bool) (h : Can enc P w sp held t [c]) : ∃ b, c = .bool b := by
  obtain ⟨m, x, h⟩ := h
  obtain ⟨n, hc, _⟩ := DataW.trod_bool ht h
  exact ⟨n, by simpa using hc⟩

theorem Can.fields {t : TypeId} {fs : Array Field} {cs : List Value} (ht : P.underlying t = some (.struct fs)) (h : Can enc P w sp held t cs) :
    ∀ (i : Nat) (f : Field), fs[i]? = some f → Can enc P w sp held f.type ((cs.drop f.offset).take (P.cellsOf f.type)) := by
  obtain ⟨m, x, h⟩ := h
  obtain ⟨xs, n, _, _, _, hl, hf⟩ := DataW.trod_struct ht h
  intro i f hi
  have hlt : i < xs.length := by rw [hl]; exact (Array.getElem?_eq_some_iff.1 hi).1
  exact ⟨n, xs[i], by rw [hf i f hi, List.getElem?_eq_getElem hlt]⟩

/-- A slice whose elements have c cells each. -/
theorem Can.slice {t e : TypeId} {v : Value} {c : Nat} (ht : P.underlying t = some (.slice e)) (hc : P.cellsOf e = c) (hc0 : 0 < c) (h : Can enc P w sp held t [v]) :
    ∃ rs : List (List Value), RdN c w v rs ∧ ∀ r ∈ rs, Can enc P w sp held e r := by
  obtain ⟨m0, x, h⟩ := h
  rcases Go.Deep.open_slice ht h with ⟨hcs, _⟩ | ⟨a, len, cap, m, n, D, Pl, hcs, _, hl, hm, hmm, _, hel⟩
  · simp only [List.cons.injEq, and_true] at hcs
    rw [hcs]; exact ⟨[], RdN.nil _ _, by simp⟩
  · simp only [List.cons.injEq, and_true] at hcs
    subst hcs
    have hlm : len ≤ m := by rw [hmm]; split <;> omega
    have hel' : ∀ i : Nat, ∃ r : List Value, i < len → w.cells? 0 (a.add (i * c)) c = some r ∧ Can enc P w sp held e r := by
      intro i
      by_cases hi : i < len
      · obtain ⟨cs', h1, h2⟩ := hel i (by omega)
        rw [hc] at h1
        exact ⟨cs', fun _ => ⟨h1, n, _, h2⟩⟩
      · exact ⟨[], fun h => absurd h hi⟩
    obtain ⟨R, hR⟩ : ∃ R : Nat → List Value, ∀ i, i < len → w.cells? 0 (a.add (i * c)) c = some (R i) ∧ Can enc P w sp held e (R i) := ⟨fun i => Classical.choose (hel' i), fun i => Classical.choose_spec (hel' i)⟩
    have key : ∀ i, i < len → (R i).length = c ∧ ∀ k, k < c → w.cell? ((a.add (i * c)).add k) = (R i)[k]? := by
      intro i hi
      have := World.cells?_some (hR i hi).1
      exact ⟨this.2.1, this.2.2⟩
    refine ⟨(List.range len).map R, ⟨?_, some a, cap, by simp, ⟨by simpa using hl, hm, by simp⟩, fun hne => ?_⟩, ?_⟩
    · intro r hr
      obtain ⟨i, hi, rfl⟩ := List.mem_map.1 hr
      exact (key i (List.mem_range.1 hi)).1
    · have h0 : 0 < len := by
        rcases Nat.eq_zero_or_pos len with h0 | h0
        · subst h0; simp at hne
        · exact h0
      obtain ⟨b, off, spot⟩ := a
      have g0 := (key 0 h0).2 0 hc0
      have hlt : 0 < (R 0).length := by rw [(key 0 h0).1]; exact hc0
      rw [List.getElem?_eq_getElem hlt] at g0
      have hs : spot = none := by simpa [Addr.add] using World.cell?_spot g0
      subst hs
      refine ⟨b, off, rfl, fun j r i u hj hi => ?_⟩
      rw [List.getElem?_map] at hj
      obtain ⟨j', hj', rfl⟩ := Option.map_eq_some_iff.1 hj
      obtain ⟨hjl, rfl⟩ : j < len ∧ j' = j := by
        have := List.getElem?_eq_some_iff.1 hj'
        obtain ⟨h1, h2⟩ := this
        simp at h1 h2; exact ⟨h1, h2.symm⟩
      have hic : i < c := by have := (List.getElem?_eq_some_iff.1 hi).1; rw [(key j' hjl).1] at this; exact this
      have := (key j' hjl).2 i hic
      rw [hi, add_off, add_off] at this
      rw [← this]
    · intro r hr
      obtain ⟨i, hi, rfl⟩ := List.mem_map.1 hr
      exact (hR i (List.mem_range.1 hi)).2

end
end Go.Proofs.YtdmkhinckljddaaGreat

/- What an argument of any type reads as: numbers, truth values, slices, structs, one in the other. No condition. -/
namespace Go.Proofs.YtdmkhinckljddaaGreat
open Go.RowKit Go.ChangeShapes Go.WideShapes

/-- Cells that are as told. -/
def CellsAre (w : World) (l : List AV) (cs : List Value) : Prop := cs.length = l.length ∧ ∀ (i : Nat) (a : AV) (v : Value), l[i]? = some a → cs[i]? = some v → PRel E0 w a v ∧ v.oneCell' = true
theorem CellsAre.one {w : World} {a : AV} {v : Value} (h : PRel E0 w a v) (h1 : v.oneCell' = true) : CellsAre w [a] [v] := ⟨rfl, fun i x y hx hy => by
  cases i with
  | zero => simp at hx hy; subst hx hy; exact ⟨h, h1⟩
  | succ i => simp at hx⟩
theorem CellsAre.app {w : World} {l m : List AV} {cs ds : List Value} (h : CellsAre w l cs) (g : CellsAre w m ds) : CellsAre w (l ++ m) (cs ++ ds) := ⟨by simp [h.1, g.1], fun i a v ha hv => by
  rw [List.getElem?_append] at ha hv
  rw [h.1] at hv
  split at ha
  · rw [if_pos ‹_›] at hv; exact h.2 i a v ha hv
  · rw [if_neg ‹_›] at hv; exact g.2 _ a v ha hv⟩
theorem CellsAre.rel {w : World} {l : List AV} {cs : List Value} (h : CellsAre w l cs) : RelL w l cs := ⟨h.1, fun i a v ha hv => .pure (h.2 i a v ha hv).1⟩
theorem CellsAre.agg {w : World} {l : List AV} {cs : List Value} (h : CellsAre w l cs) : Rel (fun _ => none) E0 w (.agg l) (.agg cs.toArray) := RelL.agg h.rel
section
variable {H : Type} (enc : TypeId × Value → H) (P : Program) (w : World)
/-- Values of the type t read as D. -/
def Rdr (t : TypeId) (D : Type) (av : D → List AV) (ok : D → Prop) : Prop := ∀ cs, Can enc P w (fun _ => true) true t cs → cs.length = P.cellsOf t → ∃ d, ok d ∧ CellsAre w (av d) cs
variable {enc P w}
theorem Rdr.map {t : TypeId} {D E : Type} {av : D → List AV} {ok : D → Prop} {av' : E → List AV} {ok' : E → Prop} (h : Rdr enc P w t D av ok) (g : D → E) (ha : ∀ d, av' (g d) = av d) (hk : ∀ d, ok d → ok' (g d)) : Rdr enc P w t E av' ok' := fun cs hc hl => by
  obtain ⟨d, h1, h2⟩ := h cs hc hl
  exact ⟨g d, hk d h1, by rw [ha]; exact h2⟩
theorem one_of_len {cs : List Value} (h : cs.length = 1) : ∃ c, cs = [c] := by
  match cs, h with
  | [c], _ => exact ⟨c, rfl⟩
theorem Rdr.int {t : TypeId} {k : IntKind} {ok : Int → Prop} (ht : P.underlying t = some (.int k)) (hc : P.cellsOf t = 1) (hk : ∀ n, (Lit.int k n).wf = true → ok n) : Rdr enc P w t Int (fun n => [.lit (.int k n)]) ok := fun cs h hl => by
  obtain ⟨c, rfl⟩ := one_of_len (hl.trans hc)
  obtain ⟨n, rfl, hw⟩ := Can.int ht h
  exact ⟨n, hk n hw, .one (.lit _) rfl⟩
theorem Rdr.bool {t : TypeId} (ht : P.underlying t = some .bool) (hc : P.cellsOf t = 1) : Rdr enc P w t Bool (fun b => [.lit (.bool b)]) (fun _ => True) := fun cs h hl => by
  obtain ⟨c, rfl⟩ := one_of_len (hl.trans hc)
  obtain ⟨b, rfl⟩ := Can.bool ht h
  exact ⟨b, trivial, .one (.lit _) rfl⟩
theorem Rdr.slice {t e : TypeId} {c : Nat} {D : Type} {av : D → List AV} {ok : D → Prop} (ht : P.underlying t = some (.slice e)) (hct : P.cellsOf t = 1) (hc : P.cellsOf e = c) (hc0 : 0 < c) (h : Rdr enc P w e D av ok) :
    Rdr enc P w t (List D) (fun l => [.sl c (l.map av)]) (fun l => ∀ d ∈ l, ok d) := fun cs hcan hl => by
  obtain ⟨v, rfl⟩ := one_of_len (hl.trans hct)
  obtain ⟨rs, ⟨hlen, ao, cap, rfl, ⟨h1, h2, h3⟩, hcell⟩, hr⟩ := Can.slice ht hc hc0 hcan
  have hds : ∀ (rs : List (List Value)), (∀ r ∈ rs, r.length = c) → (∀ r ∈ rs, Can enc P w (fun _ => true) true e r) → ∃ l : List D, l.length = rs.length ∧ (∀ d ∈ l, ok d) ∧ ∀ (i : Nat) (d : D) (r : List Value), l[i]? = some d → rs[i]? = some r → CellsAre w (av d) r := by
    intro rs
    induction rs with
    | nil => intro _ _; exact ⟨[], rfl, by simp, by simp⟩
    | cons r rs ih =>
      intro hl hr
      obtain ⟨d, g1, g2⟩ := h r (hr r (by simp)) ((hl r (by simp)).trans hc.symm)
      obtain ⟨l, g3, g4, g5⟩ := ih (fun q hq => hl q (by simp [hq])) (fun q hq => hr q (by simp [hq]))
      refine ⟨d :: l, by simp [g3], fun x hx => ?_, fun i x q hx hq => ?_⟩
      · rcases List.mem_cons.1 hx with rfl | hx
        · exact g1
        · exact g4 x hx
      · cases i with
        | zero => simp at hx hq; subst hx hq; exact g2
        | succ i => exact g5 i x q (by simpa using hx) (by simpa using hq)
  obtain ⟨l, g1, g2, g3⟩ := hds rs hlen hr
  refine ⟨l, g2, .one ?_ rfl⟩
  by_cases hne : rs = []
  · subst hne
    have : l = [] := List.eq_nil_of_length_eq_zero g1
    subst this
    exact .nil c h2 h3
  · obtain ⟨b, off, rfl, hcv⟩ := hcell hne
    have hlm : rs.length = (l.map av).length := by rw [List.length_map, g1]
    rw [hlm]
    have get : ∀ (i : Nat) (q : List AV), (l.map av)[i]? = some q → ∃ (r : List Value), rs[i]? = some r ∧ CellsAre w q r ∧ r.length = c := by
      intro i q hq
      rw [List.getElem?_map, Option.map_eq_some_iff] at hq
      obtain ⟨d, hd, rfl⟩ := hq
      have hi : i < rs.length := by rw [← g1]; exact (List.getElem?_eq_some_iff.1 hd).1
      exact ⟨rs[i], List.getElem?_eq_getElem hi, g3 i d _ hd (List.getElem?_eq_getElem hi), hlen _ (List.getElem_mem hi)⟩
    have cell : ∀ (i : Nat) (q : List AV) (j : Nat) (a : AV), (l.map av)[i]? = some q → q[j]? = some a → w.cell? ⟨b, off + i * c + j, none⟩ = some (((rs[i]?).getD [])[j]?.getD undef) ∧ PRel E0 w a (((rs[i]?).getD [])[j]?.getD undef) ∧ (((rs[i]?).getD [])[j]?.getD undef).oneCell' = true := by
      intro i q j a hq ha
      obtain ⟨r, hr, hca, _⟩ := get i q hq
      have hj : j < r.length := by rw [hca.1]; exact (List.getElem?_eq_some_iff.1 ha).1
      rw [hr, Option.getD_some, List.getElem?_eq_getElem hj, Option.getD_some]
      have := hca.2 j a _ ha (List.getElem?_eq_getElem hj)
      exact ⟨hcv i r j _ hr (List.getElem?_eq_getElem hj), this.1, this.2⟩
    refine .sl (fun i j => ((rs[i]?).getD [])[j]?.getD undef) (fun _ h => h) (fun hn => ?_) (by rw [← hlm]; exact h1) h2 (fun i q hq => ?_) (fun i q j a hq ha => (cell i q j a hq ha).1) (fun i q j a hq ha => (cell i q j a hq ha).2.1) (fun i q j a hq ha => (cell i q j a hq ha).2.2)
    · have h0 : 0 < rs.length := List.length_pos_iff.2 hne
      have hl0 : 0 < (rs[0]).length := by rw [hlen _ (List.getElem_mem h0)]; exact hc0
      exact World.block_lt_of_cell? w _ (hcv 0 rs[0] 0 _ (List.getElem?_eq_getElem h0) (List.getElem?_eq_getElem hl0))
    · obtain ⟨r, _, hca, hrl⟩ := get i q hq
      rw [← hca.1, hrl]
/-- A struct's fields from an offset on. -/
def RdrF (enc : TypeId × Value → H) (P : Program) (w : World) (fs : List Field) (off n : Nat) (D : Type) (av : D → List AV) (ok : D → Prop) : Prop :=
  ∀ cs : List Value, cs.length = n → (∀ f ∈ fs, Can enc P w (fun _ => true) true f.type ((cs.drop f.offset).take (P.cellsOf f.type))) → ∃ d, ok d ∧ CellsAre w (av d) (cs.drop off)
theorem RdrF.nil {n off : Nat} (h : n ≤ off) : RdrF enc P w [] off n Unit (fun _ => []) (fun _ => True) := fun cs hl _ => ⟨(), trivial, by
  rw [List.drop_eq_nil_of_le (by omega)]; exact ⟨rfl, by simp⟩⟩
theorem RdrF.cons {f : Field} {fs : List Field} {off n c : Nat} {D E : Type} {av : D → List AV} {ok : D → Prop} {av' : E → List AV} {ok' : E → Prop} (ho : f.offset = off) (hc : P.cellsOf f.type = c) (hn : off + c ≤ n) (h : Rdr enc P w f.type D av ok) (g : RdrF enc P w fs (off + c) n E av' ok') :
    RdrF enc P w (f :: fs) off n (D × E) (fun d => av d.1 ++ av' d.2) (fun d => ok d.1 ∧ ok' d.2) := fun cs hl hf => by
  obtain ⟨d, h1, h2⟩ := h _ (hf f (by simp)) (by simp; omega)
  obtain ⟨e, h3, h4⟩ := g cs hl (fun x hx => hf x (by simp [hx]))
  refine ⟨(d, e), ⟨h1, h3⟩, ?_⟩
  have : cs.drop off = (cs.drop f.offset).take (P.cellsOf f.type) ++ cs.drop (off + c) := by
    rw [ho, hc, ← List.drop_drop, List.take_append_drop]
  rw [this]; exact h2.app h4
theorem Rdr.struct {t : TypeId} {fs : List Field} {n : Nat} {D : Type} {av : D → List AV} {ok : D → Prop} (ht : P.underlying t = some (.struct fs.toArray)) (hn : P.cellsOf t = n) (h : RdrF enc P w fs 0 n D av ok) : Rdr enc P w t D av ok := fun cs hc hl => by
  obtain ⟨d, h1, h2⟩ := h cs (hl.trans hn) (fun f hf => by
    obtain ⟨i, hi⟩ := List.mem_iff_getElem?.1 hf
    exact Can.fields ht hc i f (by simpa using hi))
  exact ⟨d, h1, by simpa using h2⟩
/-- A struct as an argument. -/
theorem Rdr.aggV {t : TypeId} {fs : Array Field} {D : Type} {av : D → List AV} {ok : D → Prop} {v : Value} {d : DataW H} {p : List MemPlace} {r : Reach} {base : Nat} (h : Rdr enc P w t D av ok) (ht : P.underlying t = some (.struct fs)) (hv : Value.okWide P w r base t v) (hd : DataW.Trod enc P w 0 (fun _ => true) true t v d p) :
    ∃ x, ok x ∧ Rel (fun _ => none) E0 w (.agg (av x)) v := by
  obtain ⟨cs, rfl, hs⟩ := okWide_struct ht hv
  obtain ⟨x, h1, h2⟩ := h _ (Can.of hd) (by simpa [Value.cells] using hs)
  refine ⟨x, h1, ?_⟩
  have := h2.agg
  simpa [Value.cells] using this
end
end Go.Proofs.YtdmkhinckljddaaGreat

/- The ranges of a node's rows, whether they hold, from where to where they go. No condition. -/
namespace Go.Proofs.YtdmkhinckljddaaGreat
open Go.RowKit
set_option linter.unusedSimpArgs false
set_option linter.unusedVariables false
set_option linter.unnecessarySimpa false

theorem first_fail {p : Nat → Bool} : ∀ n, (∃ k, k < n ∧ p k = false) → ∃ m, m < n ∧ p m = false ∧ ∀ k, k < m → p k = true
  | 0, ⟨k, h, _⟩ => by omega
  | n + 1, ⟨k, h, hp⟩ => by
    by_cases hq : ∃ k, k < n ∧ p k = false
    · obtain ⟨m, h1, h2, h3⟩ := first_fail n hq; exact ⟨m, by omega, h2, h3⟩
    · have hk : k = n := by
        apply Classical.byContradiction; intro hne; exact hq ⟨k, by omega, hp⟩
      subst hk
      refine ⟨k, by omega, hp, fun j hj => ?_⟩
      cases hpj : p j with
      | true => rfl
      | false => exact absurd ⟨j, hj, hpj⟩ hq
/-- What holds of all places, or the first place where it does not. -/
theorem all_or (p : Nat → Bool) (n : Nat) : (∀ k, k < n → p k = true) ∨ ∃ m, m < n ∧ p m = false ∧ ∀ k, k < m → p k = true := by
  by_cases hq : ∃ k, k < n ∧ p k = false
  · exact .inr (first_fail n hq)
  · refine .inl fun k hk => ?_
    cases hpk : p k with
    | true => rfl
    | false => exact absurd ⟨k, hk, hpk⟩ hq
theorem all_getD {α : Type} [Inhabited α] {l : List α} {p : α → Bool} : l.all p = true ↔ ∀ k, k < l.length → p (l.getD k default) = true := by
  rw [List.all_eq_true]
  constructor
  · intro h k hk
    rw [List.getD_eq_getElem?_getD, List.getElem?_eq_getElem hk]; exact h _ (List.getElem_mem hk)
  · intro h x hx
    obtain ⟨i, hi, rfl⟩ := List.getElem_of_mem hx
    have := h i hi
    rwa [List.getD_eq_getElem?_getD, List.getElem?_eq_getElem hi] at this
end Go.Proofs.YtdmkhinckljddaaGreat

/- Slices alike. No condition. -/
namespace Go.Proofs.YtdmkhinckljddaaGreat
open Go.RowKit
set_option linter.unusedSimpArgs false
set_option linter.unusedVariables false
set_option linter.unnecessarySimpa false

theorem getD_ext {l m : List Int} (hl : l.length = m.length) (h : ∀ k, k < l.length → (l.getD k 0 == m.getD k 0) = true) : l = m := by
  apply List.ext_getElem hl
  intro i h1 h2
  have := h i h1
  rw [beq_iff_eq, List.getD_eq_getElem?_getD, List.getD_eq_getElem?_getD, List.getElem?_eq_getElem h1, List.getElem?_eq_getElem h2] at this
  simpa using this
theorem list_cases (l m : List Int) : l.length ≠ m.length ∨ l = m ∨ (l.length = m.length ∧ ∃ k, k < l.length ∧ l.getD k 0 ≠ m.getD k 0 ∧ ∀ j, j < k → l.getD j 0 = m.getD j 0) := by
  by_cases hl : l.length = m.length
  · rcases all_or (fun k => l.getD k 0 == m.getD k 0) l.length with h | ⟨k, h1, h2, h3⟩
    · exact .inr (.inl (getD_ext hl h))
    · exact .inr (.inr ⟨hl, k, h1, by simpa using h2, fun j hj => by simpa using h3 j hj⟩)
  · exact .inl hl
theorem VC.alike {P : Program} {f : Nat} {k : IntKind} {l m : List Int} (h1 : l.length ≠ m.length → VC P f [ints k l, ints k m] (bv false)) (h2 : VC P f [ints k l, ints k l] (bv true)) (h3 : ∀ i, l.length = m.length → i < l.length → l.getD i 0 ≠ m.getD i 0 → (∀ j, j < i → l.getD j 0 = m.getD j 0) → VC P f [ints k l, ints k m] (bv false)) : VC P f [ints k l, ints k m] (bv (decide (l = m))) := by
  rcases list_cases l m with h | rfl | ⟨h, i, a, b, c⟩
  · rw [decide_eq_false (fun e => h (by rw [e]))]; exact h1 h
  · rw [decide_eq_true rfl]; exact h2
  · rw [decide_eq_false (fun e => b (by rw [e]))]; exact h3 i h a b c
noncomputable def eq8_ly_I (l : List Int) (k : Nat) : VS := stt 26 [(0, ints .i8 l), (1, ints .i8 l), (12, i64 l.length), (13, i64 k)] []
noncomputable def eq8_ly_Z (l : List Int) : VS := eq8_ly_I l (l.length)
set_option maxRecDepth 100000 in
set_option maxHeartbeats 2000000 in
theorem eq8_ly_s (l : List Int) (hl : l.length ≤ 1000000) (k : Nat) (hk : k < l.length) : VT Tryz.prog (fnC Tryz.f88 [1, 1, 0, 1, 0, 0]) (eq8_ly_I l k) .normal (eq8_ly_I l (k + 1)) := by
  have oz1 := (show 0 ≤ (↑k : Int) by omega)
  have oz2 := (map_at (row1 IntKind.i8) (0) (l := l) (i := k) hk)
  exact VT.run (W := [.r [] [], .br true, .r [] [], .r [] [.row (sO oz2), .row (sO oz2)], .br false, .r [] [.n ((↑k : Int) + 1)]]) (G := [.any (rg [(5, 1), (14, 12)]), .weak 13 (i64 (↑(k + 1) : Int)), .sort]) (by kernel_rfl) (.c (decide_eq_true (p := ((↑k : Int) < (↑l.length : Int))) (by omega)) <| .c oz1 <| .c oz2 <| .c oz1 <| .c oz2 <| .c (show (l.getD k 0 != l.getD k 0) = false by (simp; done)) <| .c (IntWalk.i64_in ((↑k : Int) + 1) (by omega)) <| .c (Weak.int (k := .i64) (show (((↑k : Int) + 1) : Int) = ((↑(k + 1) : Int)) from (by omega))) <| .n)
set_option maxRecDepth 100000 in
set_option maxHeartbeats 2000000 in
theorem eq8_ly_e (l : List Int) (hl : l.length ≤ 1000000) : VT Tryz.prog (fnC Tryz.f88 [1, 1, 0, 1, 0, 0]) (eq8_ly_I l (l.length)) (.exit 0) (eq8_ly_Z l) := by
  exact VT.run (W := [.r [] [], .br false]) (G := [.any [14], .sort]) (by kernel_rfl) (.c (decide_eq_false (p := ((↑l.length : Int) < (↑l.length : Int))) (by omega)) <| .n)
theorem eq8_ly (l : List Int) (hl : l.length ≤ 1000000) : VT Tryz.prog (fnC Tryz.f88 [1, 1, 0, 1, 0]) (eq8_ly_I l 0) (.exit 0) (eq8_ly_Z l) :=
  VT.loop (fun k => eq8_ly_I l k) (l.length) (fun k hk => eq8_ly_s l hl k hk) (eq8_ly_e l hl) (by intro h; cases h)

noncomputable def eq8_ln_I (l m : List Int) (i : Nat) (k : Nat) : VS := stt 26 [(0, ints .i8 l), (1, ints .i8 m), (12, i64 l.length), (13, i64 k)] []
noncomputable def eq8_ln_Z (l m : List Int) (i : Nat) : VS := stt 26 [(4, bv false)] []
set_option maxRecDepth 100000 in
set_option maxHeartbeats 2000000 in
theorem eq8_ln_s (l m : List Int) (i : Nat) (hl : l.length ≤ 1000000) (hm : l.length = m.length) (hi : i < l.length) (hne : l.getD i 0 ≠ m.getD i 0) (h : ∀ j, j < i → l.getD j 0 = m.getD j 0) (k : Nat) (hk : k < i) : VT Tryz.prog (fnC Tryz.f88 [1, 1, 0, 1, 0, 0]) (eq8_ln_I l m i k) .normal (eq8_ln_I l m i (k + 1)) := by
  have q := h k hk
  have oz1 := (show 0 ≤ (↑k : Int) by omega)
  exact VT.run (W := [.r [] [], .br true, .r [] [], .r [] [.row [i8 (l.getD k 0)], .row [i8 (m.getD k 0)]], .br false, .r [] [.n ((↑k : Int) + 1)]]) (G := [.any (rg [(5, 1), (14, 12)]), .weak 13 (i64 (↑(k + 1) : Int)), .sort]) (by kernel_rfl) (.c (decide_eq_true (p := ((↑k : Int) < (↑l.length : Int))) (by omega)) <| .c oz1 <| .c (map_at (row1 IntKind.i8) (0) (l := l) (i := k) (by omega)) <| .c oz1 <| .c (map_at (row1 IntKind.i8) (0) (l := m) (i := k) (by omega)) <| .c (show (l.getD k 0 != m.getD k 0) = false by (simp at *; omega)) <| .c (IntWalk.i64_in ((↑k : Int) + 1) (by omega)) <| .c (Weak.int (k := .i64) (show (((↑k : Int) + 1) : Int) = ((↑(k + 1) : Int)) from (by omega))) <| .n)
set_option maxRecDepth 100000 in
set_option maxHeartbeats 2000000 in
theorem eq8_ln_e (l m : List Int) (i : Nat) (hl : l.length ≤ 1000000) (hm : l.length = m.length) (hi : i < l.length) (hne : l.getD i 0 ≠ m.getD i 0) (h : ∀ j, j < i → l.getD j 0 = m.getD j 0) : VT Tryz.prog (fnC Tryz.f88 [1, 1, 0, 1, 0, 0]) (eq8_ln_I l m i (i)) (.ret) (eq8_ln_Z l m i) := by
  have oz1 := (show 0 ≤ (↑i : Int) by omega)
  exact VT.run (W := [.r [] [], .br true, .r [] [], .r [] [.row [i8 (l.getD i 0)], .row [i8 (m.getD i 0)]], .br true, .r [] []]) (G := [.any (rg [(0, 2), (5, 1), (12, 13)]), .sort]) (by kernel_rfl) (.c (decide_eq_true (p := ((↑i : Int) < (↑l.length : Int))) (by omega)) <| .c oz1 <| .c (map_at (row1 IntKind.i8) (0) (l := l) (i := i) hi) <| .c oz1 <| .c (map_at (row1 IntKind.i8) (0) (l := m) (i := i) (by omega)) <| .c (show (l.getD i 0 != m.getD i 0) = true by (simp at *; omega)) <| .n)
theorem eq8_ln (l m : List Int) (i : Nat) (hl : l.length ≤ 1000000) (hm : l.length = m.length) (hi : i < l.length) (hne : l.getD i 0 ≠ m.getD i 0) (h : ∀ j, j < i → l.getD j 0 = m.getD j 0) : VT Tryz.prog (fnC Tryz.f88 [1, 1, 0, 1, 0]) (eq8_ln_I l m i 0) (.ret) (eq8_ln_Z l m i) :=
  VT.loop (fun k => eq8_ln_I l m i k) (i) (fun k hk => eq8_ln_s l m i hl hm hi hne h k hk) (eq8_ln_e l m i hl hm hi hne h) (by intro h; cases h)

set_option maxRecDepth 100000 in
set_option maxHeartbeats 2000000 in
theorem eq8_d (l m : List Int) (hl : l.length ≤ 1000000) (hm : l.length ≠ m.length) : VC Tryz.prog 88 ([ints .i8 l, ints .i8 m]) (bv false) := by
  exact VC.run (fn := Tryz.f88) (W := [.r [] [], .r [] [], .br true, .r [] []]) Tryz.func88 (by kernel_rfl) (.c (show ((↑(List.map (row1 IntKind.i8) l).length : Int) != (↑(List.map (row1 IntKind.i8) m).length : Int)) = true by (simp; omega)) <| .n)

set_option maxRecDepth 100000 in
set_option maxHeartbeats 2000000 in
theorem eq8_y (l : List Int) (hl : l.length ≤ 1000000) : VC Tryz.prog 88 ([ints .i8 l, ints .i8 l]) (bv true) := by
  have oz1 := (Weak.int (k := .i64) (show (((↑(List.map (row1 IntKind.i8) l).length : Int)) : Int) = ((↑l.length : Int)) from (by (simp; done))))
  have oz3 := @eq8_ly (l) hl
  exact VC.run (fn := Tryz.f88) (W := [.r [] [], .r [] [], .br false, .r [] [], .code [.any (rg [(4, 1), (6, 6)]), .weak 12 (wO oz1), .weak 13 (i64 (↑0 : Int)), .sort] (Exit.exit 0) (zO oz3), .r [] []]) Tryz.func88 (by kernel_rfl) (.c (show ((↑(List.map (row1 IntKind.i8) l).length : Int) != (↑(List.map (row1 IntKind.i8) l).length : Int)) = false by (simp; done)) <| .c oz1 <| .c (Weak.int (k := .i64) (show ((0) : Int) = ((↑0 : Int)) from (by omega))) <| .c oz3 <| .n)

set_option maxRecDepth 100000 in
set_option maxHeartbeats 2000000 in
theorem eq8_n (l m : List Int) (i : Nat) (hl : l.length ≤ 1000000) (hm : l.length = m.length) (hi : i < l.length) (hne : l.getD i 0 ≠ m.getD i 0) (h : ∀ j, j < i → l.getD j 0 = m.getD j 0) : VC Tryz.prog 88 ([ints .i8 l, ints .i8 m]) (bv false) := by
  have oz1 := (Weak.int (k := .i64) (show (((↑(List.map (row1 IntKind.i8) l).length : Int)) : Int) = ((↑l.length : Int)) from (by (simp; done))))
  have oz3 := @eq8_ln (l) (m) (i) hl hm hi hne h
  exact VC.run (fn := Tryz.f88) (W := [.r [] [], .r [] [], .br false, .r [] [], .code [.any (rg [(4, 1), (6, 6)]), .weak 12 (wO oz1), .weak 13 (i64 (↑0 : Int)), .sort] (Exit.ret) (zO oz3)]) Tryz.func88 (by kernel_rfl) (.c (show ((↑(List.map (row1 IntKind.i8) l).length : Int) != (↑(List.map (row1 IntKind.i8) m).length : Int)) = false by (simp; omega)) <| .c oz1 <| .c (Weak.int (k := .i64) (show ((0) : Int) = ((↑0 : Int)) from (by omega))) <| .c oz3 <| .n)
noncomputable def rsame8_ly_I (l : List Int) (k : Nat) : VS := stt 26 [(0, ints .i8 l), (1, ints .i8 l), (5, i64 k)] []
noncomputable def rsame8_ly_Z (l : List Int) : VS := rsame8_ly_I l (l.length)
set_option maxRecDepth 100000 in
set_option maxHeartbeats 2000000 in
theorem rsame8_ly_s (l : List Int) (hl : l.length ≤ 1000000) (k : Nat) (hk : k < l.length) : VT Tryz.prog (fnC Tryz.f35 [1, 1, 0, 1, 0, 0]) (rsame8_ly_I l k) .normal (rsame8_ly_I l (k + 1)) := by
  have oz1 := (show 0 ≤ (↑k : Int) by omega)
  have oz2 := (map_at (row1 IntKind.i8) (0) (l := l) (i := k) hk)
  exact VT.run (W := [.r [] [], .br true, .r [] [.row (sO oz2), .row (sO oz2)], .br false, .r [] [.n ((↑k : Int) + 1)]]) (G := [.any (rg [(11, 15)]), .weak 5 (i64 (↑(k + 1) : Int)), .sort]) (by kernel_rfl) (.c (show decide ((↑k : Int) < (↑(List.map (row1 IntKind.i8) l).length : Int)) = true by (simp; omega)) <| .c oz1 <| .c oz2 <| .c oz1 <| .c oz2 <| .c (show (l.getD k 0 != l.getD k 0) = false by (simp; done)) <| .c (IntWalk.i64_in ((↑k : Int) + 1) (by omega)) <| .c (Weak.int (k := .i64) (show (((↑k : Int) + 1) : Int) = ((↑(k + 1) : Int)) from (by omega))) <| .n)
set_option maxRecDepth 100000 in
set_option maxHeartbeats 2000000 in
theorem rsame8_ly_e (l : List Int) (hl : l.length ≤ 1000000) : VT Tryz.prog (fnC Tryz.f35 [1, 1, 0, 1, 0, 0]) (rsame8_ly_I l (l.length)) (.exit 0) (rsame8_ly_Z l) := by
  exact VT.run (W := [.r [] [], .br false]) (G := [.any (rg [(11, 4)]), .sort]) (by kernel_rfl) (.c (show decide ((↑l.length : Int) < (↑(List.map (row1 IntKind.i8) l).length : Int)) = false by (simp; done)) <| .n)
theorem rsame8_ly (l : List Int) (hl : l.length ≤ 1000000) : VT Tryz.prog (fnC Tryz.f35 [1, 1, 0, 1, 0]) (rsame8_ly_I l 0) (.exit 0) (rsame8_ly_Z l) :=
  VT.loop (fun k => rsame8_ly_I l k) (l.length) (fun k hk => rsame8_ly_s l hl k hk) (rsame8_ly_e l hl) (by intro h; cases h)

noncomputable def rsame8_ln_I (l m : List Int) (i : Nat) (k : Nat) : VS := stt 26 [(0, ints .i8 l), (1, ints .i8 m), (5, i64 k)] []
noncomputable def rsame8_ln_Z (l m : List Int) (i : Nat) : VS := stt 26 [(4, bv false)] []
set_option maxRecDepth 100000 in
set_option maxHeartbeats 2000000 in
theorem rsame8_ln_s (l m : List Int) (i : Nat) (hl : l.length ≤ 1000000) (hm : l.length = m.length) (hi : i < l.length) (hne : l.getD i 0 ≠ m.getD i 0) (h : ∀ j, j < i → l.getD j 0 = m.getD j 0) (k : Nat) (hk : k < i) : VT Tryz.prog (fnC Tryz.f35 [1, 1, 0, 1, 0, 0]) (rsame8_ln_I l m i k) .normal (rsame8_ln_I l m i (k + 1)) := by
  have q := h k hk
  have oz1 := (show 0 ≤ (↑k : Int) by omega)
  exact VT.run (W := [.r [] [], .br true, .r [] [.row [i8 (l.getD k 0)], .row [i8 (m.getD k 0)]], .br false, .r [] [.n ((↑k : Int) + 1)]]) (G := [.any (rg [(11, 15)]), .weak 5 (i64 (↑(k + 1) : Int)), .sort]) (by kernel_rfl) (.c (show decide ((↑k : Int) < (↑(List.map (row1 IntKind.i8) l).length : Int)) = true by (simp; omega)) <| .c oz1 <| .c (map_at (row1 IntKind.i8) (0) (l := l) (i := k) (by omega)) <| .c oz1 <| .c (map_at (row1 IntKind.i8) (0) (l := m) (i := k) (by omega)) <| .c (show (l.getD k 0 != m.getD k 0) = false by (simp at *; omega)) <| .c (IntWalk.i64_in ((↑k : Int) + 1) (by omega)) <| .c (Weak.int (k := .i64) (show (((↑k : Int) + 1) : Int) = ((↑(k + 1) : Int)) from (by omega))) <| .n)
set_option maxRecDepth 100000 in
set_option maxHeartbeats 2000000 in
theorem rsame8_ln_e (l m : List Int) (i : Nat) (hl : l.length ≤ 1000000) (hm : l.length = m.length) (hi : i < l.length) (hne : l.getD i 0 ≠ m.getD i 0) (h : ∀ j, j < i → l.getD j 0 = m.getD j 0) : VT Tryz.prog (fnC Tryz.f35 [1, 1, 0, 1, 0, 0]) (rsame8_ln_I l m i (i)) (.ret) (rsame8_ln_Z l m i) := by
  have oz1 := (show 0 ≤ (↑i : Int) by omega)
  exact VT.run (W := [.r [] [], .br true, .r [] [.row [i8 (l.getD i 0)], .row [i8 (m.getD i 0)]], .br true, .r [] []]) (G := [.any (rg [(0, 2), (5, 1), (11, 4), (17, 9)]), .sort]) (by kernel_rfl) (.c (show decide ((↑i : Int) < (↑(List.map (row1 IntKind.i8) l).length : Int)) = true by (simp; omega)) <| .c oz1 <| .c (map_at (row1 IntKind.i8) (0) (l := l) (i := i) hi) <| .c oz1 <| .c (map_at (row1 IntKind.i8) (0) (l := m) (i := i) (by omega)) <| .c (show (l.getD i 0 != m.getD i 0) = true by (simp at *; omega)) <| .n)
theorem rsame8_ln (l m : List Int) (i : Nat) (hl : l.length ≤ 1000000) (hm : l.length = m.length) (hi : i < l.length) (hne : l.getD i 0 ≠ m.getD i 0) (h : ∀ j, j < i → l.getD j 0 = m.getD j 0) : VT Tryz.prog (fnC Tryz.f35 [1, 1, 0, 1, 0]) (rsame8_ln_I l m i 0) (.ret) (rsame8_ln_Z l m i) :=
  VT.loop (fun k => rsame8_ln_I l m i k) (i) (fun k hk => rsame8_ln_s l m i hl hm hi hne h k hk) (rsame8_ln_e l m i hl hm hi hne h) (by intro h; cases h)

set_option maxRecDepth 100000 in
set_option maxHeartbeats 2000000 in
theorem rsame8_d (l m : List Int) (hl : l.length ≤ 1000000) (hm : l.length ≠ m.length) : VC Tryz.prog 35 ([ints .i8 l, ints .i8 m]) (bv false) := by
  exact VC.run (fn := Tryz.f35) (W := [.r [] [], .r [] [], .br true, .r [] []]) Tryz.func35 (by kernel_rfl) (.c (show ((↑(List.map (row1 IntKind.i8) l).length : Int) != (↑(List.map (row1 IntKind.i8) m).length : Int)) = true by (simp; omega)) <| .n)

set_option maxRecDepth 100000 in
set_option maxHeartbeats 2000000 in
theorem rsame8_y (l : List Int) (hl : l.length ≤ 1000000) : VC Tryz.prog 35 ([ints .i8 l, ints .i8 l]) (bv true) := by
  have oz2 := @rsame8_ly (l) hl
  exact VC.run (fn := Tryz.f35) (W := [.r [] [], .r [] [], .br false, .r [] [], .code [.any [4, 6, 7, 8, 9, 10], .weak 5 (i64 (↑0 : Int)), .sort] (Exit.exit 0) (zO oz2), .r [] []]) Tryz.func35 (by kernel_rfl) (.c (show ((↑(List.map (row1 IntKind.i8) l).length : Int) != (↑(List.map (row1 IntKind.i8) l).length : Int)) = false by (simp; done)) <| .c (Weak.int (k := .i64) (show ((0) : Int) = ((↑0 : Int)) from (by omega))) <| .c oz2 <| .n)

set_option maxRecDepth 100000 in
set_option maxHeartbeats 2000000 in
theorem rsame8_n (l m : List Int) (i : Nat) (hl : l.length ≤ 1000000) (hm : l.length = m.length) (hi : i < l.length) (hne : l.getD i 0 ≠ m.getD i 0) (h : ∀ j, j < i → l.getD j 0 = m.getD j 0) : VC Tryz.prog 35 ([ints .i8 l, ints .i8 m]) (bv false) := by
  have oz2 := @rsame8_ln (l) (m) (i) hl hm hi hne h
  exact VC.run (fn := Tryz.f35) (W := [.r [] [], .r [] [], .br false, .r [] [], .code [.any [4, 6, 7, 8, 9, 10], .weak 5 (i64 (↑0 : Int)), .sort] (Exit.ret) (zO oz2)]) Tryz.func35 (by kernel_rfl) (.c (show ((↑(List.map (row1 IntKind.i8) l).length : Int) != (↑(List.map (row1 IntKind.i8) m).length : Int)) = false by (simp; omega)) <| .c (Weak.int (k := .i64) (show ((0) : Int) = ((↑0 : Int)) from (by omega))) <| .c oz2 <| .n)
theorem rsame8_v (l m : List Int) (hl : l.length ≤ 1000000) : VC Tryz.prog 35 [ints .i8 l, ints .i8 m] (bv (decide (l = m))) :=
  VC.alike (rsame8_d l m hl) (rsame8_y l hl) fun i h a b c => rsame8_n l m i hl h a b c
noncomputable def rsame32_ly_I (l : List Int) (k : Nat) : VS := stt 26 [(0, ints .i32 l), (1, ints .i32 l), (5, i64 k)] []
noncomputable def rsame32_ly_Z (l : List Int) : VS := rsame32_ly_I l (l.length)
set_option maxRecDepth 100000 in
set_option maxHeartbeats 2000000 in
theorem rsame32_ly_s (l : List Int) (hl : l.length ≤ 1000000) (k : Nat) (hk : k < l.length) : VT Tryz.prog (fnC Tryz.f36 [1, 1, 0, 1, 0, 0]) (rsame32_ly_I l k) .normal (rsame32_ly_I l (k + 1)) := by
  have oz1 := (show 0 ≤ (↑k : Int) by omega)
  have oz2 := (map_at (row1 IntKind.i32) (0) (l := l) (i := k) hk)
  exact VT.run (W := [.r [] [], .br true, .r [] [.row (sO oz2), .row (sO oz2)], .br false, .r [] [.n ((↑k : Int) + 1)]]) (G := [.any (rg [(11, 15)]), .weak 5 (i64 (↑(k + 1) : Int)), .sort]) (by kernel_rfl) (.c (show decide ((↑k : Int) < (↑(List.map (row1 IntKind.i32) l).length : Int)) = true by (simp; omega)) <| .c oz1 <| .c oz2 <| .c oz1 <| .c oz2 <| .c (show (l.getD k 0 != l.getD k 0) = false by (simp; done)) <| .c (IntWalk.i64_in ((↑k : Int) + 1) (by omega)) <| .c (Weak.int (k := .i64) (show (((↑k : Int) + 1) : Int) = ((↑(k + 1) : Int)) from (by omega))) <| .n)
set_option maxRecDepth 100000 in
set_option maxHeartbeats 2000000 in
theorem rsame32_ly_e (l : List Int) (hl : l.length ≤ 1000000) : VT Tryz.prog (fnC Tryz.f36 [1, 1, 0, 1, 0, 0]) (rsame32_ly_I l (l.length)) (.exit 0) (rsame32_ly_Z l) := by
  exact VT.run (W := [.r [] [], .br false]) (G := [.any (rg [(11, 4)]), .sort]) (by kernel_rfl) (.c (show decide ((↑l.length : Int) < (↑(List.map (row1 IntKind.i32) l).length : Int)) = false by (simp; done)) <| .n)
theorem rsame32_ly (l : List Int) (hl : l.length ≤ 1000000) : VT Tryz.prog (fnC Tryz.f36 [1, 1, 0, 1, 0]) (rsame32_ly_I l 0) (.exit 0) (rsame32_ly_Z l) :=
  VT.loop (fun k => rsame32_ly_I l k) (l.length) (fun k hk => rsame32_ly_s l hl k hk) (rsame32_ly_e l hl) (by intro h; cases h)

noncomputable def rsame32_ln_I (l m : List Int) (i : Nat) (k : Nat) : VS := stt 26 [(0, ints .i32 l), (1, ints .i32 m), (5, i64 k)] []
noncomputable def rsame32_ln_Z (l m : List Int) (i : Nat) : VS := stt 26 [(4, bv false)] []
set_option maxRecDepth 100000 in
set_option maxHeartbeats 2000000 in
theorem rsame32_ln_s (l m : List Int) (i : Nat) (hl : l.length ≤ 1000000) (hm : l.length = m.length) (hi : i < l.length) (hne : l.getD i 0 ≠ m.getD i 0) (h : ∀ j, j < i → l.getD j 0 = m.getD j 0) (k : Nat) (hk : k < i) : VT Tryz.prog (fnC Tryz.f36 [1, 1, 0, 1, 0, 0]) (rsame32_ln_I l m i k) .normal (rsame32_ln_I l m i (k + 1)) := by
  have q := h k hk
  have oz1 := (show 0 ≤ (↑k : Int) by omega)
  exact VT.run (W := [.r [] [], .br true, .r [] [.row [i32 (l.getD k 0)], .row [i32 (m.getD k 0)]], .br false, .r [] [.n ((↑k : Int) + 1)]]) (G := [.any (rg [(11, 15)]), .weak 5 (i64 (↑(k + 1) : Int)), .sort]) (by kernel_rfl) (.c (show decide ((↑k : Int) < (↑(List.map (row1 IntKind.i32) l).length : Int)) = true by (simp; omega)) <| .c oz1 <| .c (map_at (row1 IntKind.i32) (0) (l := l) (i := k) (by omega)) <| .c oz1 <| .c (map_at (row1 IntKind.i32) (0) (l := m) (i := k) (by omega)) <| .c (show (l.getD k 0 != m.getD k 0) = false by (simp at *; omega)) <| .c (IntWalk.i64_in ((↑k : Int) + 1) (by omega)) <| .c (Weak.int (k := .i64) (show (((↑k : Int) + 1) : Int) = ((↑(k + 1) : Int)) from (by omega))) <| .n)
set_option maxRecDepth 100000 in
set_option maxHeartbeats 2000000 in
theorem rsame32_ln_e (l m : List Int) (i : Nat) (hl : l.length ≤ 1000000) (hm : l.length = m.length) (hi : i < l.length) (hne : l.getD i 0 ≠ m.getD i 0) (h : ∀ j, j < i → l.getD j 0 = m.getD j 0) : VT Tryz.prog (fnC Tryz.f36 [1, 1, 0, 1, 0, 0]) (rsame32_ln_I l m i (i)) (.ret) (rsame32_ln_Z l m i) := by
  have oz1 := (show 0 ≤ (↑i : Int) by omega)
  exact VT.run (W := [.r [] [], .br true, .r [] [.row [i32 (l.getD i 0)], .row [i32 (m.getD i 0)]], .br true, .r [] []]) (G := [.any (rg [(0, 2), (5, 1), (11, 4), (17, 9)]), .sort]) (by kernel_rfl) (.c (show decide ((↑i : Int) < (↑(List.map (row1 IntKind.i32) l).length : Int)) = true by (simp; omega)) <| .c oz1 <| .c (map_at (row1 IntKind.i32) (0) (l := l) (i := i) hi) <| .c oz1 <| .c (map_at (row1 IntKind.i32) (0) (l := m) (i := i) (by omega)) <| .c (show (l.getD i 0 != m.getD i 0) = true by (simp at *; omega)) <| .n)
theorem rsame32_ln (l m : List Int) (i : Nat) (hl : l.length ≤ 1000000) (hm : l.length = m.length) (hi : i < l.length) (hne : l.getD i 0 ≠ m.getD i 0) (h : ∀ j, j < i → l.getD j 0 = m.getD j 0) : VT Tryz.prog (fnC Tryz.f36 [1, 1, 0, 1, 0]) (rsame32_ln_I l m i 0) (.ret) (rsame32_ln_Z l m i) :=
  VT.loop (fun k => rsame32_ln_I l m i k) (i) (fun k hk => rsame32_ln_s l m i hl hm hi hne h k hk) (rsame32_ln_e l m i hl hm hi hne h) (by intro h; cases h)

set_option maxRecDepth 100000 in
set_option maxHeartbeats 2000000 in
theorem rsame32_d (l m : List Int) (hl : l.length ≤ 1000000) (hm : l.length ≠ m.length) : VC Tryz.prog 36 ([ints .i32 l, ints .i32 m]) (bv false) := by
  exact VC.run (fn := Tryz.f36) (W := [.r [] [], .r [] [], .br true, .r [] []]) Tryz.func36 (by kernel_rfl) (.c (show ((↑(List.map (row1 IntKind.i32) l).length : Int) != (↑(List.map (row1 IntKind.i32) m).length : Int)) = true by (simp; omega)) <| .n)

set_option maxRecDepth 100000 in
set_option maxHeartbeats 2000000 in
theorem rsame32_y (l : List Int) (hl : l.length ≤ 1000000) : VC Tryz.prog 36 ([ints .i32 l, ints .i32 l]) (bv true) := by
  have oz2 := @rsame32_ly (l) hl
  exact VC.run (fn := Tryz.f36) (W := [.r [] [], .r [] [], .br false, .r [] [], .code [.any [4, 6, 7, 8, 9, 10], .weak 5 (i64 (↑0 : Int)), .sort] (Exit.exit 0) (zO oz2), .r [] []]) Tryz.func36 (by kernel_rfl) (.c (show ((↑(List.map (row1 IntKind.i32) l).length : Int) != (↑(List.map (row1 IntKind.i32) l).length : Int)) = false by (simp; done)) <| .c (Weak.int (k := .i64) (show ((0) : Int) = ((↑0 : Int)) from (by omega))) <| .c oz2 <| .n)

set_option maxRecDepth 100000 in
set_option maxHeartbeats 2000000 in
theorem rsame32_n (l m : List Int) (i : Nat) (hl : l.length ≤ 1000000) (hm : l.length = m.length) (hi : i < l.length) (hne : l.getD i 0 ≠ m.getD i 0) (h : ∀ j, j < i → l.getD j 0 = m.getD j 0) : VC Tryz.prog 36 ([ints .i32 l, ints .i32 m]) (bv false) := by
  have oz2 := @rsame32_ln (l) (m) (i) hl hm hi hne h
  exact VC.run (fn := Tryz.f36) (W := [.r [] [], .r [] [], .br false, .r [] [], .code [.any [4, 6, 7, 8, 9, 10], .weak 5 (i64 (↑0 : Int)), .sort] (Exit.ret) (zO oz2)]) Tryz.func36 (by kernel_rfl) (.c (show ((↑(List.map (row1 IntKind.i32) l).length : Int) != (↑(List.map (row1 IntKind.i32) m).length : Int)) = false by (simp; omega)) <| .c (Weak.int (k := .i64) (show ((0) : Int) = ((↑0 : Int)) from (by omega))) <| .c oz2 <| .n)
theorem rsame32_v (l m : List Int) (hl : l.length ≤ 1000000) : VC Tryz.prog 36 [ints .i32 l, ints .i32 m] (bv (decide (l = m))) :=
  VC.alike (rsame32_d l m hl) (rsame32_y l hl) fun i h a b c => rsame32_n l m i hl h a b c
end Go.Proofs.YtdmkhinckljddaaGreat

/- Whether nodes are alike; what is wrong with a node. No condition. -/
namespace Go.Proofs.YtdmkhinckljddaaGreat
open Go.RowKit
set_option linter.unusedSimpArgs false
set_option linter.unusedVariables false
set_option linter.unnecessarySimpa false

def nodEq (a b : Nod) : Bool := decide (a.w = b.w) && decide (a.b = b.b) && eqNums [(IntKind.i64, a.kd, b.kd), (IntKind.i64, a.na, b.na), (IntKind.i64, a.nb, b.nb), (IntKind.i64, a.nk, b.nk), (IntKind.i64, a.ns, b.ns), (IntKind.i64, a.np, b.np), (IntKind.i64, a.no, b.no), (IntKind.i64, 0, 0)] &&
  eqNums [(IntKind.i8, a.za, b.za), (IntKind.i8, a.zb, b.zb), (IntKind.i8, a.lo, b.lo), (IntKind.i8, a.hi, b.hi)] && eqNums [(IntKind.i32, a.qm, b.qm), (IntKind.i64, a.qs, b.qs), (IntKind.i8, a.qz, b.qz)] && eqNums [(IntKind.i32, a.rm, b.rm), (IntKind.i64, a.rs, b.rs), (IntKind.i8, a.rz, b.rz)]
theorem nodEq_iff (a b : Nod) : nodEq a b = true ↔ a = b := by
  obtain ⟨a1, a2, a3, a4, a5, a6, a7, a8, a9, a10, a11, a12, a13, a14, a15, a16, a17, a18, a19⟩ := a
  obtain ⟨b1, b2, b3, b4, b5, b6, b7, b8, b9, b10, b11, b12, b13, b14, b15, b16, b17, b18, b19⟩ := b
  simp only [nodEq, eqNums, Bool.and_eq_true, decide_eq_true_eq, beq_iff_eq, Nod.mk.injEq]
  constructor
  · rintro ⟨⟨⟨⟨⟨h1, h2⟩, h3⟩, h4⟩, h5⟩, h6⟩
    exact ⟨h3.1, h3.2.1, h3.2.2.1, h3.2.2.2.1, h3.2.2.2.2.1, h3.2.2.2.2.2.1, h3.2.2.2.2.2.2.1, h4.1, h4.2.1, h1, h2, h5.1, h5.2.1, h5.2.2.1, h6.1, h6.2.1, h6.2.2.1, h4.2.2.1, h4.2.2.2.1⟩
  · rintro ⟨h1, h2, h3, h4, h5, h6, h7, h8, h9, h10, h11, h12, h13, h14, h15, h16, h17, h18, h19⟩
    exact ⟨⟨⟨⟨⟨h10, h11⟩, h1, h2, h3, h4, h5, h6, h7, trivial, trivial⟩, h8, h9, h18, h19, trivial⟩, h12, h13, h14, trivial⟩, h15, h16, h17, trivial⟩
end Go.Proofs.YtdmkhinckljddaaGreat

/- A node with what its kind tells alone: the law. No condition. -/
namespace Go.Proofs.YtdmkhinckljddaaGreat
open Go.RowKit
set_option linter.unusedSimpArgs false
set_option linter.unusedVariables false
set_option linter.unnecessarySimpa false

theorem nodEq_false {a b : Nod} (h : (a.kd != b.kd || a.na != b.na || a.nb != b.nb || a.nk != b.nk || a.ns != b.ns || a.np != b.np || a.no != b.no) = true) : false = nodEq a b := by
  symm
  rw [Bool.eq_false_iff]
  intro h'
  have h' := (nodEq_iff _ _).1 h'
  subst h'
  simp at h
theorem nodEq_rest {a b : Nod} (h : (a.kd != b.kd || a.na != b.na || a.nb != b.nb || a.nk != b.nk || a.ns != b.ns || a.np != b.np || a.no != b.no) = false) :
    (a.za == b.za && a.zb == b.zb && a.lo == b.lo && a.hi == b.hi && eqNums [(IntKind.i32, a.qm, b.qm), (IntKind.i64, a.qs, b.qs), (IntKind.i8, a.qz, b.qz)] && eqNums [(IntKind.i32, a.rm, b.rm), (IntKind.i64, a.rs, b.rs), (IntKind.i8, a.rz, b.rz)] && decide (a.w = b.w) && decide (a.b = b.b)) = nodEq a b := by
  simp only [Bool.or_eq_false_iff, bne_eq_false_iff_eq] at h
  obtain ⟨⟨⟨⟨⟨⟨h1, h2⟩, h3⟩, h4⟩, h5⟩, h6⟩, h7⟩ := h
  rw [Bool.eq_iff_iff]
  simp only [nodEq, eqNums, h1, h2, h3, h4, h5, h6, h7, Bool.and_eq_true, decide_eq_true_eq, beq_iff_eq, true_and, and_true]
  constructor
  · rintro ⟨⟨⟨⟨⟨⟨⟨q1, q2⟩, q3⟩, q4⟩, q5⟩, q6⟩, q7⟩, q8⟩; exact ⟨⟨⟨⟨q7, q8⟩, q1, q2, q3, q4⟩, q5⟩, q6⟩
  · rintro ⟨⟨⟨⟨q7, q8⟩, q1, q2, q3, q4⟩, q5⟩, q6⟩; exact ⟨⟨⟨⟨⟨⟨⟨q1, q2⟩, q3⟩, q4⟩, q5⟩, q6⟩, q7⟩, q8⟩
set_option maxRecDepth 100000 in
set_option maxHeartbeats 2000000 in
theorem refSame_v (a b : Nod) (hw : a.w.length ≤ 100000) (hb : a.b.length ≤ 100000) : VC Tryz.prog 37 ([nod a, nod b]) (bv (nodEq a b)) := by
  rcases Bool.eq_false_or_eq_true (a.kd != b.kd || a.na != b.na || a.nb != b.nb || a.nk != b.nk || a.ns != b.ns || a.np != b.np || a.no != b.no) with hc0 | hc0
  · have gc0 : (((((¬a.kd = b.kd ∨ ¬a.na = b.na) ∨ ¬a.nb = b.nb) ∨ ¬a.nk = b.nk) ∨ ¬a.ns = b.ns) ∨ ¬a.np = b.np) ∨ ¬a.no = b.no := by first | (simp only [Bool.or_eq_true, Bool.or_eq_false_iff, Bool.and_eq_true, Bool.and_eq_false_iff, Bool.not_eq_true', Bool.not_eq_false', decide_eq_true_eq, decide_eq_false_iff_not, beq_iff_eq, bne_iff_ne, ne_eq, beq_eq_false_iff_ne, bne_eq_false_iff_eq, eqNums, Bool.and_true] at hc0; first | exact hc0 | omega) | simpa using hc0 | (simp at hc0 ⊢; omega) | (apply Classical.byContradiction; intro hn; simp_all [eqNums]; done) | (apply Classical.byContradiction; intro hn; simp [eqNums] at hc0 hn; omega)
    exact (VC.run (fn := Tryz.f37) (W := [.r [] [], .r [] [.op false, .op false, .op false, .op false, .op false, .sel 1, .op false, .op false, .op false, .op false, .op false, .sel 1, .op false, .op false, .op false, .op false, .op false, .sel 1, .op false, .op false, .op false, .op false, .op false, .sel 1, .op false, .op false, .op false, .op false, .op false, .sel 1, .op false, .op false, .op false, .op false, .op false, .sel 1], .br true, .r [] []]) (r := bv false) Tryz.func37 (by kernel_rfl) (.c hc0 <| .n)).weak (WeakL.refl _) (Weak.bool (show ((false) : Bool) = (nodEq a b) from (by (exact nodEq_false (by assumption)))))
  · have gc0 : (((((a.kd = b.kd ∧ a.na = b.na) ∧ a.nb = b.nb) ∧ a.nk = b.nk) ∧ a.ns = b.ns) ∧ a.np = b.np) ∧ a.no = b.no := by first | (simp only [Bool.or_eq_true, Bool.or_eq_false_iff, Bool.and_eq_true, Bool.and_eq_false_iff, Bool.not_eq_true', Bool.not_eq_false', decide_eq_true_eq, decide_eq_false_iff_not, beq_iff_eq, bne_iff_ne, ne_eq, beq_eq_false_iff_ne, bne_eq_false_iff_eq, eqNums, Bool.and_true] at hc0; first | exact hc0 | omega) | simpa using hc0 | (simp at hc0 ⊢; omega) | (apply Classical.byContradiction; intro hn; simp_all [eqNums]; done) | (apply Classical.byContradiction; intro hn; simp [eqNums] at hc0 hn; omega)
    have oz3 := @rsame8_v (a.w) (b.w) (by omega)
    have oz4 := @rsame32_v (a.b) (b.b) (by omega)
    exact (VC.run (fn := Tryz.f37) (W := [.r [] [], .r [] [.op false, .op false, .op false, .op false, .op false, .sel 1, .op false, .op false, .op false, .op false, .op false, .sel 1, .op false, .op false, .op false, .op false, .op false, .sel 1, .op false, .op false, .op false, .op false, .op false, .sel 1, .op false, .op false, .op false, .op false, .op false, .sel 1, .op false, .op false, .op false, .op false, .op false, .sel 1], .br false, .r [] [.op false, .op false, .op false, .op false, .op false, .sel 2, .op false, .op false, .op false, .op false, .op false, .sel 2, .op false, .op false, .op false, .op false, .op false, .sel 2, .op false, .op false, .op false, .op false, .op false, .v (Value.bool (eqNums [(IntKind.i32, a.qm, b.qm), (IntKind.i64, a.qs, b.qs), (IntKind.i8, a.qz, b.qz)])), .sel 2, .op false, .op false, .op false, .op false, .op false, .v (Value.bool (eqNums [(IntKind.i32, a.rm, b.rm), (IntKind.i64, a.rs, b.rs), (IntKind.i8, a.rz, b.rz)])), .sel 2, .op false, .op false, .op false, .op false, .op false, .callr (rO oz3), .sel 2, .op false, .op false, .op false, .op false, .op false, .callr (rO oz4), .sel 2]]) (r := bv (a.za == b.za && a.zb == b.zb && a.lo == b.lo && a.hi == b.hi && eqNums [(IntKind.i32, a.qm, b.qm), (IntKind.i64, a.qs, b.qs), (IntKind.i8, a.qz, b.qz)] && eqNums [(IntKind.i32, a.rm, b.rm), (IntKind.i64, a.rs, b.rs), (IntKind.i8, a.rz, b.rz)] && decide (a.w = b.w) && decide (a.b = b.b))) Tryz.func37 (by kernel_rfl) (.c hc0 <| .c (show BinTo Tryz.prog BinOp.eql 43 (Operand.tmp 80) (Operand.tmp 82) (Value.agg #[Value.int IntKind.i32 a.qm, Value.int IntKind.i64 a.qs, Value.int IntKind.i8 a.qz]) (Value.agg #[Value.int IntKind.i32 b.qm, Value.int IntKind.i64 b.qs, Value.int IntKind.i8 b.qz]) (Value.bool (eqNums [(IntKind.i32, a.qm, b.qm), (IntKind.i64, a.qs, b.qs), (IntKind.i8, a.qz, b.qz)])) from ((bin_nums (l := [(IntKind.i32, a.qm, b.qm), (IntKind.i64, a.qs, b.qs), (IntKind.i8, a.qz, b.qz)]) (by kernel_rfl) (by kernel_rfl) (by kernel_rfl) (by kernel_rfl) _ _).1)) <| .c (show BinTo Tryz.prog BinOp.eql 43 (Operand.tmp 87) (Operand.tmp 89) (Value.agg #[Value.int IntKind.i32 a.rm, Value.int IntKind.i64 a.rs, Value.int IntKind.i8 a.rz]) (Value.agg #[Value.int IntKind.i32 b.rm, Value.int IntKind.i64 b.rs, Value.int IntKind.i8 b.rz]) (Value.bool (eqNums [(IntKind.i32, a.rm, b.rm), (IntKind.i64, a.rs, b.rs), (IntKind.i8, a.rz, b.rz)])) from ((bin_nums (l := [(IntKind.i32, a.rm, b.rm), (IntKind.i64, a.rs, b.rs), (IntKind.i8, a.rz, b.rz)]) (by kernel_rfl) (by kernel_rfl) (by kernel_rfl) (by kernel_rfl) _ _).1)) <| .c oz3 <| .c oz4 <| .n)).weak (WeakL.refl _) (Weak.bool (show ((a.za == b.za && a.zb == b.zb && a.lo == b.lo && a.hi == b.hi && eqNums [(IntKind.i32, a.qm, b.qm), (IntKind.i64, a.qs, b.qs), (IntKind.i8, a.qz, b.qz)] && eqNums [(IntKind.i32, a.rm, b.rm), (IntKind.i64, a.rs, b.rs), (IntKind.i8, a.rz, b.rz)] && decide (a.w = b.w) && decide (a.b = b.b)) : Bool) = (nodEq a b) from (by (exact nodEq_rest (by assumption)))))
end Go.Proofs.YtdmkhinckljddaaGreat

/- The shapes of a block's values, by the program and by the document. No condition. -/
namespace Go.Proofs.YtdmkhinckljddaaGreat
open Go.RowKit
set_option linter.unusedSimpArgs false
set_option linter.unusedVariables false
set_option linter.unnecessarySimpa false

instance : Inhabited Nod := ⟨⟨0, 0, 0, 0, 0, 0, 0, 0, 0, [], [], 0, 0, 0, 0, 0, 0, 0, 0⟩⟩
theorem getD_in {α : Type} [Inhabited α] {l : List α} {p : α → Prop} (h : ∀ y ∈ l, p y) {i : Nat} (hi : i < l.length) : p (l.getD i default) := by
  rw [List.getD_eq_getElem?_getD, List.getElem?_eq_getElem hi]; exact h _ (List.getElem_mem hi)
end Go.Proofs.YtdmkhinckljddaaGreat

/- Which nodes are gone through. No condition. -/
namespace Go.Proofs.YtdmkhinckljddaaGreat
open Go.RowKit
set_option linter.unusedSimpArgs false
set_option linter.unusedVariables false
set_option linter.unnecessarySimpa false

def smallB (n : Nod) : Bool := decide (n.w.length ≤ 1000) && decide (n.b.length ≤ 100)
def fewB (l : List Nod) (d : Nat) : Bool := decide (l.length ≤ 12) && decide (d ≤ 300) && l.all smallB
noncomputable def few_ly_I (l : List Nod) (k : Nat) : VS := stt 37 [(0, .sl 19 (l.map nodC)), (5, i64 k)] []
noncomputable def few_ly_Z (l : List Nod) : VS := few_ly_I l (l.length)
set_option maxRecDepth 100000 in
set_option maxHeartbeats 2000000 in
theorem few_ly_s (l : List Nod) (hl : l.length ≤ 12) (h : ∀ k, k < l.length → smallB (l.getD k default) = true) (k : Nat) (hk : k < l.length) : VT Tryz.prog (fnC Tryz.f8 [1, 1, 0, 1, 0, 0]) (few_ly_I l k) .normal (few_ly_I l (k + 1)) := by
  have q := h k hk
  simp only [smallB, Bool.and_eq_true, decide_eq_true_eq] at q
  obtain ⟨q1, q2⟩ := q
  have oz1 := (show 0 ≤ (↑k : Int) by omega)
  have oz2 := (map_at (nodC) (default) (l := l) (i := k) hk)
  exact VT.run (W := [.r [] [], .br true, .r [] [.row (sO oz2), .op false, .op false, .op false, .row (sO oz2), .op false, .op false, .op false, .op false, .sel 1], .br false, .r [] [.n ((↑k : Int) + 1)]]) (G := [.any (rg [(15, 14), (36, 1)]), .weak 5 (i64 (↑(k + 1) : Int)), .sort]) (by kernel_rfl) (.c (show decide ((↑k : Int) < (↑(List.map nodC l).length : Int)) = true by (simp; omega)) <| .c oz1 <| .c oz2 <| .c oz1 <| .c oz2 <| .c (show (decide ((↑(List.map (row1 IntKind.i8) (l.getD k default).w).length : Int) > 1000) || decide ((↑(List.map (row1 IntKind.i32) (l.getD k default).b).length : Int) > 100)) = false by (simp at *; omega)) <| .c (IntWalk.i64_in ((↑k : Int) + 1) (by omega)) <| .c (Weak.int (k := .i64) (show (((↑k : Int) + 1) : Int) = ((↑(k + 1) : Int)) from (by omega))) <| .n)
set_option maxRecDepth 100000 in
set_option maxHeartbeats 2000000 in
theorem few_ly_e (l : List Nod) (hl : l.length ≤ 12) (h : ∀ k, k < l.length → smallB (l.getD k default) = true) : VT Tryz.prog (fnC Tryz.f8 [1, 1, 0, 1, 0, 0]) (few_ly_I l (l.length)) (.exit 0) (few_ly_Z l) := by
  exact VT.run (W := [.r [] [], .br false]) (G := [.any (rg [(15, 4)]), .sort]) (by kernel_rfl) (.c (show decide ((↑l.length : Int) < (↑(List.map nodC l).length : Int)) = false by (simp; done)) <| .n)
theorem few_ly (l : List Nod) (hl : l.length ≤ 12) (h : ∀ k, k < l.length → smallB (l.getD k default) = true) : VT Tryz.prog (fnC Tryz.f8 [1, 1, 0, 1, 0]) (few_ly_I l 0) (.exit 0) (few_ly_Z l) :=
  VT.loop (fun k => few_ly_I l k) (l.length) (fun k hk => few_ly_s l hl h k hk) (few_ly_e l hl h) (by intro h; cases h)

noncomputable def few_ln_I (l : List Nod) (m : Nat) (k : Nat) : VS := stt 37 [(0, .sl 19 (l.map nodC)), (5, i64 k)] []
noncomputable def few_ln_Z (l : List Nod) (m : Nat) : VS := stt 37 [(4, bv false)] []
set_option maxRecDepth 100000 in
set_option maxHeartbeats 2000000 in
theorem few_ln_s (l : List Nod) (m : Nat) (hl : l.length ≤ 12) (hm : m < l.length) (hf : smallB (l.getD m default) = false) (h : ∀ k, k < m → smallB (l.getD k default) = true) (k : Nat) (hk : k < m) : VT Tryz.prog (fnC Tryz.f8 [1, 1, 0, 1, 0, 0]) (few_ln_I l m k) .normal (few_ln_I l m (k + 1)) := by
  have q := h k hk
  simp only [smallB, Bool.and_eq_true, decide_eq_true_eq] at q
  obtain ⟨q1, q2⟩ := q
  have oz1 := (show 0 ≤ (↑k : Int) by omega)
  have oz2 := (map_at (nodC) (default) (l := l) (i := k) (by omega))
  exact VT.run (W := [.r [] [], .br true, .r [] [.row (sO oz2), .op false, .op false, .op false, .row (sO oz2), .op false, .op false, .op false, .op false, .sel 1], .br false, .r [] [.n ((↑k : Int) + 1)]]) (G := [.any (rg [(15, 14), (36, 1)]), .weak 5 (i64 (↑(k + 1) : Int)), .sort]) (by kernel_rfl) (.c (show decide ((↑k : Int) < (↑(List.map nodC l).length : Int)) = true by (simp; omega)) <| .c oz1 <| .c oz2 <| .c oz1 <| .c oz2 <| .c (show (decide ((↑(List.map (row1 IntKind.i8) (l.getD k default).w).length : Int) > 1000) || decide ((↑(List.map (row1 IntKind.i32) (l.getD k default).b).length : Int) > 100)) = false by (simp at *; omega)) <| .c (IntWalk.i64_in ((↑k : Int) + 1) (by omega)) <| .c (Weak.int (k := .i64) (show (((↑k : Int) + 1) : Int) = ((↑(k + 1) : Int)) from (by omega))) <| .n)
set_option maxRecDepth 100000 in
set_option maxHeartbeats 2000000 in
theorem few_ln_e (l : List Nod) (m : Nat) (hl : l.length ≤ 12) (hm : m < l.length) (hf : smallB (l.getD m default) = false) (h : ∀ k, k < m → smallB (l.getD k default) = true) : VT Tryz.prog (fnC Tryz.f8 [1, 1, 0, 1, 0, 0]) (few_ln_I l m (m)) (.ret) (few_ln_Z l m) := by
  simp only [smallB, Bool.and_eq_false_iff, decide_eq_false_iff_not] at hf
  have oz1 := (show 0 ≤ (↑m : Int) by omega)
  have oz2 := (map_at (nodC) (default) (l := l) (i := m) hm)
  exact VT.run (W := [.r [] [], .br true, .r [] [.row (sO oz2), .op false, .op false, .op false, .row (sO oz2), .op false, .op false, .op false, .op false, .sel 1], .br true, .r [] []]) (G := [.any (rg [(0, 1), (5, 1), (15, 4), (21, 8), (36, 1)]), .sort]) (by kernel_rfl) (.c (show decide ((↑m : Int) < (↑(List.map nodC l).length : Int)) = true by (simp; omega)) <| .c oz1 <| .c oz2 <| .c oz1 <| .c oz2 <| .c (show (decide ((↑(List.map (row1 IntKind.i8) (l.getD m default).w).length : Int) > 1000) || decide ((↑(List.map (row1 IntKind.i32) (l.getD m default).b).length : Int) > 100)) = true by (simp at *; omega)) <| .n)
theorem few_ln (l : List Nod) (m : Nat) (hl : l.length ≤ 12) (hm : m < l.length) (hf : smallB (l.getD m default) = false) (h : ∀ k, k < m → smallB (l.getD k default) = true) : VT Tryz.prog (fnC Tryz.f8 [1, 1, 0, 1, 0]) (few_ln_I l m 0) (.ret) (few_ln_Z l m) :=
  VT.loop (fun k => few_ln_I l m k) (m) (fun k hk => few_ln_s l m hl hm hf h k hk) (few_ln_e l m hl hm hf h) (by intro h; cases h)

set_option maxRecDepth 100000 in
set_option maxHeartbeats 2000000 in
theorem few_a (l : List Nod) (T : Ten) (h : 12 < l.length ∨ 300 < T.d.length) : VC Tryz.prog 8 ([.sl 19 (l.map nodC), ten .i8 T]) (bv false) := by
  exact VC.run (fn := Tryz.f8) (W := [.r [] [], .r [] [.op false, .op false, .op false, .op false, .sel 1], .br true, .r [] []]) Tryz.func8 (by kernel_rfl) (.c (show (decide ((↑(List.map nodC l).length : Int) > 12) || decide ((↑(List.map (row1 IntKind.i8) T.d).length : Int) > 300)) = true by (simp; omega)) <| .n)

set_option maxRecDepth 100000 in
set_option maxHeartbeats 2000000 in
theorem few_y (l : List Nod) (T : Ten) (hl : l.length ≤ 12) (hd : T.d.length ≤ 300) (h : ∀ k, k < l.length → smallB (l.getD k default) = true) : VC Tryz.prog 8 ([.sl 19 (l.map nodC), ten .i8 T]) (bv true) := by
  have oz2 := @few_ly (l) hl h
  exact VC.run (fn := Tryz.f8) (W := [.r [] [], .r [] [.op false, .op false, .op false, .op false, .sel 1], .br false, .r [] [], .code [.any [1, 3, 4, 6, 7, 8, 9, 14], .drop [3], .weak 5 (i64 (↑0 : Int)), .sort] (Exit.exit 0) (zO oz2), .r [] []]) Tryz.func8 (by kernel_rfl) (.c (show (decide ((↑(List.map nodC l).length : Int) > 12) || decide ((↑(List.map (row1 IntKind.i8) T.d).length : Int) > 300)) = false by (simp; omega)) <| .c (Weak.int (k := .i64) (show ((0) : Int) = ((↑0 : Int)) from (by omega))) <| .c oz2 <| .n)

set_option maxRecDepth 100000 in
set_option maxHeartbeats 2000000 in
theorem few_n (l : List Nod) (T : Ten) (m : Nat) (hl : l.length ≤ 12) (hd : T.d.length ≤ 300) (hm : m < l.length) (hf : smallB (l.getD m default) = false) (h : ∀ k, k < m → smallB (l.getD k default) = true) : VC Tryz.prog 8 ([.sl 19 (l.map nodC), ten .i8 T]) (bv false) := by
  have oz2 := @few_ln (l) (m) hl hm hf h
  exact VC.run (fn := Tryz.f8) (W := [.r [] [], .r [] [.op false, .op false, .op false, .op false, .sel 1], .br false, .r [] [], .code [.any [1, 3, 4, 6, 7, 8, 9, 14], .drop [3], .weak 5 (i64 (↑0 : Int)), .sort] (Exit.ret) (zO oz2)]) Tryz.func8 (by kernel_rfl) (.c (show (decide ((↑(List.map nodC l).length : Int) > 12) || decide ((↑(List.map (row1 IntKind.i8) T.d).length : Int) > 300)) = false by (simp; omega)) <| .c (Weak.int (k := .i64) (show ((0) : Int) = ((↑0 : Int)) from (by omega))) <| .c oz2 <| .n)
theorem few_v (l : List Nod) (T : Ten) : VC Tryz.prog 8 [.sl 19 (l.map nodC), ten .i8 T] (bv (fewB l T.d.length)) := by
  unfold fewB
  by_cases h1 : l.length ≤ 12
  · by_cases h2 : T.d.length ≤ 300
    · rw [decide_eq_true h1, decide_eq_true h2]
      rcases all_or (fun k => smallB (l.getD k default)) l.length with h | ⟨m, g1, g2, g3⟩
      · rw [all_getD.2 h]; exact few_y l T h1 h2 h
      · have : l.all smallB = false := by
          cases e : l.all smallB with
          | false => rfl
          | true => have := all_getD.1 e m g1; exact absurd (this.symm.trans g2) (by simp)
        rw [this]; exact few_n l T m h1 h2 g1 g2 g3
    · rw [decide_eq_false h2, Bool.and_false, Bool.false_and]; exact few_a l T (.inr (by omega))
  · rw [decide_eq_false h1, Bool.false_and, Bool.false_and]; exact few_a l T (.inl (by omega))
theorem few_0 (l : List Nod) : VC Tryz.prog 8 [.sl 19 (l.map nodC), .agg [i64 0, i64 0, i64 0, .sl 1 []]] (bv (fewB l 0)) := few_v l ⟨0, 0, 0, []⟩
theorem few_facts {l : List Nod} {d : Nat} (h : fewB l d = true) : l.length ≤ 12 ∧ d ≤ 300 ∧ ∀ n ∈ l, n.w.length ≤ 1000 ∧ n.b.length ≤ 100 := by
  simp only [fewB, Bool.and_eq_true, decide_eq_true_eq, List.all_eq_true, smallB] at h
  exact ⟨h.1.1, h.1.2, fun n hn => h.2 n hn⟩
theorem few_wide {l : List Nod} {d : Nat} (h : fewB l d = true) : ∀ n ∈ l, n.w.length ≤ 100000 ∧ n.b.length ≤ 100000 := fun n hn => by
  have := (few_facts h).2.2 n hn; omega
end Go.Proofs.YtdmkhinckljddaaGreat

/- Blocks, models, bundles; which are gone through. No condition. -/
namespace Go.Proofs.YtdmkhinckljddaaGreat
open Go.RowKit
set_option linter.unusedSimpArgs false
set_option linter.unusedVariables false
set_option linter.unnecessarySimpa false

structure Blc where
  n : List Nod
  ex : Bool
  w : List Int
  b : List Int
  nd : Int
abbrev blcC (x : Blc) : List AV := [.sl 19 (x.n.map nodC), bv x.ex, ints .i8 x.w, ints .i32 x.b, i32 x.nd]
structure Blc.Ok (x : Blc) : Prop where
  n : ∀ d ∈ x.n, Nod.Ok d
  w : ∀ v ∈ x.w, In8 v
  b : ∀ v ∈ x.b, In32 v
  nd : In32 x.nd
instance : Inhabited Blc := ⟨⟨[], false, [], [], 0⟩⟩
structure Mdl where
  l : List Blc
abbrev mdlC (m : Mdl) : List AV := [.sl 5 (m.l.map blcC)]
structure Mdl.Ok (m : Mdl) : Prop where
  l : ∀ d ∈ m.l, Blc.Ok d
instance : Inhabited Mdl := ⟨⟨[]⟩⟩
structure Bun where
  h : Int
  x : Int
  c : Int
  cl : Int
  m : List Mdl
abbrev bunC (u : Bun) : List AV := [i64 u.h, i64 u.x, i64 u.c, i64 u.cl, .sl 1 (u.m.map mdlC)]
structure Bun.Ok (u : Bun) : Prop where
  h : In64 u.h
  x : In64 u.x
  c : In64 u.c
  cl : In64 u.cl
  m : ∀ d ∈ u.m, Mdl.Ok d
abbrev blc (x : Blc) : AV := .agg (blcC x)
abbrev bun (u : Bun) : AV := .agg (bunC u)
def blcS (x : Blc) : Bool := fewB x.n 0 && decide (x.w.length ≤ 4000) && decide (x.b.length ≤ 100)
def mdlS (m : Mdl) : Bool := decide (m.l.length ≤ 8) && m.l.all blcS
def bunS (u : Bun) : Bool := decide (u.m.length ≤ 4) && u.m.all mdlS
theorem blcS_iff {x : Blc} : blcS x = true ↔ fewB x.n 0 = true ∧ x.w.length ≤ 4000 ∧ x.b.length ≤ 100 := by
  simp only [blcS, Bool.and_eq_true, decide_eq_true_eq, and_assoc]
theorem mdlS_iff {m : Mdl} : mdlS m = true ↔ m.l.length ≤ 8 ∧ ∀ k, k < m.l.length → blcS (m.l.getD k default) = true := by
  simp only [mdlS, Bool.and_eq_true, decide_eq_true_eq, all_getD]
noncomputable def few31_iy_I (u : Bun) (K : Int) (l : List Blc) (k : Nat) : VS := stt 60 [(1, .ptr 1 0 0), (3, i64 K), (4, .sl 5 (l.map blcC)), (5, i64 k)] [(1, .var (bunC u))]
noncomputable def few31_iy_Z (u : Bun) (K : Int) (l : List Blc) : VS := few31_iy_I u K l (l.length)
set_option maxRecDepth 100000 in
set_option maxHeartbeats 2000000 in
theorem few31_iy_s (u : Bun) (K : Int) (l : List Blc) (hl : l.length ≤ 8) (h : ∀ k, k < l.length → blcS (l.getD k default) = true) (k : Nat) (hk : k < l.length) : VT Tryz.prog (fnC Tryz.f4 [1, 1, 0, 1, 0, 0, 1, 0, 0, 1, 1, 1, 0, 0]) (few31_iy_I u K l k) .normal (few31_iy_I u K l (k + 1)) := by
  have q := blcS_iff.1 (h k hk)
  obtain ⟨q1, q2, q3⟩ := q
  have oz1 := (show 0 ≤ (↑k : Int) by omega)
  have oz2 := (map_at (blcC) (default) (l := l) (i := k) hk)
  have oz4 := @few_0 ((l.getD k default).n)
  exact VT.run (W := [.r [] [], .br true, .r [] [.row (sO oz2), .call (aO oz4) (rO oz4), .op false, .op false, .op false, .row (sO oz2), .op false, .op false, .op false, .op false, .op false, .sel 1, .op false, .op false, .op false, .row (sO oz2), .op false, .op false, .op false, .op false, .op false, .sel 1], .br false, .r [] [.n ((↑k : Int) + 1)]]) (G := [.any (rg [(26, 15), (49, 2), (59, 1)]), .weak 5 (i64 (↑(k + 1) : Int)), .sort]) (by kernel_rfl) (.c (show decide ((↑k : Int) < (↑(List.map blcC l).length : Int)) = true by (simp; omega)) <| .c oz1 <| .c oz2 <| .c (show WeakL [AV.sl 19 (List.map nodC (l.getD k default).n), AV.agg [i64 0, i64 0, i64 0, AV.lit (Value.slice none 0 0)]] [AV.sl 19 (List.map nodC (l.getD k default).n), AV.agg [i64 0, i64 0, i64 0, AV.sl 1 []]] from (.cons (.refl _) (.cons (Weak.agg (.cons (.refl _) (.cons (.refl _) (.cons (.refl _) (.cons (Weak.nil _) .nil))))) .nil))) <| .c oz4 <| .c oz1 <| .c oz2 <| .c oz1 <| .c oz2 <| .c (show (!fewB (l.getD k default).n 0 || decide ((↑(List.map (row1 IntKind.i8) (l.getD k default).w).length : Int) > 4000) || decide ((↑(List.map (row1 IntKind.i32) (l.getD k default).b).length : Int) > 100)) = false by (rw [q1]; simp only [Bool.not_true, Bool.false_or, Bool.or_eq_false_iff, decide_eq_false_iff_not, List.length_map]; omega)) <| .c (IntWalk.i64_in ((↑k : Int) + 1) (by omega)) <| .c (Weak.int (k := .i64) (show (((↑k : Int) + 1) : Int) = ((↑(k + 1) : Int)) from (by omega))) <| .n)
set_option maxRecDepth 100000 in
set_option maxHeartbeats 2000000 in
theorem few31_iy_e (u : Bun) (K : Int) (l : List Blc) (hl : l.length ≤ 8) (h : ∀ k, k < l.length → blcS (l.getD k default) = true) : VT Tryz.prog (fnC Tryz.f4 [1, 1, 0, 1, 0, 0, 1, 0, 0, 1, 1, 1, 0, 0]) (few31_iy_I u K l (l.length)) (.exit 2) (few31_iy_Z u K l) := by
  exact VT.run (W := [.r [] [], .br false]) (G := [.any (rg [(26, 4)]), .sort]) (by kernel_rfl) (.c (show decide ((↑l.length : Int) < (↑(List.map blcC l).length : Int)) = false by (simp; done)) <| .n)
theorem few31_iy (u : Bun) (K : Int) (l : List Blc) (hl : l.length ≤ 8) (h : ∀ k, k < l.length → blcS (l.getD k default) = true) : VT Tryz.prog (fnC Tryz.f4 [1, 1, 0, 1, 0, 0, 1, 0, 0, 1, 1, 1, 0]) (few31_iy_I u K l 0) (.exit 2) (few31_iy_Z u K l) :=
  VT.loop (fun k => few31_iy_I u K l k) (l.length) (fun k hk => few31_iy_s u K l hl h k hk) (few31_iy_e u K l hl h) (by intro h; cases h)

noncomputable def few31_in_I (u : Bun) (K : Int) (l : List Blc) (m : Nat) (k : Nat) : VS := stt 60 [(1, .ptr 1 0 0), (3, i64 K), (4, .sl 5 (l.map blcC)), (5, i64 k)] [(1, .var (bunC u))]
noncomputable def few31_in_Z (u : Bun) (K : Int) (l : List Blc) (m : Nat) : VS := stt 60 [(2, bv false)] []
set_option maxRecDepth 100000 in
set_option maxHeartbeats 2000000 in
theorem few31_in_s (u : Bun) (K : Int) (l : List Blc) (m : Nat) (hl : l.length ≤ 8) (hm : m < l.length) (hf : blcS (l.getD m default) = false) (h : ∀ k, k < m → blcS (l.getD k default) = true) (k : Nat) (hk : k < m) : VT Tryz.prog (fnC Tryz.f4 [1, 1, 0, 1, 0, 0, 1, 0, 0, 1, 1, 1, 0, 0]) (few31_in_I u K l m k) .normal (few31_in_I u K l m (k + 1)) := by
  have q := blcS_iff.1 (h k hk)
  obtain ⟨q1, q2, q3⟩ := q
  have oz1 := (show 0 ≤ (↑k : Int) by omega)
  have oz2 := (map_at (blcC) (default) (l := l) (i := k) (by omega))
  have oz4 := @few_0 ((l.getD k default).n)
  exact VT.run (W := [.r [] [], .br true, .r [] [.row (sO oz2), .call (aO oz4) (rO oz4), .op false, .op false, .op false, .row (sO oz2), .op false, .op false, .op false, .op false, .op false, .sel 1, .op false, .op false, .op false, .row (sO oz2), .op false, .op false, .op false, .op false, .op false, .sel 1], .br false, .r [] [.n ((↑k : Int) + 1)]]) (G := [.any (rg [(26, 15), (49, 2), (59, 1)]), .weak 5 (i64 (↑(k + 1) : Int)), .sort]) (by kernel_rfl) (.c (show decide ((↑k : Int) < (↑(List.map blcC l).length : Int)) = true by (simp; omega)) <| .c oz1 <| .c oz2 <| .c (show WeakL [AV.sl 19 (List.map nodC (l.getD k default).n), AV.agg [i64 0, i64 0, i64 0, AV.lit (Value.slice none 0 0)]] [AV.sl 19 (List.map nodC (l.getD k default).n), AV.agg [i64 0, i64 0, i64 0, AV.sl 1 []]] from (.cons (.refl _) (.cons (Weak.agg (.cons (.refl _) (.cons (.refl _) (.cons (.refl _) (.cons (Weak.nil _) .nil))))) .nil))) <| .c oz4 <| .c oz1 <| .c oz2 <| .c oz1 <| .c oz2 <| .c (show (!fewB (l.getD k default).n 0 || decide ((↑(List.map (row1 IntKind.i8) (l.getD k default).w).length : Int) > 4000) || decide ((↑(List.map (row1 IntKind.i32) (l.getD k default).b).length : Int) > 100)) = false by (rw [q1]; simp only [Bool.not_true, Bool.false_or, Bool.or_eq_false_iff, decide_eq_false_iff_not, List.length_map]; omega)) <| .c (IntWalk.i64_in ((↑k : Int) + 1) (by omega)) <| .c (Weak.int (k := .i64) (show (((↑k : Int) + 1) : Int) = ((↑(k + 1) : Int)) from (by omega))) <| .n)
set_option maxRecDepth 100000 in
set_option maxHeartbeats 2000000 in
theorem few31_in_e (u : Bun) (K : Int) (l : List Blc) (m : Nat) (hl : l.length ≤ 8) (hm : m < l.length) (hf : blcS (l.getD m default) = false) (h : ∀ k, k < m → blcS (l.getD k default) = true) : VT Tryz.prog (fnC Tryz.f4 [1, 1, 0, 1, 0, 0, 1, 0, 0, 1, 1, 1, 0, 0]) (few31_in_I u K l m (m)) (.ret) (few31_in_Z u K l m) := by
  have q0 : fewB (l.getD m default).n 0 = true → ¬ ((l.getD m default).w.length ≤ 4000 ∧ (l.getD m default).b.length ≤ 100) := fun c d => by rw [blcS_iff.2 ⟨c, d⟩] at hf; cases hf
  have oz1 := (show 0 ≤ (↑m : Int) by omega)
  have oz2 := (map_at (blcC) (default) (l := l) (i := m) hm)
  have oz4 := @few_0 ((l.getD m default).n)
  exact VT.run (W := [.r [] [], .br true, .r [] [.row (sO oz2), .call (aO oz4) (rO oz4), .op false, .op false, .op false, .row (sO oz2), .op false, .op false, .op false, .op false, .op false, .sel 1, .op false, .op false, .op false, .row (sO oz2), .op false, .op false, .op false, .op false, .op false, .sel 1], .br true, .r [] []]) (G := [.any (rg [(1, 1), (3, 3), (26, 4), (32, 9), (49, 2), (59, 1)]), .drop [1], .sort]) (by kernel_rfl) (.c (show decide ((↑m : Int) < (↑(List.map blcC l).length : Int)) = true by (simp; omega)) <| .c oz1 <| .c oz2 <| .c (show WeakL [AV.sl 19 (List.map nodC (l.getD m default).n), AV.agg [i64 0, i64 0, i64 0, AV.lit (Value.slice none 0 0)]] [AV.sl 19 (List.map nodC (l.getD m default).n), AV.agg [i64 0, i64 0, i64 0, AV.sl 1 []]] from (.cons (.refl _) (.cons (Weak.agg (.cons (.refl _) (.cons (.refl _) (.cons (.refl _) (.cons (Weak.nil _) .nil))))) .nil))) <| .c oz4 <| .c oz1 <| .c oz2 <| .c oz1 <| .c oz2 <| .c (show (!fewB (l.getD m default).n 0 || decide ((↑(List.map (row1 IntKind.i8) (l.getD m default).w).length : Int) > 4000) || decide ((↑(List.map (row1 IntKind.i32) (l.getD m default).b).length : Int) > 100)) = true by (cases ef : fewB (l.getD m default).n 0 with | false => rfl | true => (have q9 := q0 ef; simp only [Bool.not_true, Bool.false_or, Bool.or_eq_true, decide_eq_true_eq, List.length_map]; omega))) <| .n)
theorem few31_in (u : Bun) (K : Int) (l : List Blc) (m : Nat) (hl : l.length ≤ 8) (hm : m < l.length) (hf : blcS (l.getD m default) = false) (h : ∀ k, k < m → blcS (l.getD k default) = true) : VT Tryz.prog (fnC Tryz.f4 [1, 1, 0, 1, 0, 0, 1, 0, 0, 1, 1, 1, 0]) (few31_in_I u K l m 0) (.ret) (few31_in_Z u K l m) :=
  VT.loop (fun k => few31_in_I u K l m k) (m) (fun k hk => few31_in_s u K l m hl hm hf h k hk) (few31_in_e u K l m hl hm hf h) (by intro h; cases h)

noncomputable def few31_oy_I (u : Bun) (k : Nat) : VS := stt 60 [(1, .ptr 1 0 0), (3, i64 k)] [(1, .var (bunC u))]
noncomputable def few31_oy_Z (u : Bun) : VS := few31_oy_I u (u.m.length)
set_option maxRecDepth 100000 in
set_option maxHeartbeats 2000000 in
theorem few31_oy_s (u : Bun) (hl : u.m.length ≤ 4) (h : ∀ k, k < u.m.length → mdlS (u.m.getD k default) = true) (k : Nat) (hk : k < u.m.length) : VT Tryz.prog (fnC Tryz.f4 [1, 1, 0, 1, 0, 0]) (few31_oy_I u k) .normal (few31_oy_I u (k + 1)) := by
  have q := mdlS_iff.1 (h k hk)
  obtain ⟨q1, q2⟩ := q
  have oz2 := (map_at (mdlC) (default) (l := u.m) (i := k) hk)
  have oz5 := @few31_iy (u) ((↑k : Int)) ((u.m.getD k default).l) q1 q2
  exact VT.run (W := [.r [] [], .br true, .r [] [.row (sO oz2)], .r [] [], .br false, .r [] [], .code [.any (rg [(10, 5), (17, 9)]), .weak 5 (i64 (↑0 : Int)), .sort] (Exit.exit 2) (zO oz5), .r [] [.n ((↑k : Int) + 1)]]) (G := [.any [4, 5, 15, 16], .weak 3 (i64 (↑(k + 1) : Int)), .sort]) (by kernel_rfl) (.c (show decide ((↑k : Int) < (↑(List.map mdlC u.m).length : Int)) = true by (simp; omega)) <| .c (show 0 ≤ (↑k : Int) by omega) <| .c oz2 <| .c (show decide ((↑(List.map blcC (u.m.getD k default).l).length : Int) > 8) = false by (simp at *; omega)) <| .c (Weak.int (k := .i64) (show ((0) : Int) = ((↑0 : Int)) from (by omega))) <| .c oz5 <| .c (IntWalk.i64_in ((↑k : Int) + 1) (by omega)) <| .c (Weak.int (k := .i64) (show (((↑k : Int) + 1) : Int) = ((↑(k + 1) : Int)) from (by omega))) <| .n)
set_option maxRecDepth 100000 in
set_option maxHeartbeats 2000000 in
theorem few31_oy_e (u : Bun) (hl : u.m.length ≤ 4) (h : ∀ k, k < u.m.length → mdlS (u.m.getD k default) = true) : VT Tryz.prog (fnC Tryz.f4 [1, 1, 0, 1, 0, 0]) (few31_oy_I u (u.m.length)) (.exit 0) (few31_oy_Z u) := by
  exact VT.run (W := [.r [] [], .br false]) (G := [.any (rg [(10, 5)]), .sort]) (by kernel_rfl) (.c (show decide ((↑u.m.length : Int) < (↑(List.map mdlC u.m).length : Int)) = false by (simp; done)) <| .n)
theorem few31_oy (u : Bun) (hl : u.m.length ≤ 4) (h : ∀ k, k < u.m.length → mdlS (u.m.getD k default) = true) : VT Tryz.prog (fnC Tryz.f4 [1, 1, 0, 1, 0]) (few31_oy_I u 0) (.exit 0) (few31_oy_Z u) :=
  VT.loop (fun k => few31_oy_I u k) (u.m.length) (fun k hk => few31_oy_s u hl h k hk) (few31_oy_e u hl h) (by intro h; cases h)

noncomputable def few31_oa_I (u : Bun) (m : Nat) (k : Nat) : VS := stt 60 [(1, .ptr 1 0 0), (3, i64 k)] [(1, .var (bunC u))]
noncomputable def few31_oa_Z (u : Bun) (m : Nat) : VS := stt 60 [(2, bv false)] []
set_option maxRecDepth 100000 in
set_option maxHeartbeats 2000000 in
theorem few31_oa_s (u : Bun) (m : Nat) (hl : u.m.length ≤ 4) (hm : m < u.m.length) (hf : 8 < (u.m.getD m default).l.length) (h : ∀ k, k < m → mdlS (u.m.getD k default) = true) (k : Nat) (hk : k < m) : VT Tryz.prog (fnC Tryz.f4 [1, 1, 0, 1, 0, 0]) (few31_oa_I u m k) .normal (few31_oa_I u m (k + 1)) := by
  have q := mdlS_iff.1 (h k hk)
  obtain ⟨q1, q2⟩ := q
  have oz2 := (map_at (mdlC) (default) (l := u.m) (i := k) (by omega))
  have oz5 := @few31_iy (u) ((↑k : Int)) ((u.m.getD k default).l) q1 q2
  exact VT.run (W := [.r [] [], .br true, .r [] [.row (sO oz2)], .r [] [], .br false, .r [] [], .code [.any (rg [(10, 5), (17, 9)]), .weak 5 (i64 (↑0 : Int)), .sort] (Exit.exit 2) (zO oz5), .r [] [.n ((↑k : Int) + 1)]]) (G := [.any [4, 5, 15, 16], .weak 3 (i64 (↑(k + 1) : Int)), .sort]) (by kernel_rfl) (.c (show decide ((↑k : Int) < (↑(List.map mdlC u.m).length : Int)) = true by (simp; omega)) <| .c (show 0 ≤ (↑k : Int) by omega) <| .c oz2 <| .c (show decide ((↑(List.map blcC (u.m.getD k default).l).length : Int) > 8) = false by (simp at *; omega)) <| .c (Weak.int (k := .i64) (show ((0) : Int) = ((↑0 : Int)) from (by omega))) <| .c oz5 <| .c (IntWalk.i64_in ((↑k : Int) + 1) (by omega)) <| .c (Weak.int (k := .i64) (show (((↑k : Int) + 1) : Int) = ((↑(k + 1) : Int)) from (by omega))) <| .n)
set_option maxRecDepth 100000 in
set_option maxHeartbeats 2000000 in
theorem few31_oa_e (u : Bun) (m : Nat) (hl : u.m.length ≤ 4) (hm : m < u.m.length) (hf : 8 < (u.m.getD m default).l.length) (h : ∀ k, k < m → mdlS (u.m.getD k default) = true) : VT Tryz.prog (fnC Tryz.f4 [1, 1, 0, 1, 0, 0]) (few31_oa_I u m (m)) (.ret) (few31_oa_Z u m) := by
  have oz2 := (map_at (mdlC) (default) (l := u.m) (i := m) hm)
  exact VT.run (W := [.r [] [], .br true, .r [] [.row (sO oz2)], .r [] [], .br true, .r [] []]) (G := [.any (rg [(1, 1), (3, 2), (10, 5), (17, 9)]), .drop [1], .sort]) (by kernel_rfl) (.c (show decide ((↑m : Int) < (↑(List.map mdlC u.m).length : Int)) = true by (simp; omega)) <| .c (show 0 ≤ (↑m : Int) by omega) <| .c oz2 <| .c (show decide ((↑(List.map blcC (u.m.getD m default).l).length : Int) > 8) = true by (simp at *; omega)) <| .n)
theorem few31_oa (u : Bun) (m : Nat) (hl : u.m.length ≤ 4) (hm : m < u.m.length) (hf : 8 < (u.m.getD m default).l.length) (h : ∀ k, k < m → mdlS (u.m.getD k default) = true) : VT Tryz.prog (fnC Tryz.f4 [1, 1, 0, 1, 0]) (few31_oa_I u m 0) (.ret) (few31_oa_Z u m) :=
  VT.loop (fun k => few31_oa_I u m k) (m) (fun k hk => few31_oa_s u m hl hm hf h k hk) (few31_oa_e u m hl hm hf h) (by intro h; cases h)

noncomputable def few31_ob_I (u : Bun) (m j : Nat) (k : Nat) : VS := stt 60 [(1, .ptr 1 0 0), (3, i64 k)] [(1, .var (bunC u))]
noncomputable def few31_ob_Z (u : Bun) (m j : Nat) : VS := stt 60 [(2, bv false)] []
set_option maxRecDepth 100000 in
set_option maxHeartbeats 2000000 in
theorem few31_ob_s (u : Bun) (m j : Nat) (hl : u.m.length ≤ 4) (hm : m < u.m.length) (hs : (u.m.getD m default).l.length ≤ 8) (hj : j < (u.m.getD m default).l.length) (hf : blcS ((u.m.getD m default).l.getD j default) = false) (hb : ∀ k, k < j → blcS ((u.m.getD m default).l.getD k default) = true) (h : ∀ k, k < m → mdlS (u.m.getD k default) = true) (k : Nat) (hk : k < m) : VT Tryz.prog (fnC Tryz.f4 [1, 1, 0, 1, 0, 0]) (few31_ob_I u m j k) .normal (few31_ob_I u m j (k + 1)) := by
  have q := mdlS_iff.1 (h k hk)
  obtain ⟨q1, q2⟩ := q
  have oz2 := (map_at (mdlC) (default) (l := u.m) (i := k) (by omega))
  have oz5 := @few31_iy (u) ((↑k : Int)) ((u.m.getD k default).l) q1 q2
  exact VT.run (W := [.r [] [], .br true, .r [] [.row (sO oz2)], .r [] [], .br false, .r [] [], .code [.any (rg [(10, 5), (17, 9)]), .weak 5 (i64 (↑0 : Int)), .sort] (Exit.exit 2) (zO oz5), .r [] [.n ((↑k : Int) + 1)]]) (G := [.any [4, 5, 15, 16], .weak 3 (i64 (↑(k + 1) : Int)), .sort]) (by kernel_rfl) (.c (show decide ((↑k : Int) < (↑(List.map mdlC u.m).length : Int)) = true by (simp; omega)) <| .c (show 0 ≤ (↑k : Int) by omega) <| .c oz2 <| .c (show decide ((↑(List.map blcC (u.m.getD k default).l).length : Int) > 8) = false by (simp at *; omega)) <| .c (Weak.int (k := .i64) (show ((0) : Int) = ((↑0 : Int)) from (by omega))) <| .c oz5 <| .c (IntWalk.i64_in ((↑k : Int) + 1) (by omega)) <| .c (Weak.int (k := .i64) (show (((↑k : Int) + 1) : Int) = ((↑(k + 1) : Int)) from (by omega))) <| .n)
set_option maxRecDepth 100000 in
set_option maxHeartbeats 2000000 in
theorem few31_ob_e (u : Bun) (m j : Nat) (hl : u.m.length ≤ 4) (hm : m < u.m.length) (hs : (u.m.getD m default).l.length ≤ 8) (hj : j < (u.m.getD m default).l.length) (hf : blcS ((u.m.getD m default).l.getD j default) = false) (hb : ∀ k, k < j → blcS ((u.m.getD m default).l.getD k default) = true) (h : ∀ k, k < m → mdlS (u.m.getD k default) = true) : VT Tryz.prog (fnC Tryz.f4 [1, 1, 0, 1, 0, 0]) (few31_ob_I u m j (m)) (.ret) (few31_ob_Z u m j) := by
  have oz2 := (map_at (mdlC) (default) (l := u.m) (i := m) hm)
  have oz5 := @few31_in (u) ((↑m : Int)) ((u.m.getD m default).l) (j) hs hj hf hb
  exact VT.run (W := [.r [] [], .br true, .r [] [.row (sO oz2)], .r [] [], .br false, .r [] [], .code [.any (rg [(10, 5), (17, 9)]), .weak 5 (i64 (↑0 : Int)), .sort] (Exit.ret) (zO oz5)]) (G := [.sort]) (by kernel_rfl) (.c (show decide ((↑m : Int) < (↑(List.map mdlC u.m).length : Int)) = true by (simp; omega)) <| .c (show 0 ≤ (↑m : Int) by omega) <| .c oz2 <| .c (show decide ((↑(List.map blcC (u.m.getD m default).l).length : Int) > 8) = false by (simp at *; omega)) <| .c (Weak.int (k := .i64) (show ((0) : Int) = ((↑0 : Int)) from (by omega))) <| .c oz5 <| .n)
theorem few31_ob (u : Bun) (m j : Nat) (hl : u.m.length ≤ 4) (hm : m < u.m.length) (hs : (u.m.getD m default).l.length ≤ 8) (hj : j < (u.m.getD m default).l.length) (hf : blcS ((u.m.getD m default).l.getD j default) = false) (hb : ∀ k, k < j → blcS ((u.m.getD m default).l.getD k default) = true) (h : ∀ k, k < m → mdlS (u.m.getD k default) = true) : VT Tryz.prog (fnC Tryz.f4 [1, 1, 0, 1, 0]) (few31_ob_I u m j 0) (.ret) (few31_ob_Z u m j) :=
  VT.loop (fun k => few31_ob_I u m j k) (m) (fun k hk => few31_ob_s u m j hl hm hs hj hf hb h k hk) (few31_ob_e u m j hl hm hs hj hf hb h) (by intro h; cases h)

set_option maxRecDepth 100000 in
set_option maxHeartbeats 2000000 in
theorem few31_a (u : Bun) (h : 4 < u.m.length) : VC Tryz.prog 4 ([bun u]) (bv false) := by
  exact VC.run (fn := Tryz.f4) (W := [.r [] [], .r [] [], .br true, .r [] []]) Tryz.func4 (by kernel_rfl) (.c (show decide ((↑(List.map mdlC u.m).length : Int) > 4) = true by (simp; omega)) <| .n)

set_option maxRecDepth 100000 in
set_option maxHeartbeats 2000000 in
theorem few31_y (u : Bun) (hl : u.m.length ≤ 4) (h : ∀ k, k < u.m.length → mdlS (u.m.getD k default) = true) : VC Tryz.prog 4 ([bun u]) (bv true) := by
  have oz2 := @few31_oy (u) hl h
  exact VC.run (fn := Tryz.f4) (W := [.r [] [], .r [] [], .br false, .r [] [], .code [.any [0, 2, 6, 7, 8, 9], .weak 3 (i64 (↑0 : Int)), .sort] (Exit.exit 0) (zO oz2), .r [] []]) Tryz.func4 (by kernel_rfl) (.c (show decide ((↑(List.map mdlC u.m).length : Int) > 4) = false by (simp; omega)) <| .c (Weak.int (k := .i64) (show ((0) : Int) = ((↑0 : Int)) from (by omega))) <| .c oz2 <| .n)

set_option maxRecDepth 100000 in
set_option maxHeartbeats 2000000 in
theorem few31_na (u : Bun) (m : Nat) (hl : u.m.length ≤ 4) (hm : m < u.m.length) (hf : 8 < (u.m.getD m default).l.length) (h : ∀ k, k < m → mdlS (u.m.getD k default) = true) : VC Tryz.prog 4 ([bun u]) (bv false) := by
  have oz2 := @few31_oa (u) (m) hl hm hf h
  exact VC.run (fn := Tryz.f4) (W := [.r [] [], .r [] [], .br false, .r [] [], .code [.any [0, 2, 6, 7, 8, 9], .weak 3 (i64 (↑0 : Int)), .sort] (Exit.ret) (zO oz2)]) Tryz.func4 (by kernel_rfl) (.c (show decide ((↑(List.map mdlC u.m).length : Int) > 4) = false by (simp; omega)) <| .c (Weak.int (k := .i64) (show ((0) : Int) = ((↑0 : Int)) from (by omega))) <| .c oz2 <| .n)

set_option maxRecDepth 100000 in
set_option maxHeartbeats 2000000 in
theorem few31_nb (u : Bun) (m j : Nat) (hl : u.m.length ≤ 4) (hm : m < u.m.length) (hs : (u.m.getD m default).l.length ≤ 8) (hj : j < (u.m.getD m default).l.length) (hf : blcS ((u.m.getD m default).l.getD j default) = false) (hb : ∀ k, k < j → blcS ((u.m.getD m default).l.getD k default) = true) (h : ∀ k, k < m → mdlS (u.m.getD k default) = true) : VC Tryz.prog 4 ([bun u]) (bv false) := by
  have oz2 := @few31_ob (u) (m) (j) hl hm hs hj hf hb h
  exact VC.run (fn := Tryz.f4) (W := [.r [] [], .r [] [], .br false, .r [] [], .code [.any [0, 2, 6, 7, 8, 9], .weak 3 (i64 (↑0 : Int)), .sort] (Exit.ret) (zO oz2)]) Tryz.func4 (by kernel_rfl) (.c (show decide ((↑(List.map mdlC u.m).length : Int) > 4) = false by (simp; omega)) <| .c (Weak.int (k := .i64) (show ((0) : Int) = ((↑0 : Int)) from (by omega))) <| .c oz2 <| .n)
theorem few31_v (u : Bun) : VC Tryz.prog 4 [bun u] (bv (bunS u)) := by
  unfold bunS
  by_cases h1 : u.m.length ≤ 4
  · rw [decide_eq_true h1, Bool.true_and]
    rcases all_or (fun k => mdlS (u.m.getD k default)) u.m.length with h | ⟨m, g1, g2, g3⟩
    · rw [all_getD.2 h]; exact few31_y u h1 h
    · have : u.m.all mdlS = false := by
        cases e : u.m.all mdlS with
        | false => rfl
        | true => have := all_getD.1 e m g1; exact absurd (this.symm.trans g2) (by simp)
      rw [this]
      by_cases h2 : 8 < (u.m.getD m default).l.length
      · exact few31_na u m h1 g1 h2 g3
      · rcases all_or (fun k => blcS ((u.m.getD m default).l.getD k default)) (u.m.getD m default).l.length with h | ⟨j, j1, j2, j3⟩
        · exfalso
          have : mdlS (u.m.getD m default) = true := mdlS_iff.2 ⟨by omega, h⟩
          exact absurd (this.symm.trans g2) (by simp)
        · exact few31_nb u m j h1 g1 (by omega) j1 j2 j3 g3
  · rw [decide_eq_false h1, Bool.false_and]; exact few31_a u (by omega)
theorem blc_facts {x : Blc} (h : blcS x = true) : x.n.length ≤ 12 ∧ (∀ n ∈ x.n, n.w.length ≤ 1000 ∧ n.b.length ≤ 100) ∧ (∀ n ∈ x.n, n.w.length ≤ 100000 ∧ n.b.length ≤ 100000) ∧ x.w.length ≤ 4000 ∧ x.b.length ≤ 100 := by
  have h := blcS_iff.1 h
  exact ⟨(few_facts h.1).1, (few_facts h.1).2.2, few_wide h.1, h.2.1, h.2.2⟩
end Go.Proofs.YtdmkhinckljddaaGreat

/- Whether bundles are alike. No condition. -/
namespace Go.Proofs.YtdmkhinckljddaaGreat
open Go.RowKit
set_option linter.unusedSimpArgs false
set_option linter.unusedVariables false
set_option linter.unnecessarySimpa false

def zipAll {α : Type} [Inhabited α] (p : α → α → Bool) (l m : List α) : Bool := decide (l.length = m.length) && (List.range l.length).all fun k => p (l.getD k default) (m.getD k default)
theorem zip_cases {α : Type} [Inhabited α] (p : α → α → Bool) (l m : List α) : (l.length ≠ m.length ∧ zipAll p l m = false) ∨ (l.length = m.length ∧ (∀ k, k < l.length → p (l.getD k default) (m.getD k default) = true) ∧ zipAll p l m = true) ∨
    (l.length = m.length ∧ ∃ i, i < l.length ∧ p (l.getD i default) (m.getD i default) = false ∧ (∀ k, k < i → p (l.getD k default) (m.getD k default) = true) ∧ zipAll p l m = false) := by
  unfold zipAll
  by_cases hl : l.length = m.length
  · rcases all_or (fun k => p (l.getD k default) (m.getD k default)) l.length with h | ⟨i, h1, h2, h3⟩
    · refine .inr (.inl ⟨hl, h, ?_⟩)
      rw [decide_eq_true hl, Bool.true_and, List.all_eq_true]
      exact fun k hk => h k (by simpa using hk)
    · refine .inr (.inr ⟨hl, i, h1, h2, h3, ?_⟩)
      rw [decide_eq_true hl, Bool.true_and, Bool.eq_false_iff]
      intro h
      rw [List.all_eq_true] at h
      have := h i (by simpa using h1)
      rw [h2] at this; cases this
  · exact .inl ⟨hl, by rw [decide_eq_false hl, Bool.false_and]⟩
theorem zip_refl {α : Type} [Inhabited α] {p : α → α → Bool} {l : List α} (h : ∀ x ∈ l, p x x = true) : zipAll p l l = true := by
  unfold zipAll
  rw [decide_eq_true rfl, Bool.true_and, List.all_eq_true]
  intro k hk
  have hk : k < l.length := by simpa using hk
  rw [List.getD_eq_getElem?_getD, List.getElem?_eq_getElem hk]
  exact h _ (List.getElem_mem hk)
/-- Blocks that are looked at. -/
structure Blc.Sz (x : Blc) : Prop where
  l : x.n.length ≤ 1000
  n : ∀ n ∈ x.n, n.w.length ≤ 100000 ∧ n.b.length ≤ 100000
  w : x.w.length ≤ 100000
  b : x.b.length ≤ 100000
def blcEq (x y : Blc) : Bool := decide (x.w = y.w) && decide (x.b = y.b) && (x.nd == y.nd) && (x.ex == y.ex) && zipAll nodEq x.n y.n
structure Mdl.Sz (m : Mdl) : Prop where
  l : m.l.length ≤ 1000
  b : ∀ x ∈ m.l, x.Sz
def mdlEq (a b : Mdl) : Bool := zipAll blcEq a.l b.l
structure Bun.Sz (u : Bun) : Prop where
  l : u.m.length ≤ 1000
  b : ∀ x ∈ u.m, x.Sz
def bunEq (a b : Bun) : Bool := a.h == b.h && a.x == b.x && a.c == b.c && a.cl == b.cl && zipAll mdlEq a.m b.m
end Go.Proofs.YtdmkhinckljddaaGreat

/- Copies of slices: one's own, or such as nobody else holds. No condition. -/
namespace Go.Proofs.YtdmkhinckljddaaGreat
open Go.RowKit
set_option linter.unusedSimpArgs false
set_option linter.unusedVariables false
set_option linter.unnecessarySimpa false

abbrev intsF (k : IntKind) (l : List Int) : AV := .fs 1 (l.map (row1 k))
set_option maxRecDepth 100000 in
set_option maxHeartbeats 2000000 in
theorem clone8_ma   : VM Tryz.prog 23 ([nilv]) ([]) (intsF .i8 []) ([]) := by
  exact VM.run (fn := Tryz.f23) (W := [.r [] [], .r [] [], .br true, .r [] []]) (G := [.weak 0 (AV.fs 1 []), .sort]) Tryz.func23 (by kernel_rfl) (.c (show true = true by with_reducible rfl) <| .c (show Weak (AV.lit (Value.slice none 0 0)) (AV.fs 1 []) from (Weak.nilf _)) <| .n)

set_option maxRecDepth 100000 in
set_option maxHeartbeats 2000000 in
theorem clone8_mb (a : Addr) (cap : Nat) (h : cap ≤ maxLen) : VM Tryz.prog 23 ([.lit (.slice (some a) 0 cap)]) ([]) (intsF .i8 []) ([]) := by
  exact VM.run (fn := Tryz.f23) (W := [.r [] [], .r [] [], .br false, .r [] [.code Exit.normal (VS.mk [AV.sl 1 []] [])]]) (G := [.frf 7, .sort]) Tryz.func23 (by kernel_rfl) (.c (show false = false by with_reducible rfl) <| .c (show Weak (AV.lit (Value.slice (some a) 0 cap)) (AV.sl 1 []) from (Weak.empty _ _ (by assumption))) <| .c (show ((0 : Nat) + (0 : Nat)) * (1 : Nat) ≤ (140737488355328 : Nat) by omega) <| .c (show (0 : Nat) + (0 : Nat) ≤ (9223372036854775807 : Nat) by omega) <| .n)

set_option maxRecDepth 100000 in
set_option maxHeartbeats 2000000 in
theorem clone8_mc (l : List Int) (h : l ≠ []) (hl : l.length ≤ 1000000) : VM Tryz.prog 23 ([ints .i8 l]) ([]) (intsF .i8 l) ([]) := by
  exact VM.run (fn := Tryz.f23) (W := [.r [] [], .r [] [], .br false, .r [] []]) (G := [.frf 7, .weak 0 (AV.fs 1 (List.map (row1 IntKind.i8) l)), .sort]) Tryz.func23 (by kernel_rfl) (.c (show List.map (row1 IntKind.i8) l ≠ [] by (simp; omega)) <| .c (show false = false by with_reducible rfl) <| .c (show (0 + (List.map (row1 IntKind.i8) l).length) * 1 ≤ 140737488355328 by (simp; omega)) <| .c (show 0 + (List.map (row1 IntKind.i8) l).length ≤ 9223372036854775807 by (simp; omega)) <| .c (show Weak (AV.fs 1 ([] ++ List.map (row1 IntKind.i8) l)) (AV.fs 1 (List.map (row1 IntKind.i8) l)) from (Weak.rowsF (rows_to (row1 IntKind.i8) (r := [] ++ List.map (row1 IntKind.i8) l) (l := [] ++ l) (m := l) (by first | (simp only [List.map_append, List.map_cons, List.map_nil, List.map_set, List.map_replicate, List.map_take, List.map_drop]; done) | rfl | (simp only [List.map_append, List.map_cons, List.map_nil, List.map_set, List.map_replicate, List.map_take, List.map_drop]; rfl)) (show ([] ++ l) = (l) from (by (simp; done)))))) <| .n)
theorem clone8_f (l : List Int) (hl : l.length ≤ 1000000) : VC Tryz.prog 23 [ints .i8 l] (intsF .i8 l) := VC.ofM <| by
  cases l with
  | nil => exact VM.empty1 clone8_ma fun a cap h => clone8_mb a cap h
  | cons x l => exact clone8_mc _ (by simp) hl
set_option maxRecDepth 100000 in
set_option maxHeartbeats 2000000 in
theorem clone32_ma   : VM Tryz.prog 24 ([nilv]) ([]) (intsF .i32 []) ([]) := by
  exact VM.run (fn := Tryz.f24) (W := [.r [] [], .r [] [], .br true, .r [] []]) (G := [.weak 0 (AV.fs 1 []), .sort]) Tryz.func24 (by kernel_rfl) (.c (show true = true by with_reducible rfl) <| .c (show Weak (AV.lit (Value.slice none 0 0)) (AV.fs 1 []) from (Weak.nilf _)) <| .n)

set_option maxRecDepth 100000 in
set_option maxHeartbeats 2000000 in
theorem clone32_mb (a : Addr) (cap : Nat) (h : cap ≤ maxLen) : VM Tryz.prog 24 ([.lit (.slice (some a) 0 cap)]) ([]) (intsF .i32 []) ([]) := by
  exact VM.run (fn := Tryz.f24) (W := [.r [] [], .r [] [], .br false, .r [] [.code Exit.normal (VS.mk [AV.sl 1 []] [])]]) (G := [.frf 7, .sort]) Tryz.func24 (by kernel_rfl) (.c (show false = false by with_reducible rfl) <| .c (show Weak (AV.lit (Value.slice (some a) 0 cap)) (AV.sl 1 []) from (Weak.empty _ _ (by assumption))) <| .c (show ((0 : Nat) + (0 : Nat)) * (4 : Nat) ≤ (140737488355328 : Nat) by omega) <| .c (show (0 : Nat) + (0 : Nat) ≤ (9223372036854775807 : Nat) by omega) <| .n)

set_option maxRecDepth 100000 in
set_option maxHeartbeats 2000000 in
theorem clone32_mc (l : List Int) (h : l ≠ []) (hl : l.length ≤ 1000000) : VM Tryz.prog 24 ([ints .i32 l]) ([]) (intsF .i32 l) ([]) := by
  exact VM.run (fn := Tryz.f24) (W := [.r [] [], .r [] [], .br false, .r [] []]) (G := [.frf 7, .weak 0 (AV.fs 1 (List.map (row1 IntKind.i32) l)), .sort]) Tryz.func24 (by kernel_rfl) (.c (show List.map (row1 IntKind.i32) l ≠ [] by (simp; omega)) <| .c (show false = false by with_reducible rfl) <| .c (show (0 + (List.map (row1 IntKind.i32) l).length) * 4 ≤ 140737488355328 by (simp; omega)) <| .c (show 0 + (List.map (row1 IntKind.i32) l).length ≤ 9223372036854775807 by (simp; omega)) <| .c (show Weak (AV.fs 1 ([] ++ List.map (row1 IntKind.i32) l)) (AV.fs 1 (List.map (row1 IntKind.i32) l)) from (Weak.rowsF (rows_to (row1 IntKind.i32) (r := [] ++ List.map (row1 IntKind.i32) l) (l := [] ++ l) (m := l) (by first | (simp only [List.map_append, List.map_cons, List.map_nil, List.map_set, List.map_replicate, List.map_take, List.map_drop]; done) | rfl | (simp only [List.map_append, List.map_cons, List.map_nil, List.map_set, List.map_replicate, List.map_take, List.map_drop]; rfl)) (show ([] ++ l) = (l) from (by (simp; done)))))) <| .n)
theorem clone32_f (l : List Int) (hl : l.length ≤ 1000000) : VC Tryz.prog 24 [ints .i32 l] (intsF .i32 l) := VC.ofM <| by
  cases l with
  | nil => exact VM.empty1 clone32_ma fun a cap h => clone32_mb a cap h
  | cons x l => exact clone32_mc _ (by simp) hl
set_option maxRecDepth 100000 in
set_option maxHeartbeats 2000000 in
theorem cloneN_ma   : VM Tryz.prog 22 ([nilv]) ([]) (.own 951) ([(951, .slc 45 19 [])]) := by
  exact VM.run (fn := Tryz.f22) (W := [.r [] [], .r [] [], .br true, .r [] []]) (G := [.nils 0 951 45 19, .sort]) Tryz.func22 (by kernel_rfl) (.c (show true = true by with_reducible rfl) <| .n)

set_option maxRecDepth 100000 in
set_option maxHeartbeats 2000000 in
theorem cloneN_mb (a : Addr) (cap : Nat) (h : cap ≤ maxLen) : VM Tryz.prog 22 ([.lit (.slice (some a) 0 cap)]) ([]) (.own 951) ([(951, .slc 45 19 [])]) := by
  exact VM.run (fn := Tryz.f22) (W := [.r [] [], .r [] [], .br false, .r [] [.code Exit.normal (VS.mk [AV.sl 19 []] [])]]) (G := [.ren 7 951, .sort]) Tryz.func22 (by kernel_rfl) (.c (show false = false by with_reducible rfl) <| .c (show Weak (AV.lit (Value.slice (some a) 0 cap)) (AV.sl 19 []) from (Weak.empty _ _ (by assumption))) <| .c (show ((0 : Nat) + (0 : Nat)) * (168 : Nat) ≤ (140737488355328 : Nat) by omega) <| .c (show (0 : Nat) + (0 : Nat) ≤ (9223372036854775807 : Nat) by omega) <| .n)

set_option maxRecDepth 100000 in
set_option maxHeartbeats 2000000 in
theorem cloneN_mc (l : List Nod) (h : l.map nodC ≠ []) (hl : l.length ≤ 1000) : VM Tryz.prog 22 ([.sl 19 (l.map nodC)]) ([]) (.own 951) ([(951, .slc 45 19 (l.map nodC))]) := by
  exact VM.run (fn := Tryz.f22) (W := [.r [] [], .r [] [], .br false, .r [] []]) (G := [.ren 7 951, .blk 951 (Blk.slc 45 19 (List.map nodC l)), .sort]) Tryz.func22 (by kernel_rfl) (.c h <| .c (show false = false by with_reducible rfl) <| .c (show (0 + (List.map nodC l).length) * 168 ≤ 140737488355328 by (simp; omega)) <| .c (show 0 + (List.map nodC l).length ≤ 9223372036854775807 by (simp; omega)) <| .c (show BlkW (Blk.slc 45 19 ([] ++ List.map nodC l)) (Blk.slc 45 19 (List.map nodC l)) from (BlkW.rows (e := 45) (z := 19) (rows_to (nodC) (r := [] ++ List.map nodC l) (l := [] ++ l) (m := l) (by first | (simp only [List.map_append, List.map_cons, List.map_nil, List.map_set, List.map_replicate, List.map_take, List.map_drop]; done) | rfl | (simp only [List.map_append, List.map_cons, List.map_nil, List.map_set, List.map_replicate, List.map_take, List.map_drop]; rfl) | (simp only [List.map_append, List.map_cons, List.map_nil, List.map_set, List.map_replicate, List.map_take, List.map_drop, nodC, ints]; done)) (show ([] ++ l) = (l) from (by (simp; done)))))) <| .n)
theorem cloneN_m (l : List Nod) (hl : l.length ≤ 1000) : VM Tryz.prog 22 [.sl 19 (l.map nodC)] [] (.own 951) [(951, .slc 45 19 (l.map nodC))] := by
  cases l with
  | nil => exact VM.empty1 cloneN_ma fun a cap h => cloneN_mb a cap h
  | cons x l => exact cloneN_mc _ (by simp) hl
set_option maxRecDepth 100000 in
set_option maxHeartbeats 2000000 in
theorem cloneB_ma   : VM Tryz.prog 12 ([nilv]) ([]) (.own 951) ([(951, .slc 40 5 [])]) := by
  exact VM.run (fn := Tryz.f12) (W := [.r [] [], .r [] [], .br true, .r [] []]) (G := [.nils 0 951 40 5, .sort]) Tryz.func12 (by kernel_rfl) (.c (show true = true by with_reducible rfl) <| .n)

set_option maxRecDepth 100000 in
set_option maxHeartbeats 2000000 in
theorem cloneB_mb (a : Addr) (cap : Nat) (h : cap ≤ maxLen) : VM Tryz.prog 12 ([.lit (.slice (some a) 0 cap)]) ([]) (.own 951) ([(951, .slc 40 5 [])]) := by
  exact VM.run (fn := Tryz.f12) (W := [.r [] [], .r [] [], .br false, .r [] [.code Exit.normal (VS.mk [AV.sl 5 []] [])]]) (G := [.ren 7 951, .sort]) Tryz.func12 (by kernel_rfl) (.c (show false = false by with_reducible rfl) <| .c (show Weak (AV.lit (Value.slice (some a) 0 cap)) (AV.sl 5 []) from (Weak.empty _ _ (by assumption))) <| .c (show ((0 : Nat) + (0 : Nat)) * (88 : Nat) ≤ (140737488355328 : Nat) by omega) <| .c (show (0 : Nat) + (0 : Nat) ≤ (9223372036854775807 : Nat) by omega) <| .n)

set_option maxRecDepth 100000 in
set_option maxHeartbeats 2000000 in
theorem cloneB_mc (l : List Blc) (h : l.map blcC ≠ []) (hl : l.length ≤ 1000) : VM Tryz.prog 12 ([.sl 5 (l.map blcC)]) ([]) (.own 951) ([(951, .slc 40 5 (l.map blcC))]) := by
  exact VM.run (fn := Tryz.f12) (W := [.r [] [], .r [] [], .br false, .r [] []]) (G := [.ren 7 951, .blk 951 (Blk.slc 40 5 (List.map blcC l)), .sort]) Tryz.func12 (by kernel_rfl) (.c h <| .c (show false = false by with_reducible rfl) <| .c (show (0 + (List.map blcC l).length) * 88 ≤ 140737488355328 by (simp; omega)) <| .c (show 0 + (List.map blcC l).length ≤ 9223372036854775807 by (simp; omega)) <| .c (show BlkW (Blk.slc 40 5 ([] ++ List.map blcC l)) (Blk.slc 40 5 (List.map blcC l)) from (BlkW.rows (e := 40) (z := 5) (rows_to (blcC) (r := [] ++ List.map blcC l) (l := [] ++ l) (m := l) (by first | (simp only [List.map_append, List.map_cons, List.map_nil, List.map_set, List.map_replicate, List.map_take, List.map_drop]; done) | rfl | (simp only [List.map_append, List.map_cons, List.map_nil, List.map_set, List.map_replicate, List.map_take, List.map_drop]; rfl) | (simp only [List.map_append, List.map_cons, List.map_nil, List.map_set, List.map_replicate, List.map_take, List.map_drop, blcC, ints]; done)) (show ([] ++ l) = (l) from (by (simp; done)))))) <| .n)
theorem cloneB_m (l : List Blc) (hl : l.length ≤ 1000) : VM Tryz.prog 12 [.sl 5 (l.map blcC)] [] (.own 951) [(951, .slc 40 5 (l.map blcC))] := by
  cases l with
  | nil => exact VM.empty1 cloneB_ma fun a cap h => cloneB_mb a cap h
  | cons x l => exact cloneB_mc _ (by simp) hl
set_option maxRecDepth 100000 in
set_option maxHeartbeats 2000000 in
theorem cloneM_ma   : VM Tryz.prog 11 ([nilv]) ([]) (.own 951) ([(951, .slc 33 1 [])]) := by
  exact VM.run (fn := Tryz.f11) (W := [.r [] [], .r [] [], .br true, .r [] []]) (G := [.nils 0 951 33 1, .sort]) Tryz.func11 (by kernel_rfl) (.c (show true = true by with_reducible rfl) <| .n)

set_option maxRecDepth 100000 in
set_option maxHeartbeats 2000000 in
theorem cloneM_mb (a : Addr) (cap : Nat) (h : cap ≤ maxLen) : VM Tryz.prog 11 ([.lit (.slice (some a) 0 cap)]) ([]) (.own 951) ([(951, .slc 33 1 [])]) := by
  exact VM.run (fn := Tryz.f11) (W := [.r [] [], .r [] [], .br false, .r [] [.code Exit.normal (VS.mk [AV.sl 1 []] [])]]) (G := [.ren 7 951, .sort]) Tryz.func11 (by kernel_rfl) (.c (show false = false by with_reducible rfl) <| .c (show Weak (AV.lit (Value.slice (some a) 0 cap)) (AV.sl 1 []) from (Weak.empty _ _ (by assumption))) <| .c (show ((0 : Nat) + (0 : Nat)) * (24 : Nat) ≤ (140737488355328 : Nat) by omega) <| .c (show (0 : Nat) + (0 : Nat) ≤ (9223372036854775807 : Nat) by omega) <| .n)

set_option maxRecDepth 100000 in
set_option maxHeartbeats 2000000 in
theorem cloneM_mc (l : List Mdl) (h : l.map mdlC ≠ []) (hl : l.length ≤ 1000) : VM Tryz.prog 11 ([.sl 1 (l.map mdlC)]) ([]) (.own 951) ([(951, .slc 33 1 (l.map mdlC))]) := by
  exact VM.run (fn := Tryz.f11) (W := [.r [] [], .r [] [], .br false, .r [] []]) (G := [.ren 7 951, .blk 951 (Blk.slc 33 1 (List.map mdlC l)), .sort]) Tryz.func11 (by kernel_rfl) (.c h <| .c (show false = false by with_reducible rfl) <| .c (show (0 + (List.map mdlC l).length) * 24 ≤ 140737488355328 by (simp; omega)) <| .c (show 0 + (List.map mdlC l).length ≤ 9223372036854775807 by (simp; omega)) <| .c (show BlkW (Blk.slc 33 1 ([] ++ List.map mdlC l)) (Blk.slc 33 1 (List.map mdlC l)) from (BlkW.rows (e := 33) (z := 1) (rows_to (mdlC) (r := [] ++ List.map mdlC l) (l := [] ++ l) (m := l) (by first | (simp only [List.map_append, List.map_cons, List.map_nil, List.map_set, List.map_replicate, List.map_take, List.map_drop]; done) | rfl | (simp only [List.map_append, List.map_cons, List.map_nil, List.map_set, List.map_replicate, List.map_take, List.map_drop]; rfl) | (simp only [List.map_append, List.map_cons, List.map_nil, List.map_set, List.map_replicate, List.map_take, List.map_drop, mdlC, ints]; done)) (show ([] ++ l) = (l) from (by (simp; done)))))) <| .n)
theorem cloneM_m (l : List Mdl) (hl : l.length ≤ 1000) : VM Tryz.prog 11 [.sl 1 (l.map mdlC)] [] (.own 951) [(951, .slc 33 1 (l.map mdlC))] := by
  cases l with
  | nil => exact VM.empty1 cloneM_ma fun a cap h => cloneM_mb a cap h
  | cons x l => exact cloneM_mc _ (by simp) hl
end Go.Proofs.YtdmkhinckljddaaGreat

/- A block of its own, that nobody else holds. No condition. -/
namespace Go.Proofs.YtdmkhinckljddaaGreat
open Go.RowKit
set_option linter.unusedSimpArgs false
set_option linter.unusedVariables false
set_option linter.unnecessarySimpa false

abbrev nodCF (n : Nod) : List AV := [i64 n.kd, i64 n.na, i64 n.nb, i64 n.nk, i64 n.ns, i64 n.np, i64 n.no, i8 n.za, i8 n.zb, intsF .i8 n.w, intsF .i32 n.b, i32 n.qm, i64 n.qs, i8 n.qz, i32 n.rm, i64 n.rs, i8 n.rz, i8 n.lo, i8 n.hi]
abbrev blcCF (x : Blc) : List AV := [.fs 19 (x.n.map nodCF), bv x.ex, intsF .i8 x.w, intsF .i32 x.b, i32 x.nd]
abbrev mdlCF (m : Mdl) : List AV := [.fs 5 (m.l.map blcCF)]
abbrev bunCF (u : Bun) : List AV := [i64 u.h, i64 u.x, i64 u.c, i64 u.cl, .fs 1 (u.m.map mdlCF)]
instance unF_nod : UnF nodCF nodC := ⟨fun n => .cons (.refl _) (.cons (.refl _) (.cons (.refl _) (.cons (.refl _) (.cons (.refl _) (.cons (.refl _) (.cons (.refl _) (.cons (.refl _) (.cons (.refl _)
  (.cons (.un _ _ _) (.cons (.un _ _ _) (.refl _)))))))))))⟩
instance unF_blc : UnF blcCF blcC := ⟨fun x => .cons (.un _ _ _) (.cons (.refl _) (.cons (.un _ _ _) (.cons (.un _ _ _) (.refl _))))⟩
instance unF_mdl : UnF mdlCF mdlC := ⟨fun m => .cons (.un _ _ _) (.refl _)⟩
/-- The first k are as f, the others as g. -/
@[irreducible] def mixR {α : Type} (f g : α → List AV) (l : List α) (k : Nat) : List (List AV) := (l.take k).map f ++ (l.drop k).map g
theorem mixR_len {α : Type} (f g : α → List AV) (l : List α) (k : Nat) : (mixR f g l k).length = l.length := by unfold mixR; simp; omega
theorem mixR_get {α : Type} [Inhabited α] {f g : α → List AV} {l : List α} {k : Nat} (h : k < l.length) : (mixR f g l k)[k]? = some (g (l.getD k default)) := by
  unfold mixR
  rw [List.getElem?_append_right (by simp; omega), List.getElem?_map, List.getElem?_drop]
  simp [List.getElem?_eq_getElem h, Nat.min_eq_left (Nat.le_of_lt h)]
theorem mixR_set {α : Type} [Inhabited α] {f g : α → List AV} {l : List α} {k : Nat} (h : k < l.length) : (mixR f g l k).set k (f (l.getD k default)) = mixR f g l (k + 1) := by
  unfold mixR
  have e : l.drop k = l[k] :: l.drop (k + 1) := List.drop_eq_getElem_cons h
  have e2 : l.take (k + 1) = l.take k ++ [l[k]] := List.take_succ_eq_append_getElem h
  have e3 : (l.map f |>.take k).length = k := by simp [Nat.min_eq_left (Nat.le_of_lt h)]
  rw [e, e2, List.map_cons, List.map_append, List.set_append_right _ _ (by simp; omega), List.length_map, List.length_take, Nat.min_eq_left (Nat.le_of_lt h), Nat.sub_self, List.set_cons_zero]
  simp [List.getD_eq_getElem?_getD, List.getElem?_eq_getElem h]
theorem mixR_set1 {α : Type} [Inhabited α] {f g : α → List AV} {l : List α} {k : Nat} (h : k < l.length) : (mixR f g l k).set (k : Int).toNat (f (l.getD k default)) = mixR f g l (k + 1) := by
  rw [Int.toNat_natCast, mixR_set h]
theorem mixR_set2 {α : Type} [Inhabited α] {f g : α → List AV} {l : List α} {k : Nat} (h : k < l.length) (r : List AV) : ((mixR f g l k).set (k : Int).toNat r).set (k : Int).toNat (f (l.getD k default)) = mixR f g l (k + 1) := by
  rw [Int.toNat_natCast, List.set_set, mixR_set h]
theorem mixR_0 {α : Type} (f g : α → List AV) (l : List α) : mixR f g l 0 = l.map g := by unfold mixR; simp
theorem mixR_n {α : Type} (f g : α → List AV) (l : List α) : mixR f g l l.length = l.map f := by unfold mixR; simp
set_option maxRecDepth 100000 in
set_option maxHeartbeats 2000000 in
theorem chead_f (w b : List Int) (nd : Int) (wl : w.length ≤ 100000) (bl : b.length ≤ 100000) : VC Tryz.prog 25 ([.agg [ints .i8 w, ints .i32 b, i32 nd]]) (.agg [intsF .i8 w, intsF .i32 b, i32 nd]) := by
  have oz0 := @clone8_f (w) (by omega)
  have oz1 := @clone32_f (b) (by omega)
  exact VC.run (fn := Tryz.f25) (W := [.r [] [], .r [] [.callr (rO oz0), .callr (rO oz1)], .r [] []]) Tryz.func25 (by kernel_rfl) (.c oz0 <| .c oz1 <| .n)

noncomputable def cblk_fl_I (x : Blc) (k : Nat) : VS := stt 38 [(1, .ptr 1 0 0), (2, .ptr 2 0 0), (3, .own 900), (9, .own 900), (10, i64 (x.n.map nodC).length), (11, i64 k)] [(1, .var (blcC x)), (2, .var [.any, .any, .any, .any, .any]), (900, .slc 45 19 (mixR nodCF nodC x.n k))]
noncomputable def cblk_fl_Z (x : Blc) : VS := cblk_fl_I x (x.n.length)
set_option maxRecDepth 100000 in
set_option maxHeartbeats 2000000 in
theorem cblk_fl_s (x : Blc) (sm : x.Sz) (k : Nat) (hk : k < x.n.length) : VT Tryz.prog (fnC Tryz.f13 [1, 1, 0, 1, 0, 0]) (cblk_fl_I x k) .normal (cblk_fl_I x (k + 1)) := by
  have q := getD_in sm.n hk
  have q1 := sm.l
  have q2 := mixR_get (f := nodCF) (g := nodC) hk
  have q3 := mixR_len nodCF nodC x.n k
  have oz1 := (show 0 ≤ (↑k : Int) by omega)
  have oz2 := (show (↑k : Int) < (↑(mixR nodCF nodC x.n k).length : Int) by omega)
  have oz3 := (show (mixR nodCF nodC x.n k)[(↑k : Int).toNat]? = some [i64 (x.n.getD k default).kd, i64 (x.n.getD k default).na, i64 (x.n.getD k default).nb, i64 (x.n.getD k default).nk, i64 (x.n.getD k default).ns, i64 (x.n.getD k default).np, i64 (x.n.getD k default).no, i8 (x.n.getD k default).za, i8 (x.n.getD k default).zb, AV.sl 1 (List.map (row1 IntKind.i8) (x.n.getD k default).w), AV.sl 1 (List.map (row1 IntKind.i32) (x.n.getD k default).b), i32 (x.n.getD k default).qm, i64 (x.n.getD k default).qs, i8 (x.n.getD k default).qz, i32 (x.n.getD k default).rm, i64 (x.n.getD k default).rs, i8 (x.n.getD k default).rz, i8 (x.n.getD k default).lo, i8 (x.n.getD k default).hi] by first | with_reducible assumption | assumption)
  have oz4 := @clone8_f ((x.n.getD k default).w) (by omega)
  have oz5 := @clone32_f ((x.n.getD k default).b) (by omega)
  have oz11 := (show ((mixR nodCF nodC x.n k).set (↑k : Int).toNat [i64 (x.n.getD k default).kd, i64 (x.n.getD k default).na, i64 (x.n.getD k default).nb, i64 (x.n.getD k default).nk, i64 (x.n.getD k default).ns, i64 (x.n.getD k default).np, i64 (x.n.getD k default).no, i8 (x.n.getD k default).za, i8 (x.n.getD k default).zb, AV.fs 1 (List.map (row1 IntKind.i8) (x.n.getD k default).w), AV.sl 1 (List.map (row1 IntKind.i32) (x.n.getD k default).b), i32 (x.n.getD k default).qm, i64 (x.n.getD k default).qs, i8 (x.n.getD k default).qz, i32 (x.n.getD k default).rm, i64 (x.n.getD k default).rs, i8 (x.n.getD k default).rz, i8 (x.n.getD k default).lo, i8 (x.n.getD k default).hi])[(↑k : Int).toNat]? = some [i64 (x.n.getD k default).kd, i64 (x.n.getD k default).na, i64 (x.n.getD k default).nb, i64 (x.n.getD k default).nk, i64 (x.n.getD k default).ns, i64 (x.n.getD k default).np, i64 (x.n.getD k default).no, i8 (x.n.getD k default).za, i8 (x.n.getD k default).zb, AV.fs 1 (List.map (row1 IntKind.i8) (x.n.getD k default).w), AV.sl 1 (List.map (row1 IntKind.i32) (x.n.getD k default).b), i32 (x.n.getD k default).qm, i64 (x.n.getD k default).qs, i8 (x.n.getD k default).qz, i32 (x.n.getD k default).rm, i64 (x.n.getD k default).rs, i8 (x.n.getD k default).rz, i8 (x.n.getD k default).lo, i8 (x.n.getD k default).hi] from (get_set (by omega) (by omega)))
  exact VT.run (W := [.r [] [], .br true, .r [] [.row (sO oz3)], .r [] [.callr (rO oz4), .callr (rO oz5), .row (sO oz3), .row (sO oz11)], .r [] [.n ((↑k : Int) + 1)]]) (G := [.any (rg [(4, 2), (12, 19)]), .drop [5], .weak 11 (i64 (↑(k + 1) : Int)), .blk 900 (Blk.slc 45 19 (mixR nodCF nodC x.n (k + 1))), .sort]) (by kernel_rfl) (.c (show decide ((↑k : Int) < (↑(List.map nodC x.n).length : Int)) = true by (simp; omega)) <| .c oz1 <| .c oz2 <| .c oz3 <| .c oz4 <| .c oz5 <| .c oz1 <| .c oz2 <| .c oz3 <| .c oz1 <| .c (show (↑k : Int) < (↑((mixR nodCF nodC x.n k).set (↑k : Int).toNat [i64 (x.n.getD k default).kd, i64 (x.n.getD k default).na, i64 (x.n.getD k default).nb, i64 (x.n.getD k default).nk, i64 (x.n.getD k default).ns, i64 (x.n.getD k default).np, i64 (x.n.getD k default).no, i8 (x.n.getD k default).za, i8 (x.n.getD k default).zb, AV.fs 1 (List.map (row1 IntKind.i8) (x.n.getD k default).w), AV.sl 1 (List.map (row1 IntKind.i32) (x.n.getD k default).b), i32 (x.n.getD k default).qm, i64 (x.n.getD k default).qs, i8 (x.n.getD k default).qz, i32 (x.n.getD k default).rm, i64 (x.n.getD k default).rs, i8 (x.n.getD k default).rz, i8 (x.n.getD k default).lo, i8 (x.n.getD k default).hi]).length : Int) by (simp; omega)) <| .c oz11 <| .c (IntWalk.i64_in ((↑k : Int) + 1) (by omega)) <| .c (Weak.int (k := .i64) (show (((↑k : Int) + 1) : Int) = ((↑(k + 1) : Int)) from (by omega))) <| .c (show BlkW (Blk.slc 45 19 (((mixR nodCF nodC x.n k).set (↑k : Int).toNat [i64 (x.n.getD k default).kd, i64 (x.n.getD k default).na, i64 (x.n.getD k default).nb, i64 (x.n.getD k default).nk, i64 (x.n.getD k default).ns, i64 (x.n.getD k default).np, i64 (x.n.getD k default).no, i8 (x.n.getD k default).za, i8 (x.n.getD k default).zb, AV.fs 1 (List.map (row1 IntKind.i8) (x.n.getD k default).w), AV.sl 1 (List.map (row1 IntKind.i32) (x.n.getD k default).b), i32 (x.n.getD k default).qm, i64 (x.n.getD k default).qs, i8 (x.n.getD k default).qz, i32 (x.n.getD k default).rm, i64 (x.n.getD k default).rs, i8 (x.n.getD k default).rz, i8 (x.n.getD k default).lo, i8 (x.n.getD k default).hi]).set (↑k : Int).toNat [i64 (x.n.getD k default).kd, i64 (x.n.getD k default).na, i64 (x.n.getD k default).nb, i64 (x.n.getD k default).nk, i64 (x.n.getD k default).ns, i64 (x.n.getD k default).np, i64 (x.n.getD k default).no, i8 (x.n.getD k default).za, i8 (x.n.getD k default).zb, AV.fs 1 (List.map (row1 IntKind.i8) (x.n.getD k default).w), AV.fs 1 (List.map (row1 IntKind.i32) (x.n.getD k default).b), i32 (x.n.getD k default).qm, i64 (x.n.getD k default).qs, i8 (x.n.getD k default).qz, i32 (x.n.getD k default).rm, i64 (x.n.getD k default).rs, i8 (x.n.getD k default).rz, i8 (x.n.getD k default).lo, i8 (x.n.getD k default).hi])) (Blk.slc 45 19 (mixR nodCF nodC x.n (k + 1))) from (BlkW.rows (e := 45) (z := 19) (show (((mixR nodCF nodC x.n k).set (↑k : Int).toNat [i64 (x.n.getD k default).kd, i64 (x.n.getD k default).na, i64 (x.n.getD k default).nb, i64 (x.n.getD k default).nk, i64 (x.n.getD k default).ns, i64 (x.n.getD k default).np, i64 (x.n.getD k default).no, i8 (x.n.getD k default).za, i8 (x.n.getD k default).zb, AV.fs 1 (List.map (row1 IntKind.i8) (x.n.getD k default).w), AV.sl 1 (List.map (row1 IntKind.i32) (x.n.getD k default).b), i32 (x.n.getD k default).qm, i64 (x.n.getD k default).qs, i8 (x.n.getD k default).qz, i32 (x.n.getD k default).rm, i64 (x.n.getD k default).rs, i8 (x.n.getD k default).rz, i8 (x.n.getD k default).lo, i8 (x.n.getD k default).hi]).set (↑k : Int).toNat [i64 (x.n.getD k default).kd, i64 (x.n.getD k default).na, i64 (x.n.getD k default).nb, i64 (x.n.getD k default).nk, i64 (x.n.getD k default).ns, i64 (x.n.getD k default).np, i64 (x.n.getD k default).no, i8 (x.n.getD k default).za, i8 (x.n.getD k default).zb, AV.fs 1 (List.map (row1 IntKind.i8) (x.n.getD k default).w), AV.fs 1 (List.map (row1 IntKind.i32) (x.n.getD k default).b), i32 (x.n.getD k default).qm, i64 (x.n.getD k default).qs, i8 (x.n.getD k default).qz, i32 (x.n.getD k default).rm, i64 (x.n.getD k default).rs, i8 (x.n.getD k default).rz, i8 (x.n.getD k default).lo, i8 (x.n.getD k default).hi]) = (mixR nodCF nodC x.n (k + 1)) from (by (exact mixR_set2 hk _))))) <| .n)
set_option maxRecDepth 100000 in
set_option maxHeartbeats 2000000 in
theorem cblk_fl_e (x : Blc) (sm : x.Sz) : VT Tryz.prog (fnC Tryz.f13 [1, 1, 0, 1, 0, 0]) (cblk_fl_I x (x.n.length)) (.exit 0) (cblk_fl_Z x) := by
  have q1 := sm.l
  exact VT.run (W := [.r [] [], .br false]) (G := [.any [12], .sort]) (by kernel_rfl) (.c (show decide ((↑x.n.length : Int) < (↑(List.map nodC x.n).length : Int)) = false by (simp; done)) <| .n)
theorem cblk_fl (x : Blc) (sm : x.Sz) : VT Tryz.prog (fnC Tryz.f13 [1, 1, 0, 1, 0]) (cblk_fl_I x 0) (.exit 0) (cblk_fl_Z x) :=
  VT.loop (fun k => cblk_fl_I x k) (x.n.length) (fun k hk => cblk_fl_s x sm k hk) (cblk_fl_e x sm) (by intro h; cases h)

set_option maxRecDepth 100000 in
set_option maxHeartbeats 2000000 in
theorem cblk_m (x : Blc) (sm : x.Sz) : VM Tryz.prog 13 ([blc x]) ([]) (.agg (blcCF x)) ([]) := by
  obtain ⟨q1, q2, q3, q4⟩ := id sm
  have oz0 := @cloneN_m (x.n) q1
  have oz4 := @cblk_fl (x) sm
  have oz5 := @chead_f (x.w) (x.b) (x.nd) q3 q4
  exact VM.run (fn := Tryz.f13) (W := [.r [] [], .r [] [.callm [] [(951, 20000)] (rM oz0) (oM oz0)], .r [] [], .code [.any [0, 6, 7, 8], .ren 20000 900, .weak 11 (i64 (↑0 : Int)), .blk 2 (Blk.var [AV.any, AV.any, AV.any, AV.any, AV.any]), .blk 900 (Blk.slc 45 19 (mixR nodCF nodC x.n 0)), .sort] (Exit.exit 0) (zO oz4), .r [] [.callr (rO oz5)]]) (G := [.frf 900, .drop [1, 2], .weak 0 (AV.agg [AV.fs 19 (List.map nodCF x.n), bv x.ex, AV.fs 1 (List.map (row1 IntKind.i8) x.w), AV.fs 1 (List.map (row1 IntKind.i32) x.b), i32 x.nd]), .sort]) Tryz.func13 (by kernel_rfl) (.c oz0 <| .c (Weak.int (k := .i64) (show ((0) : Int) = ((↑0 : Int)) from (by omega))) <| .c (show BlkW (Blk.var [AV.lit (Value.slice none (0 : Nat) (0 : Nat)), bv false, AV.lit (Value.slice none (0 : Nat) (0 : Nat)), AV.lit (Value.slice none (0 : Nat) (0 : Nat)), i32 (0 : Int)]) (Blk.var [AV.any, AV.any, AV.any, AV.any, AV.any]) from (BlkW.var (m := [AV.any, AV.any, AV.any, AV.any, AV.any]) (.cons (Weak.any _) (.cons (Weak.any _) (.cons (Weak.any _) (.cons (Weak.any _) (.cons (Weak.any _) .nil))))))) <| .c (show BlkW (Blk.slc 45 19 (List.map nodC x.n)) (Blk.slc 45 19 (mixR nodCF nodC x.n 0)) from (BlkW.rows (e := 45) (z := 19) (show (List.map nodC x.n) = (mixR nodCF nodC x.n 0) from (by (exact (mixR_0 _ _ _).symm))))) <| .c oz4 <| .c oz5 <| .c (show Weak (AV.agg [AV.fs 19 (mixR nodCF nodC x.n x.n.length), bv x.ex, AV.fs 1 (List.map (row1 IntKind.i8) x.w), AV.fs 1 (List.map (row1 IntKind.i32) x.b), i32 x.nd]) (AV.agg [AV.fs 19 (List.map nodCF x.n), bv x.ex, AV.fs 1 (List.map (row1 IntKind.i8) x.w), AV.fs 1 (List.map (row1 IntKind.i32) x.b), i32 x.nd]) from (show Weak (AV.agg [AV.fs 19 (mixR nodCF nodC x.n x.n.length), bv x.ex, AV.fs 1 (List.map (row1 IntKind.i8) x.w), AV.fs 1 (List.map (row1 IntKind.i32) x.b), i32 x.nd]) (AV.agg [AV.fs 19 (List.map nodCF x.n), bv x.ex, AV.fs 1 (List.map (row1 IntKind.i8) x.w), AV.fs 1 (List.map (row1 IntKind.i32) x.b), i32 x.nd]) from (Weak.agg (.cons (Weak.rowsF (show (mixR nodCF nodC x.n x.n.length) = (List.map nodCF x.n) from (by (exact mixR_n _ _ _)))) (.cons (.refl _) (.cons (.refl _) (.cons (.refl _) (.cons (.refl _) .nil)))))))) <| .n)
theorem cblk_f (x : Blc) (sm : x.Sz) : VC Tryz.prog 13 [blc x] (.agg (blcCF x)) := .ofM (cblk_m x sm)
end Go.Proofs.YtdmkhinckljddaaGreat

/- A bundle of its own, that nobody else holds. No condition. -/
namespace Go.Proofs.YtdmkhinckljddaaGreat
open Go.RowKit
set_option linter.unusedSimpArgs false
set_option linter.unusedVariables false
set_option linter.unnecessarySimpa false

theorem mixR_mdl {l : List Mdl} {k : Nat} (h : k < l.length) : (mixR mdlCF mdlC l k).set k [.fs 5 (mixR blcCF blcC (l.getD k default).l (l.getD k default).l.length)] = mixR mdlCF mdlC l (k + 1) := by
  rw [mixR_n]; exact mixR_set h
theorem mixR_mdl1 {l : List Mdl} {k : Nat} (h : k < l.length) : (mixR mdlCF mdlC l k).set (k : Int).toNat [.fs 5 (mixR blcCF blcC (l.getD k default).l (l.getD k default).l.length)] = mixR mdlCF mdlC l (k + 1) := by
  rw [Int.toNat_natCast]; exact mixR_mdl h
noncomputable def copy_fi_I (u : Bun) (I : Int) (l : List Blc) (k : Nat) : VS := stt 47 [(1, .ptr 1 0 0), (2, .ptr 2 0 0), (3, .own 900), (4, i64 I), (5, .ptr 5 0 0), (11, .own 900), (12, i64 (u.m.map mdlC).length), (13, i64 I), (26, .sl 5 (l.map blcC)), (27, i64 (l.map blcC).length), (28, i64 k)] [(1, .var (bunC u)), (2, .var [.any, .any, .any, .any, .any]), (5, .var [.any]), (900, .foc 33 1 (mixR mdlCF mdlC u.m I.toNat) I.toNat [.own 901]), (901, .slc 40 5 (mixR blcCF blcC l k))]
noncomputable def copy_fi_Z (u : Bun) (I : Int) (l : List Blc) : VS := copy_fi_I u I l (l.length)
set_option maxRecDepth 100000 in
set_option maxHeartbeats 2000000 in
theorem copy_fi_s (u : Bun) (I : Int) (l : List Blc) (sz : ∀ x ∈ l, x.Sz) (hl : l.length ≤ 1000) (h0 : 0 ≤ I) (h1 : I < u.m.length) (k : Nat) (hk : k < l.length) : VT Tryz.prog (fnC Tryz.f6 [1, 1, 0, 1, 0, 0, 1, 1, 0, 0, 1, 1, 1, 0, 0]) (copy_fi_I u I l k) .normal (copy_fi_I u I l (k + 1)) := by
  have q1 := getD_in sz hk
  have q3 := mixR_len blcCF blcC l k
  have q4 := mixR_len mdlCF mdlC u.m I.toNat
  have oz1 := (show 0 ≤ (↑k : Int) by omega)
  have oz2 := (map_at (blcC) (default) (l := l) (i := k) hk)
  have oz6 := @cblk_f (l.getD k default) q1
  exact VT.run (W := [.r [] [], .br true, .r [] [.row (sO oz2)], .r [] [.callr (rO oz6), .nat 0], .r [] [.n ((↑k : Int) + 1)]]) (G := [.any (rg [(6, 2), (29, 14)]), .drop [7], .weak 28 (i64 (↑(k + 1) : Int)), .blk 901 (Blk.slc 40 5 (mixR blcCF blcC l (k + 1))), .sort]) (by kernel_rfl) (.c (show decide ((↑k : Int) < (↑(List.map blcC l).length : Int)) = true by (simp; omega)) <| .c oz1 <| .c oz2 <| .c h0 <| .c (show I < (↑(mixR mdlCF mdlC u.m I.toNat).length : Int) by omega) <| .c (show I.toNat = I.toNat by with_reducible rfl) <| .c oz6 <| .c oz1 <| .c (show (↑k : Int) < (↑(mixR blcCF blcC l k).length : Int) by omega) <| .c (show (↑k : Int).toNat < (mixR blcCF blcC l k).length by omega) <| .c (IntWalk.i64_in ((↑k : Int) + 1) (by omega)) <| .c (Weak.int (k := .i64) (show (((↑k : Int) + 1) : Int) = ((↑(k + 1) : Int)) from (by omega))) <| .c (show BlkW (Blk.slc 40 5 ((mixR blcCF blcC l k).set (↑k : Int).toNat [AV.fs 19 (List.map nodCF (l.getD k default).n), bv (l.getD k default).ex, AV.fs 1 (List.map (row1 IntKind.i8) (l.getD k default).w), AV.fs 1 (List.map (row1 IntKind.i32) (l.getD k default).b), i32 (l.getD k default).nd])) (Blk.slc 40 5 (mixR blcCF blcC l (k + 1))) from (BlkW.rows (e := 40) (z := 5) (show ((mixR blcCF blcC l k).set (↑k : Int).toNat [AV.fs 19 (List.map nodCF (l.getD k default).n), bv (l.getD k default).ex, AV.fs 1 (List.map (row1 IntKind.i8) (l.getD k default).w), AV.fs 1 (List.map (row1 IntKind.i32) (l.getD k default).b), i32 (l.getD k default).nd]) = (mixR blcCF blcC l (k + 1)) from (by (exact mixR_set1 hk))))) <| .n)
set_option maxRecDepth 100000 in
set_option maxHeartbeats 2000000 in
theorem copy_fi_e (u : Bun) (I : Int) (l : List Blc) (sz : ∀ x ∈ l, x.Sz) (hl : l.length ≤ 1000) (h0 : 0 ≤ I) (h1 : I < u.m.length) : VT Tryz.prog (fnC Tryz.f6 [1, 1, 0, 1, 0, 0, 1, 1, 0, 0, 1, 1, 1, 0, 0]) (copy_fi_I u I l (l.length)) (.exit 2) (copy_fi_Z u I l) := by
  exact VT.run (W := [.r [] [], .br false]) (G := [.any [29], .sort]) (by kernel_rfl) (.c (show decide ((↑l.length : Int) < (↑(List.map blcC l).length : Int)) = false by (simp; done)) <| .n)
theorem copy_fi (u : Bun) (I : Int) (l : List Blc) (sz : ∀ x ∈ l, x.Sz) (hl : l.length ≤ 1000) (h0 : 0 ≤ I) (h1 : I < u.m.length) : VT Tryz.prog (fnC Tryz.f6 [1, 1, 0, 1, 0, 0, 1, 1, 0, 0, 1, 1, 1, 0]) (copy_fi_I u I l 0) (.exit 2) (copy_fi_Z u I l) :=
  VT.loop (fun k => copy_fi_I u I l k) (l.length) (fun k hk => copy_fi_s u I l sz hl h0 h1 k hk) (copy_fi_e u I l sz hl h0 h1) (by intro h; cases h)

noncomputable def copy_fo_I (u : Bun) (k : Nat) : VS := stt 47 [(1, .ptr 1 0 0), (2, .ptr 2 0 0), (3, .own 900), (11, .own 900), (12, i64 (u.m.map mdlC).length), (13, i64 k)] [(1, .var (bunC u)), (2, .var [.any, .any, .any, .any, .any]), (900, .slc 33 1 (mixR mdlCF mdlC u.m k))]
noncomputable def copy_fo_Z (u : Bun) : VS := copy_fo_I u (u.m.length)
set_option maxRecDepth 100000 in
set_option maxHeartbeats 2000000 in
theorem copy_fo_s (u : Bun) (sz : u.Sz) (k : Nat) (hk : k < u.m.length) : VT Tryz.prog (fnC Tryz.f6 [1, 1, 0, 1, 0, 0]) (copy_fo_I u k) .normal (copy_fo_I u (k + 1)) := by
  have q1 := sz.l
  have q2 := (getD_in sz.b hk).l
  have q3 := (getD_in sz.b hk).b
  have q4 := mixR_len mdlCF mdlC u.m k
  have q5 := mixR_get (f := mdlCF) (g := mdlC) hk
  have oz1 := (show 0 ≤ (↑k : Int) by omega)
  have oz2 := (show (↑k : Int) < (↑(mixR mdlCF mdlC u.m k).length : Int) by omega)
  have oz3 := (show (mixR mdlCF mdlC u.m k)[(↑k : Int).toNat]? = some [AV.sl 5 (List.map blcC (u.m.getD k default).l)] by first | with_reducible assumption | assumption)
  have oz4 := @cloneB_m ((u.m.getD k default).l) q2
  have oz11 := @copy_fi (u) ((↑k : Int)) ((u.m.getD k default).l) q3 q2 (by omega) (by omega)
  exact VT.run (W := [.r [] [], .br true, .r [] [.row (sO oz3)], .r [] [.callm [] [(951, 20000)] (rM oz4) (oM oz4), .nat 0], .r [] [], .code [.any (rg [(14, 12)]), .ren 20000 901, .weak 28 (i64 (↑0 : Int)), .blk 5 (Blk.var [AV.any]), .blk 901 (Blk.slc 40 5 (mixR blcCF blcC (u.m.getD k default).l 0)), .sort] (Exit.exit 2) (zO oz11), .r [] [.n ((↑k : Int) + 1)]]) (G := [.frf 901, .unf 900, .any [4, 5, 26, 27, 28, 43], .drop [5], .weak 13 (i64 (↑(k + 1) : Int)), .blk 900 (Blk.slc 33 1 (mixR mdlCF mdlC u.m (k + 1))), .sort]) (by kernel_rfl) (.c (show decide ((↑k : Int) < (↑(List.map mdlC u.m).length : Int)) = true by (simp; omega)) <| .c oz1 <| .c oz2 <| .c oz3 <| .c oz4 <| .c oz1 <| .c oz2 <| .c (show (↑k : Int).toNat < (mixR mdlCF mdlC u.m k).length by omega) <| .c (Weak.int (k := .i64) (show ((0) : Int) = ((↑0 : Int)) from (by omega))) <| .c (show BlkW (Blk.var [AV.sl 5 (List.map blcC (u.m.getD k default).l)]) (Blk.var [AV.any]) from (BlkW.var (m := [AV.any]) (.cons (Weak.any _) .nil))) <| .c (show BlkW (Blk.slc 40 5 (List.map blcC (u.m.getD k default).l)) (Blk.slc 40 5 (mixR blcCF blcC (u.m.getD k default).l 0)) from (BlkW.rows (e := 40) (z := 5) (show (List.map blcC (u.m.getD k default).l) = (mixR blcCF blcC (u.m.getD k default).l 0) from (by (exact (mixR_0 _ _ _).symm))))) <| .c oz11 <| .c (IntWalk.i64_in ((↑k : Int) + 1) (by omega)) <| .c (Weak.int (k := .i64) (show (((↑k : Int) + 1) : Int) = ((↑(k + 1) : Int)) from (by omega))) <| .c (show BlkW (Blk.slc 33 1 ((mixR mdlCF mdlC u.m (↑k : Int).toNat).set (↑k : Int).toNat [AV.fs 5 (mixR blcCF blcC (u.m.getD k default).l (u.m.getD k default).l.length)])) (Blk.slc 33 1 (mixR mdlCF mdlC u.m (k + 1))) from (BlkW.rows (e := 33) (z := 1) (show ((mixR mdlCF mdlC u.m (↑k : Int).toNat).set (↑k : Int).toNat [AV.fs 5 (mixR blcCF blcC (u.m.getD k default).l (u.m.getD k default).l.length)]) = (mixR mdlCF mdlC u.m (k + 1)) from (by (exact mixR_mdl1 hk))))) <| .n)
set_option maxRecDepth 100000 in
set_option maxHeartbeats 2000000 in
theorem copy_fo_e (u : Bun) (sz : u.Sz) : VT Tryz.prog (fnC Tryz.f6 [1, 1, 0, 1, 0, 0]) (copy_fo_I u (u.m.length)) (.exit 0) (copy_fo_Z u) := by
  have q1 := sz.l
  exact VT.run (W := [.r [] [], .br false]) (G := [.any [14], .sort]) (by kernel_rfl) (.c (show decide ((↑u.m.length : Int) < (↑(List.map mdlC u.m).length : Int)) = false by (simp; done)) <| .n)
theorem copy_fo (u : Bun) (sz : u.Sz) : VT Tryz.prog (fnC Tryz.f6 [1, 1, 0, 1, 0]) (copy_fo_I u 0) (.exit 0) (copy_fo_Z u) :=
  VT.loop (fun k => copy_fo_I u k) (u.m.length) (fun k hk => copy_fo_s u sz k hk) (copy_fo_e u sz) (by intro h; cases h)

set_option maxRecDepth 100000 in
set_option maxHeartbeats 2000000 in
theorem copy_m (u : Bun) (sz : u.Sz) : VM Tryz.prog 6 ([bun u]) ([]) (.agg (bunCF u)) ([]) := by
  have q1 := sz.l
  have oz0 := @cloneM_m (u.m) q1
  have oz4 := @copy_fo (u) sz
  exact VM.run (fn := Tryz.f6) (W := [.r [] [], .r [] [.callm [] [(951, 20000)] (rM oz0) (oM oz0)], .r [] [], .code [.any [0, 8, 9, 10], .ren 20000 900, .weak 13 (i64 (↑0 : Int)), .blk 2 (Blk.var [AV.any, AV.any, AV.any, AV.any, AV.any]), .blk 900 (Blk.slc 33 1 (mixR mdlCF mdlC u.m 0)), .sort] (Exit.exit 0) (zO oz4), .r [] [], .r [] []]) (G := [.frf 900, .drop [1, 2], .weak 0 (AV.agg [i64 u.h, i64 u.x, i64 u.c, i64 u.cl, AV.fs 1 (List.map mdlCF u.m)]), .sort]) Tryz.func6 (by kernel_rfl) (.c oz0 <| .c (Weak.int (k := .i64) (show ((0) : Int) = ((↑0 : Int)) from (by omega))) <| .c (show BlkW (Blk.var [i64 (0 : Int), i64 (0 : Int), i64 (0 : Int), i64 (0 : Int), AV.lit (Value.slice none (0 : Nat) (0 : Nat))]) (Blk.var [AV.any, AV.any, AV.any, AV.any, AV.any]) from (BlkW.var (m := [AV.any, AV.any, AV.any, AV.any, AV.any]) (.cons (Weak.any _) (.cons (Weak.any _) (.cons (Weak.any _) (.cons (Weak.any _) (.cons (Weak.any _) .nil))))))) <| .c (show BlkW (Blk.slc 33 1 (List.map mdlC u.m)) (Blk.slc 33 1 (mixR mdlCF mdlC u.m 0)) from (BlkW.rows (e := 33) (z := 1) (show (List.map mdlC u.m) = (mixR mdlCF mdlC u.m 0) from (by (exact (mixR_0 _ _ _).symm))))) <| .c oz4 <| .c (show Weak (AV.agg [i64 u.h, i64 u.x, i64 u.c, i64 u.cl, AV.fs 1 (mixR mdlCF mdlC u.m u.m.length)]) (AV.agg [i64 u.h, i64 u.x, i64 u.c, i64 u.cl, AV.fs 1 (List.map mdlCF u.m)]) from (show Weak (AV.agg [i64 u.h, i64 u.x, i64 u.c, i64 u.cl, AV.fs 1 (mixR mdlCF mdlC u.m u.m.length)]) (AV.agg [i64 u.h, i64 u.x, i64 u.c, i64 u.cl, AV.fs 1 (List.map mdlCF u.m)]) from (Weak.agg (.cons (.refl _) (.cons (.refl _) (.cons (.refl _) (.cons (.refl _) (.cons (Weak.rowsF (show (mixR mdlCF mdlC u.m u.m.length) = (List.map mdlCF u.m) from (by (exact mixR_n _ _ _)))) .nil)))))))) <| .n)
theorem copy_f (u : Bun) (sz : u.Sz) : VC Tryz.prog 6 [bun u] (.agg (bunCF u)) := .ofM (copy_m u sz)
end Go.Proofs.YtdmkhinckljddaaGreat

/- Whether bundles are alike, in the law's words. No condition. -/
namespace Go.Proofs.YtdmkhinckljddaaGreat
open Go.RowKit
set_option linter.unusedSimpArgs false
set_option linter.unusedVariables false
set_option linter.unnecessarySimpa false

noncomputable def lbk_ly_I (x y : Blc) (k : Nat) : VS := stt 68 [(2, .ptr 2 0 0), (3, .ptr 3 0 0), (5, i64 k)] [(2, .var (blcC x)), (3, .var (blcC y))]
noncomputable def lbk_ly_Z (x y : Blc) : VS := lbk_ly_I x y (x.n.length)
set_option maxRecDepth 100000 in
set_option maxHeartbeats 2000000 in
theorem lbk_ly_s (x y : Blc) (sz : x.Sz) (hl : x.n.length = y.n.length) (h : ∀ k, k < x.n.length → nodEq (x.n.getD k default) (y.n.getD k default) = true) (k : Nat) (hk : k < x.n.length) : VT Tryz.prog (fnC Tryz.f26 [1, 1, 0, 1, 0, 0]) (lbk_ly_I x y k) .normal (lbk_ly_I x y (k + 1)) := by
  have q := h k hk
  have qz := id sz
  have qm := getD_in qz.n hk
  obtain ⟨qn1, qn2⟩ := qm
  have qb := qz.l
  have oz1 := (show 0 ≤ (↑k : Int) by omega)
  have oz2 := (map_at (nodC) (default) (l := x.n) (i := k) hk)
  have oz4 := (map_at (nodC) (default) (l := y.n) (i := k) (by omega))
  have oz5 := @refSame_v (x.n.getD k default) (y.n.getD k default) qn1 qn2
  exact VT.run (W := [.r [] [], .br true, .r [] [.row (sO oz2), .row (sO oz4), .callr (rO oz5)], .br false, .r [] [.n ((↑k : Int) + 1)]]) (G := [.any (rg [(49, 19)]), .weak 5 (i64 (↑(k + 1) : Int)), .sort]) (by kernel_rfl) (.c (show decide ((↑k : Int) < (↑(List.map nodC x.n).length : Int)) = true by (simp; omega)) <| .c oz1 <| .c oz2 <| .c oz1 <| .c oz4 <| .c oz5 <| .c (show (!nodEq (x.n.getD k default) (y.n.getD k default)) = false by (simp at *; omega)) <| .c (IntWalk.i64_in ((↑k : Int) + 1) (by omega)) <| .c (Weak.int (k := .i64) (show (((↑k : Int) + 1) : Int) = ((↑(k + 1) : Int)) from (by omega))) <| .n)
set_option maxRecDepth 100000 in
set_option maxHeartbeats 2000000 in
theorem lbk_ly_e (x y : Blc) (sz : x.Sz) (hl : x.n.length = y.n.length) (h : ∀ k, k < x.n.length → nodEq (x.n.getD k default) (y.n.getD k default) = true) : VT Tryz.prog (fnC Tryz.f26 [1, 1, 0, 1, 0, 0]) (lbk_ly_I x y (x.n.length)) (.exit 0) (lbk_ly_Z x y) := by
  exact VT.run (W := [.r [] [], .br false]) (G := [.any (rg [(49, 5)]), .sort]) (by kernel_rfl) (.c (show decide ((↑x.n.length : Int) < (↑(List.map nodC x.n).length : Int)) = false by (simp; done)) <| .n)
theorem lbk_ly (x y : Blc) (sz : x.Sz) (hl : x.n.length = y.n.length) (h : ∀ k, k < x.n.length → nodEq (x.n.getD k default) (y.n.getD k default) = true) : VT Tryz.prog (fnC Tryz.f26 [1, 1, 0, 1, 0]) (lbk_ly_I x y 0) (.exit 0) (lbk_ly_Z x y) :=
  VT.loop (fun k => lbk_ly_I x y k) (x.n.length) (fun k hk => lbk_ly_s x y sz hl h k hk) (lbk_ly_e x y sz hl h) (by intro h; cases h)

noncomputable def lbk_ln_I (x y : Blc) (i : Nat) (k : Nat) : VS := stt 68 [(2, .ptr 2 0 0), (3, .ptr 3 0 0), (5, i64 k)] [(2, .var (blcC x)), (3, .var (blcC y))]
noncomputable def lbk_ln_Z (x y : Blc) (i : Nat) : VS := stt 68 [(4, bv false)] []
set_option maxRecDepth 100000 in
set_option maxHeartbeats 2000000 in
theorem lbk_ln_s (x y : Blc) (i : Nat) (sz : x.Sz) (hl : x.n.length = y.n.length) (hi : i < x.n.length) (hf : nodEq (x.n.getD i default) (y.n.getD i default) = false) (h : ∀ k, k < i → nodEq (x.n.getD k default) (y.n.getD k default) = true) (k : Nat) (hk : k < i) : VT Tryz.prog (fnC Tryz.f26 [1, 1, 0, 1, 0, 0]) (lbk_ln_I x y i k) .normal (lbk_ln_I x y i (k + 1)) := by
  have q := h k hk
  have qz := id sz
  have qm := getD_in qz.n (show k < x.n.length by omega)
  obtain ⟨qn1, qn2⟩ := qm
  have qb := qz.l
  have oz1 := (show 0 ≤ (↑k : Int) by omega)
  have oz2 := (map_at (nodC) (default) (l := x.n) (i := k) (by omega))
  have oz4 := (map_at (nodC) (default) (l := y.n) (i := k) (by omega))
  have oz5 := @refSame_v (x.n.getD k default) (y.n.getD k default) qn1 qn2
  exact VT.run (W := [.r [] [], .br true, .r [] [.row (sO oz2), .row (sO oz4), .callr (rO oz5)], .br false, .r [] [.n ((↑k : Int) + 1)]]) (G := [.any (rg [(49, 19)]), .weak 5 (i64 (↑(k + 1) : Int)), .sort]) (by kernel_rfl) (.c (show decide ((↑k : Int) < (↑(List.map nodC x.n).length : Int)) = true by (simp; omega)) <| .c oz1 <| .c oz2 <| .c oz1 <| .c oz4 <| .c oz5 <| .c (show (!nodEq (x.n.getD k default) (y.n.getD k default)) = false by (simp at *; omega)) <| .c (IntWalk.i64_in ((↑k : Int) + 1) (by omega)) <| .c (Weak.int (k := .i64) (show (((↑k : Int) + 1) : Int) = ((↑(k + 1) : Int)) from (by omega))) <| .n)
set_option maxRecDepth 100000 in
set_option maxHeartbeats 2000000 in
theorem lbk_ln_e (x y : Blc) (i : Nat) (sz : x.Sz) (hl : x.n.length = y.n.length) (hi : i < x.n.length) (hf : nodEq (x.n.getD i default) (y.n.getD i default) = false) (h : ∀ k, k < i → nodEq (x.n.getD k default) (y.n.getD k default) = true) : VT Tryz.prog (fnC Tryz.f26 [1, 1, 0, 1, 0, 0]) (lbk_ln_I x y i (i)) (.ret) (lbk_ln_Z x y i) := by
  have qz := id sz
  have qm := getD_in qz.n hi
  obtain ⟨qn1, qn2⟩ := qm
  have qb := qz.l
  have oz1 := (show 0 ≤ (↑i : Int) by omega)
  have oz2 := (map_at (nodC) (default) (l := x.n) (i := i) hi)
  have oz4 := (map_at (nodC) (default) (l := y.n) (i := i) (by omega))
  have oz5 := @refSame_v (x.n.getD i default) (y.n.getD i default) qn1 qn2
  exact VT.run (W := [.r [] [], .br true, .r [] [.row (sO oz2), .row (sO oz4), .callr (rO oz5)], .br true, .r [] []]) (G := [.any (rg [(2, 2), (5, 1), (49, 5), (56, 12)]), .drop [2, 3], .sort]) (by kernel_rfl) (.c (show decide ((↑i : Int) < (↑(List.map nodC x.n).length : Int)) = true by (simp; omega)) <| .c oz1 <| .c oz2 <| .c oz1 <| .c oz4 <| .c oz5 <| .c (show (!nodEq (x.n.getD i default) (y.n.getD i default)) = true by (simp at *; omega)) <| .n)
theorem lbk_ln (x y : Blc) (i : Nat) (sz : x.Sz) (hl : x.n.length = y.n.length) (hi : i < x.n.length) (hf : nodEq (x.n.getD i default) (y.n.getD i default) = false) (h : ∀ k, k < i → nodEq (x.n.getD k default) (y.n.getD k default) = true) : VT Tryz.prog (fnC Tryz.f26 [1, 1, 0, 1, 0]) (lbk_ln_I x y i 0) (.ret) (lbk_ln_Z x y i) :=
  VT.loop (fun k => lbk_ln_I x y i k) (i) (fun k hk => lbk_ln_s x y i sz hl hi hf h k hk) (lbk_ln_e x y i sz hl hi hf h) (by intro h; cases h)

set_option maxRecDepth 100000 in
set_option maxHeartbeats 2000000 in
theorem lbk_d (x y : Blc) (sz : x.Sz) (hl : x.n.length ≠ y.n.length) : VC Tryz.prog 26 ([blc x, blc y]) (bv false) := by
  have hz : zipAll nodEq x.n y.n = false := by unfold zipAll; rw [decide_eq_false hl, Bool.false_and]
  obtain ⟨qa, qb, qc, qd⟩ := id sz
  have oz0 := @rsame8_v (x.w) (y.w) (by omega)
  have oz1 := @rsame32_v (x.b) (y.b) (by omega)
  exact VC.run (fn := Tryz.f26) (W := [.r [] [], .r [] [.op false, .op false, .op false, .op false, .op false, .sel 1, .op false, .op false, .op false, .op false, .op false, .op false, .op false, .sel 1, .op false, .op false, .op false, .op false, .op false, .op false, .op false, .callr (rO oz0), .op false, .sel 1, .op false, .op false, .op false, .op false, .op false, .op false, .op false, .callr (rO oz1), .op false, .sel 1], .br true, .r [] []]) Tryz.func26 (by kernel_rfl) (.c oz0 <| .c oz1 <| .c (show ((↑(List.map nodC x.n).length : Int) != (↑(List.map nodC y.n).length : Int) || !x.ex == y.ex || x.nd != y.nd || !decide (x.w = y.w) || !decide (x.b = y.b)) = true by (simp; omega)) <| .n)

set_option maxRecDepth 100000 in
set_option maxHeartbeats 2000000 in
theorem lbk_y (x y : Blc) (sz : x.Sz) (hl : x.n.length = y.n.length) (h : ∀ k, k < x.n.length → nodEq (x.n.getD k default) (y.n.getD k default) = true) (hz : zipAll nodEq x.n y.n = true) : VC Tryz.prog 26 ([blc x, blc y]) (bv (blcEq x y)) := by
  obtain ⟨qa, qb, qc, qd⟩ := id sz
  have oz0 := @rsame8_v (x.w) (y.w) (by omega)
  have oz1 := @rsame32_v (x.b) (y.b) (by omega)
  rcases Bool.eq_false_or_eq_true ((↑(List.map nodC x.n).length : Int) != (↑(List.map nodC y.n).length : Int) || !x.ex == y.ex || x.nd != y.nd || !decide (x.w = y.w) || !decide (x.b = y.b)) with hc0 | hc0
  · have gc0 : (((¬(↑(List.map nodC x.n).length : Int) = (↑(List.map nodC y.n).length : Int) ∨ ¬(x.ex = true ↔ y.ex = true)) ∨ ¬x.nd = y.nd) ∨ ¬x.w = y.w) ∨ ¬x.b = y.b := by first | (simp only [Bool.or_eq_true, Bool.or_eq_false_iff, Bool.and_eq_true, Bool.and_eq_false_iff, Bool.not_eq_true', Bool.not_eq_false', decide_eq_true_eq, decide_eq_false_iff_not, beq_iff_eq, bne_iff_ne, ne_eq, beq_eq_false_iff_ne, bne_eq_false_iff_eq, eqNums, Bool.and_true] at hc0; first | exact hc0 | omega) | simpa using hc0 | (simp at hc0 ⊢; omega) | (apply Classical.byContradiction; intro hn; simp_all [eqNums]; done) | (apply Classical.byContradiction; intro hn; simp [eqNums] at hc0 hn; omega)
    exact (VC.run (fn := Tryz.f26) (W := [.r [] [], .r [] [.op false, .op false, .op false, .op false, .op false, .sel 1, .op false, .op false, .op false, .op false, .op false, .op false, .op false, .sel 1, .op false, .op false, .op false, .op false, .op false, .op false, .op false, .callr (rO oz0), .op false, .sel 1, .op false, .op false, .op false, .op false, .op false, .op false, .op false, .callr (rO oz1), .op false, .sel 1], .br true, .r [] []]) (r := bv false) Tryz.func26 (by kernel_rfl) (.c oz0 <| .c oz1 <| .c hc0 <| .n)).weak (WeakL.refl _) (Weak.bool (show ((false) : Bool) = (blcEq x y) from (by (simp [blcEq, hz, eqNums] at *; intros; simp_all; done))))
  · have gc0 : ((((↑(List.map nodC x.n).length : Int) = (↑(List.map nodC y.n).length : Int) ∧ (x.ex = true ↔ y.ex = true)) ∧ x.nd = y.nd) ∧ x.w = y.w) ∧ x.b = y.b := by first | (simp only [Bool.or_eq_true, Bool.or_eq_false_iff, Bool.and_eq_true, Bool.and_eq_false_iff, Bool.not_eq_true', Bool.not_eq_false', decide_eq_true_eq, decide_eq_false_iff_not, beq_iff_eq, bne_iff_ne, ne_eq, beq_eq_false_iff_ne, bne_eq_false_iff_eq, eqNums, Bool.and_true] at hc0; first | exact hc0 | omega) | simpa using hc0 | (simp at hc0 ⊢; omega) | (apply Classical.byContradiction; intro hn; simp_all [eqNums]; done) | (apply Classical.byContradiction; intro hn; simp [eqNums] at hc0 hn; omega)
    have oz4 := @lbk_ly (x) (y) sz hl h
    exact (VC.run (fn := Tryz.f26) (W := [.r [] [], .r [] [.op false, .op false, .op false, .op false, .op false, .sel 1, .op false, .op false, .op false, .op false, .op false, .op false, .op false, .sel 1, .op false, .op false, .op false, .op false, .op false, .op false, .op false, .callr (rO oz0), .op false, .sel 1, .op false, .op false, .op false, .op false, .op false, .op false, .op false, .callr (rO oz1), .op false, .sel 1], .br false, .r [] [], .code [.any [0, 1, 4, 6, 7, 8, 9, 10, 11, 12, 13, 19, 20, 28, 29, 38, 39, 48], .weak 5 (i64 (↑0 : Int)), .sort] (Exit.exit 0) (zO oz4), .r [] []]) (r := bv true) Tryz.func26 (by kernel_rfl) (.c oz0 <| .c oz1 <| .c hc0 <| .c (Weak.int (k := .i64) (show ((0) : Int) = ((↑0 : Int)) from (by omega))) <| .c oz4 <| .n)).weak (WeakL.refl _) (Weak.bool (show ((true) : Bool) = (blcEq x y) from (by (rw [Bool.eq_iff_iff]; simp [blcEq, hz, eqNums] at *; simp_all; done))))

set_option maxRecDepth 100000 in
set_option maxHeartbeats 2000000 in
theorem lbk_n (x y : Blc) (i : Nat) (sz : x.Sz) (hl : x.n.length = y.n.length) (hi : i < x.n.length) (hf : nodEq (x.n.getD i default) (y.n.getD i default) = false) (h : ∀ k, k < i → nodEq (x.n.getD k default) (y.n.getD k default) = true) : VC Tryz.prog 26 ([blc x, blc y]) (bv false) := by
  obtain ⟨qa, qb, qc, qd⟩ := id sz
  have oz0 := @rsame8_v (x.w) (y.w) (by omega)
  have oz1 := @rsame32_v (x.b) (y.b) (by omega)
  rcases Bool.eq_false_or_eq_true ((↑(List.map nodC x.n).length : Int) != (↑(List.map nodC y.n).length : Int) || !x.ex == y.ex || x.nd != y.nd || !decide (x.w = y.w) || !decide (x.b = y.b)) with hc0 | hc0
  · have gc0 : (((¬(↑(List.map nodC x.n).length : Int) = (↑(List.map nodC y.n).length : Int) ∨ ¬(x.ex = true ↔ y.ex = true)) ∨ ¬x.nd = y.nd) ∨ ¬x.w = y.w) ∨ ¬x.b = y.b := by first | (simp only [Bool.or_eq_true, Bool.or_eq_false_iff, Bool.and_eq_true, Bool.and_eq_false_iff, Bool.not_eq_true', Bool.not_eq_false', decide_eq_true_eq, decide_eq_false_iff_not, beq_iff_eq, bne_iff_ne, ne_eq, beq_eq_false_iff_ne, bne_eq_false_iff_eq, eqNums, Bool.and_true] at hc0; first | exact hc0 | omega) | simpa using hc0 | (simp at hc0 ⊢; omega) | (apply Classical.byContradiction; intro hn; simp_all [eqNums]; done) | (apply Classical.byContradiction; intro hn; simp [eqNums] at hc0 hn; omega)
    exact VC.run (fn := Tryz.f26) (W := [.r [] [], .r [] [.op false, .op false, .op false, .op false, .op false, .sel 1, .op false, .op false, .op false, .op false, .op false, .op false, .op false, .sel 1, .op false, .op false, .op false, .op false, .op false, .op false, .op false, .callr (rO oz0), .op false, .sel 1, .op false, .op false, .op false, .op false, .op false, .op false, .op false, .callr (rO oz1), .op false, .sel 1], .br true, .r [] []]) Tryz.func26 (by kernel_rfl) (.c oz0 <| .c oz1 <| .c hc0 <| .n)
  · have gc0 : ((((↑(List.map nodC x.n).length : Int) = (↑(List.map nodC y.n).length : Int) ∧ (x.ex = true ↔ y.ex = true)) ∧ x.nd = y.nd) ∧ x.w = y.w) ∧ x.b = y.b := by first | (simp only [Bool.or_eq_true, Bool.or_eq_false_iff, Bool.and_eq_true, Bool.and_eq_false_iff, Bool.not_eq_true', Bool.not_eq_false', decide_eq_true_eq, decide_eq_false_iff_not, beq_iff_eq, bne_iff_ne, ne_eq, beq_eq_false_iff_ne, bne_eq_false_iff_eq, eqNums, Bool.and_true] at hc0; first | exact hc0 | omega) | simpa using hc0 | (simp at hc0 ⊢; omega) | (apply Classical.byContradiction; intro hn; simp_all [eqNums]; done) | (apply Classical.byContradiction; intro hn; simp [eqNums] at hc0 hn; omega)
    have oz4 := @lbk_ln (x) (y) (i) sz hl hi hf h
    exact VC.run (fn := Tryz.f26) (W := [.r [] [], .r [] [.op false, .op false, .op false, .op false, .op false, .sel 1, .op false, .op false, .op false, .op false, .op false, .op false, .op false, .sel 1, .op false, .op false, .op false, .op false, .op false, .op false, .op false, .callr (rO oz0), .op false, .sel 1, .op false, .op false, .op false, .op false, .op false, .op false, .op false, .callr (rO oz1), .op false, .sel 1], .br false, .r [] [], .code [.any [0, 1, 4, 6, 7, 8, 9, 10, 11, 12, 13, 19, 20, 28, 29, 38, 39, 48], .weak 5 (i64 (↑0 : Int)), .sort] (Exit.ret) (zO oz4)]) Tryz.func26 (by kernel_rfl) (.c oz0 <| .c oz1 <| .c hc0 <| .c (Weak.int (k := .i64) (show ((0) : Int) = ((↑0 : Int)) from (by omega))) <| .c oz4 <| .n)
theorem lbk_v (x y : Blc) (sz : x.Sz) : VC Tryz.prog 26 [blc x, blc y] (bv (blcEq x y)) := by
  rcases zip_cases nodEq x.n y.n with ⟨h, e⟩ | ⟨h, q, e⟩ | ⟨h, i, hi, hf, q, e⟩
  · rw [show blcEq x y = false by simp [blcEq, e]]; exact lbk_d x y sz h
  · exact lbk_y x y sz h q e
  · rw [show blcEq x y = false by simp [blcEq, e]]; exact lbk_n x y i sz h hi hf q
noncomputable def lmd_ly_I (x y : Mdl) (k : Nat) : VS := stt 32 [(2, .ptr 2 0 0), (3, .ptr 3 0 0), (5, i64 k)] [(2, .var (mdlC x)), (3, .var (mdlC y))]
noncomputable def lmd_ly_Z (x y : Mdl) : VS := lmd_ly_I x y (x.l.length)
set_option maxRecDepth 100000 in
set_option maxHeartbeats 2000000 in
theorem lmd_ly_s (x y : Mdl) (sz : x.Sz) (hl : x.l.length = y.l.length) (h : ∀ k, k < x.l.length → blcEq (x.l.getD k default) (y.l.getD k default) = true) (k : Nat) (hk : k < x.l.length) : VT Tryz.prog (fnC Tryz.f14 [1, 1, 0, 1, 0, 0]) (lmd_ly_I x y k) .normal (lmd_ly_I x y (k + 1)) := by
  have q := h k hk
  have qz := id sz
  have qm := getD_in qz.b hk
  have qb := qz.l
  have oz1 := (show 0 ≤ (↑k : Int) by omega)
  have oz2 := (map_at (blcC) (default) (l := x.l) (i := k) hk)
  have oz4 := (map_at (blcC) (default) (l := y.l) (i := k) (by omega))
  have oz5 := @lbk_v (x.l.getD k default) (y.l.getD k default) qm
  exact VT.run (W := [.r [] [], .br true, .r [] [.row (sO oz2), .row (sO oz4), .callr (rO oz5)], .br false, .r [] [.n ((↑k : Int) + 1)]]) (G := [.any (rg [(13, 19)]), .weak 5 (i64 (↑(k + 1) : Int)), .sort]) (by kernel_rfl) (.c (show decide ((↑k : Int) < (↑(List.map blcC x.l).length : Int)) = true by (simp; omega)) <| .c oz1 <| .c oz2 <| .c oz1 <| .c oz4 <| .c oz5 <| .c (show (!blcEq (x.l.getD k default) (y.l.getD k default)) = false by (simp at *; omega)) <| .c (IntWalk.i64_in ((↑k : Int) + 1) (by omega)) <| .c (Weak.int (k := .i64) (show (((↑k : Int) + 1) : Int) = ((↑(k + 1) : Int)) from (by omega))) <| .n)
set_option maxRecDepth 100000 in
set_option maxHeartbeats 2000000 in
theorem lmd_ly_e (x y : Mdl) (sz : x.Sz) (hl : x.l.length = y.l.length) (h : ∀ k, k < x.l.length → blcEq (x.l.getD k default) (y.l.getD k default) = true) : VT Tryz.prog (fnC Tryz.f14 [1, 1, 0, 1, 0, 0]) (lmd_ly_I x y (x.l.length)) (.exit 0) (lmd_ly_Z x y) := by
  exact VT.run (W := [.r [] [], .br false]) (G := [.any (rg [(13, 5)]), .sort]) (by kernel_rfl) (.c (show decide ((↑x.l.length : Int) < (↑(List.map blcC x.l).length : Int)) = false by (simp; done)) <| .n)
theorem lmd_ly (x y : Mdl) (sz : x.Sz) (hl : x.l.length = y.l.length) (h : ∀ k, k < x.l.length → blcEq (x.l.getD k default) (y.l.getD k default) = true) : VT Tryz.prog (fnC Tryz.f14 [1, 1, 0, 1, 0]) (lmd_ly_I x y 0) (.exit 0) (lmd_ly_Z x y) :=
  VT.loop (fun k => lmd_ly_I x y k) (x.l.length) (fun k hk => lmd_ly_s x y sz hl h k hk) (lmd_ly_e x y sz hl h) (by intro h; cases h)

noncomputable def lmd_ln_I (x y : Mdl) (i : Nat) (k : Nat) : VS := stt 32 [(2, .ptr 2 0 0), (3, .ptr 3 0 0), (5, i64 k)] [(2, .var (mdlC x)), (3, .var (mdlC y))]
noncomputable def lmd_ln_Z (x y : Mdl) (i : Nat) : VS := stt 32 [(4, bv false)] []
set_option maxRecDepth 100000 in
set_option maxHeartbeats 2000000 in
theorem lmd_ln_s (x y : Mdl) (i : Nat) (sz : x.Sz) (hl : x.l.length = y.l.length) (hi : i < x.l.length) (hf : blcEq (x.l.getD i default) (y.l.getD i default) = false) (h : ∀ k, k < i → blcEq (x.l.getD k default) (y.l.getD k default) = true) (k : Nat) (hk : k < i) : VT Tryz.prog (fnC Tryz.f14 [1, 1, 0, 1, 0, 0]) (lmd_ln_I x y i k) .normal (lmd_ln_I x y i (k + 1)) := by
  have q := h k hk
  have qz := id sz
  have qm := getD_in qz.b (show k < x.l.length by omega)
  have qb := qz.l
  have oz1 := (show 0 ≤ (↑k : Int) by omega)
  have oz2 := (map_at (blcC) (default) (l := x.l) (i := k) (by omega))
  have oz4 := (map_at (blcC) (default) (l := y.l) (i := k) (by omega))
  have oz5 := @lbk_v (x.l.getD k default) (y.l.getD k default) qm
  exact VT.run (W := [.r [] [], .br true, .r [] [.row (sO oz2), .row (sO oz4), .callr (rO oz5)], .br false, .r [] [.n ((↑k : Int) + 1)]]) (G := [.any (rg [(13, 19)]), .weak 5 (i64 (↑(k + 1) : Int)), .sort]) (by kernel_rfl) (.c (show decide ((↑k : Int) < (↑(List.map blcC x.l).length : Int)) = true by (simp; omega)) <| .c oz1 <| .c oz2 <| .c oz1 <| .c oz4 <| .c oz5 <| .c (show (!blcEq (x.l.getD k default) (y.l.getD k default)) = false by (simp at *; omega)) <| .c (IntWalk.i64_in ((↑k : Int) + 1) (by omega)) <| .c (Weak.int (k := .i64) (show (((↑k : Int) + 1) : Int) = ((↑(k + 1) : Int)) from (by omega))) <| .n)
set_option maxRecDepth 100000 in
set_option maxHeartbeats 2000000 in
theorem lmd_ln_e (x y : Mdl) (i : Nat) (sz : x.Sz) (hl : x.l.length = y.l.length) (hi : i < x.l.length) (hf : blcEq (x.l.getD i default) (y.l.getD i default) = false) (h : ∀ k, k < i → blcEq (x.l.getD k default) (y.l.getD k default) = true) : VT Tryz.prog (fnC Tryz.f14 [1, 1, 0, 1, 0, 0]) (lmd_ln_I x y i (i)) (.ret) (lmd_ln_Z x y i) := by
  have qz := id sz
  have qm := getD_in qz.b hi
  have qb := qz.l
  have oz1 := (show 0 ≤ (↑i : Int) by omega)
  have oz2 := (map_at (blcC) (default) (l := x.l) (i := i) hi)
  have oz4 := (map_at (blcC) (default) (l := y.l) (i := i) (by omega))
  have oz5 := @lbk_v (x.l.getD i default) (y.l.getD i default) qm
  exact VT.run (W := [.r [] [], .br true, .r [] [.row (sO oz2), .row (sO oz4), .callr (rO oz5)], .br true, .r [] []]) (G := [.any (rg [(2, 2), (5, 1), (13, 5), (20, 12)]), .drop [2, 3], .sort]) (by kernel_rfl) (.c (show decide ((↑i : Int) < (↑(List.map blcC x.l).length : Int)) = true by (simp; omega)) <| .c oz1 <| .c oz2 <| .c oz1 <| .c oz4 <| .c oz5 <| .c (show (!blcEq (x.l.getD i default) (y.l.getD i default)) = true by (simp at *; omega)) <| .n)
theorem lmd_ln (x y : Mdl) (i : Nat) (sz : x.Sz) (hl : x.l.length = y.l.length) (hi : i < x.l.length) (hf : blcEq (x.l.getD i default) (y.l.getD i default) = false) (h : ∀ k, k < i → blcEq (x.l.getD k default) (y.l.getD k default) = true) : VT Tryz.prog (fnC Tryz.f14 [1, 1, 0, 1, 0]) (lmd_ln_I x y i 0) (.ret) (lmd_ln_Z x y i) :=
  VT.loop (fun k => lmd_ln_I x y i k) (i) (fun k hk => lmd_ln_s x y i sz hl hi hf h k hk) (lmd_ln_e x y i sz hl hi hf h) (by intro h; cases h)

set_option maxRecDepth 100000 in
set_option maxHeartbeats 2000000 in
theorem lmd_d (x y : Mdl) (sz : x.Sz) (hl : x.l.length ≠ y.l.length) : VC Tryz.prog 14 ([.agg (mdlC x), .agg (mdlC y)]) (bv false) := by
  have hz : zipAll blcEq x.l y.l = false := by unfold zipAll; rw [decide_eq_false hl, Bool.false_and]
  obtain ⟨qa, qb⟩ := id sz
  exact VC.run (fn := Tryz.f14) (W := [.r [] [], .r [] [], .br true, .r [] []]) Tryz.func14 (by kernel_rfl) (.c (show ((↑(List.map blcC x.l).length : Int) != (↑(List.map blcC y.l).length : Int)) = true by (simp; omega)) <| .n)

set_option maxRecDepth 100000 in
set_option maxHeartbeats 2000000 in
theorem lmd_y (x y : Mdl) (sz : x.Sz) (hl : x.l.length = y.l.length) (h : ∀ k, k < x.l.length → blcEq (x.l.getD k default) (y.l.getD k default) = true) (hz : zipAll blcEq x.l y.l = true) : VC Tryz.prog 14 ([.agg (mdlC x), .agg (mdlC y)]) (bv (mdlEq x y)) := by
  obtain ⟨qa, qb⟩ := id sz
  have oz2 := @lmd_ly (Mdl.mk x.l) (Mdl.mk y.l) sz hl h
  exact (VC.run (fn := Tryz.f14) (W := [.r [] [], .r [] [], .br false, .r [] [], .code [.any (rg [(0, 2), (4, 1), (6, 7)]), .weak 5 (i64 (↑0 : Int)), .sort] (Exit.exit 0) (zO oz2), .r [] []]) (r := bv true) Tryz.func14 (by kernel_rfl) (.c (show ((↑(List.map blcC x.l).length : Int) != (↑(List.map blcC y.l).length : Int)) = false by (simp; omega)) <| .c (Weak.int (k := .i64) (show ((0) : Int) = ((↑0 : Int)) from (by omega))) <| .c oz2 <| .n)).weak (WeakL.refl _) (Weak.bool (show ((true) : Bool) = (mdlEq x y) from (by (exact hz.symm))))

set_option maxRecDepth 100000 in
set_option maxHeartbeats 2000000 in
theorem lmd_n (x y : Mdl) (i : Nat) (sz : x.Sz) (hl : x.l.length = y.l.length) (hi : i < x.l.length) (hf : blcEq (x.l.getD i default) (y.l.getD i default) = false) (h : ∀ k, k < i → blcEq (x.l.getD k default) (y.l.getD k default) = true) : VC Tryz.prog 14 ([.agg (mdlC x), .agg (mdlC y)]) (bv false) := by
  obtain ⟨qa, qb⟩ := id sz
  have oz2 := @lmd_ln (Mdl.mk x.l) (Mdl.mk y.l) (i) sz hl hi hf h
  exact VC.run (fn := Tryz.f14) (W := [.r [] [], .r [] [], .br false, .r [] [], .code [.any (rg [(0, 2), (4, 1), (6, 7)]), .weak 5 (i64 (↑0 : Int)), .sort] (Exit.ret) (zO oz2)]) Tryz.func14 (by kernel_rfl) (.c (show ((↑(List.map blcC x.l).length : Int) != (↑(List.map blcC y.l).length : Int)) = false by (simp; omega)) <| .c (Weak.int (k := .i64) (show ((0) : Int) = ((↑0 : Int)) from (by omega))) <| .c oz2 <| .n)
theorem lmd_v (x y : Mdl) (sz : x.Sz) : VC Tryz.prog 14 [.agg (mdlC x), .agg (mdlC y)] (bv (mdlEq x y)) := by
  rcases zip_cases blcEq x.l y.l with ⟨h, e⟩ | ⟨h, q, e⟩ | ⟨h, i, hi, hf, q, e⟩
  · rw [show mdlEq x y = false by simp [mdlEq, e]]; exact lmd_d x y sz h
  · exact lmd_y x y sz h q e
  · rw [show mdlEq x y = false by simp [mdlEq, e]]; exact lmd_n x y i sz h hi hf q
noncomputable def lbn_ly_I (x y : Bun) (k : Nat) : VS := stt 46 [(2, .ptr 2 0 0), (3, .ptr 3 0 0), (5, i64 k)] [(2, .var (bunC x)), (3, .var (bunC y))]
noncomputable def lbn_ly_Z (x y : Bun) : VS := lbn_ly_I x y (x.m.length)
set_option maxRecDepth 100000 in
set_option maxHeartbeats 2000000 in
theorem lbn_ly_s (x y : Bun) (sz : x.Sz) (hl : x.m.length = y.m.length) (h : ∀ k, k < x.m.length → mdlEq (x.m.getD k default) (y.m.getD k default) = true) (k : Nat) (hk : k < x.m.length) : VT Tryz.prog (fnC Tryz.f7 [1, 1, 0, 1, 0, 0]) (lbn_ly_I x y k) .normal (lbn_ly_I x y (k + 1)) := by
  have q := h k hk
  have qz := id sz
  have qm := getD_in qz.b hk
  have qb := qz.l
  have oz1 := (show 0 ≤ (↑k : Int) by omega)
  have oz2 := (map_at (mdlC) (default) (l := x.m) (i := k) hk)
  have oz4 := (map_at (mdlC) (default) (l := y.m) (i := k) (by omega))
  have oz5 := @lmd_v (Mdl.mk (x.m.getD k default).l) (Mdl.mk (y.m.getD k default).l) qm
  exact VT.run (W := [.r [] [], .br true, .r [] [.row (sO oz2), .row (sO oz4), .callr (rO oz5)], .br false, .r [] [.n ((↑k : Int) + 1)]]) (G := [.any (rg [(27, 19)]), .weak 5 (i64 (↑(k + 1) : Int)), .sort]) (by kernel_rfl) (.c (show decide ((↑k : Int) < (↑(List.map mdlC x.m).length : Int)) = true by (simp; omega)) <| .c oz1 <| .c oz2 <| .c oz1 <| .c oz4 <| .c oz5 <| .c (show (!mdlEq (Mdl.mk (x.m.getD k default).l) (Mdl.mk (y.m.getD k default).l)) = false by (simp at *; omega)) <| .c (IntWalk.i64_in ((↑k : Int) + 1) (by (try dsimp only) <;> omega)) <| .c (Weak.int (k := .i64) (show (((↑k : Int) + 1) : Int) = ((↑(k + 1) : Int)) from (by (try dsimp only) <;> omega))) <| .n)
set_option maxRecDepth 100000 in
set_option maxHeartbeats 2000000 in
theorem lbn_ly_e (x y : Bun) (sz : x.Sz) (hl : x.m.length = y.m.length) (h : ∀ k, k < x.m.length → mdlEq (x.m.getD k default) (y.m.getD k default) = true) : VT Tryz.prog (fnC Tryz.f7 [1, 1, 0, 1, 0, 0]) (lbn_ly_I x y (x.m.length)) (.exit 0) (lbn_ly_Z x y) := by
  exact VT.run (W := [.r [] [], .br false]) (G := [.any (rg [(27, 5)]), .sort]) (by kernel_rfl) (.c (show decide ((↑x.m.length : Int) < (↑(List.map mdlC x.m).length : Int)) = false by (simp; done)) <| .n)
theorem lbn_ly (x y : Bun) (sz : x.Sz) (hl : x.m.length = y.m.length) (h : ∀ k, k < x.m.length → mdlEq (x.m.getD k default) (y.m.getD k default) = true) : VT Tryz.prog (fnC Tryz.f7 [1, 1, 0, 1, 0]) (lbn_ly_I x y 0) (.exit 0) (lbn_ly_Z x y) :=
  VT.loop (fun k => lbn_ly_I x y k) (x.m.length) (fun k hk => lbn_ly_s x y sz hl h k hk) (lbn_ly_e x y sz hl h) (by intro h; cases h)

noncomputable def lbn_ln_I (x y : Bun) (i : Nat) (k : Nat) : VS := stt 46 [(2, .ptr 2 0 0), (3, .ptr 3 0 0), (5, i64 k)] [(2, .var (bunC x)), (3, .var (bunC y))]
noncomputable def lbn_ln_Z (x y : Bun) (i : Nat) : VS := stt 46 [(4, bv false)] []
set_option maxRecDepth 100000 in
set_option maxHeartbeats 2000000 in
theorem lbn_ln_s (x y : Bun) (i : Nat) (sz : x.Sz) (hl : x.m.length = y.m.length) (hi : i < x.m.length) (hf : mdlEq (x.m.getD i default) (y.m.getD i default) = false) (h : ∀ k, k < i → mdlEq (x.m.getD k default) (y.m.getD k default) = true) (k : Nat) (hk : k < i) : VT Tryz.prog (fnC Tryz.f7 [1, 1, 0, 1, 0, 0]) (lbn_ln_I x y i k) .normal (lbn_ln_I x y i (k + 1)) := by
  have q := h k hk
  have qz := id sz
  have qm := getD_in qz.b (show k < x.m.length by omega)
  have qb := qz.l
  have oz1 := (show 0 ≤ (↑k : Int) by omega)
  have oz2 := (map_at (mdlC) (default) (l := x.m) (i := k) (by omega))
  have oz4 := (map_at (mdlC) (default) (l := y.m) (i := k) (by omega))
  have oz5 := @lmd_v (Mdl.mk (x.m.getD k default).l) (Mdl.mk (y.m.getD k default).l) qm
  exact VT.run (W := [.r [] [], .br true, .r [] [.row (sO oz2), .row (sO oz4), .callr (rO oz5)], .br false, .r [] [.n ((↑k : Int) + 1)]]) (G := [.any (rg [(27, 19)]), .weak 5 (i64 (↑(k + 1) : Int)), .sort]) (by kernel_rfl) (.c (show decide ((↑k : Int) < (↑(List.map mdlC x.m).length : Int)) = true by (simp; omega)) <| .c oz1 <| .c oz2 <| .c oz1 <| .c oz4 <| .c oz5 <| .c (show (!mdlEq (Mdl.mk (x.m.getD k default).l) (Mdl.mk (y.m.getD k default).l)) = false by (simp at *; omega)) <| .c (IntWalk.i64_in ((↑k : Int) + 1) (by (try dsimp only) <;> omega)) <| .c (Weak.int (k := .i64) (show (((↑k : Int) + 1) : Int) = ((↑(k + 1) : Int)) from (by (try dsimp only) <;> omega))) <| .n)
set_option maxRecDepth 100000 in
set_option maxHeartbeats 2000000 in
theorem lbn_ln_e (x y : Bun) (i : Nat) (sz : x.Sz) (hl : x.m.length = y.m.length) (hi : i < x.m.length) (hf : mdlEq (x.m.getD i default) (y.m.getD i default) = false) (h : ∀ k, k < i → mdlEq (x.m.getD k default) (y.m.getD k default) = true) : VT Tryz.prog (fnC Tryz.f7 [1, 1, 0, 1, 0, 0]) (lbn_ln_I x y i (i)) (.ret) (lbn_ln_Z x y i) := by
  have qz := id sz
  have qm := getD_in qz.b hi
  have qb := qz.l
  have oz1 := (show 0 ≤ (↑i : Int) by omega)
  have oz2 := (map_at (mdlC) (default) (l := x.m) (i := i) hi)
  have oz4 := (map_at (mdlC) (default) (l := y.m) (i := i) (by omega))
  have oz5 := @lmd_v (Mdl.mk (x.m.getD i default).l) (Mdl.mk (y.m.getD i default).l) qm
  exact VT.run (W := [.r [] [], .br true, .r [] [.row (sO oz2), .row (sO oz4), .callr (rO oz5)], .br true, .r [] []]) (G := [.any (rg [(2, 2), (5, 1), (27, 5), (34, 12)]), .drop [2, 3], .sort]) (by kernel_rfl) (.c (show decide ((↑i : Int) < (↑(List.map mdlC x.m).length : Int)) = true by (simp; omega)) <| .c oz1 <| .c oz2 <| .c oz1 <| .c oz4 <| .c oz5 <| .c (show (!mdlEq (Mdl.mk (x.m.getD i default).l) (Mdl.mk (y.m.getD i default).l)) = true by (simp at *; omega)) <| .n)
theorem lbn_ln (x y : Bun) (i : Nat) (sz : x.Sz) (hl : x.m.length = y.m.length) (hi : i < x.m.length) (hf : mdlEq (x.m.getD i default) (y.m.getD i default) = false) (h : ∀ k, k < i → mdlEq (x.m.getD k default) (y.m.getD k default) = true) : VT Tryz.prog (fnC Tryz.f7 [1, 1, 0, 1, 0]) (lbn_ln_I x y i 0) (.ret) (lbn_ln_Z x y i) :=
  VT.loop (fun k => lbn_ln_I x y i k) (i) (fun k hk => lbn_ln_s x y i sz hl hi hf h k hk) (lbn_ln_e x y i sz hl hi hf h) (by intro h; cases h)

set_option maxRecDepth 100000 in
set_option maxHeartbeats 2000000 in
theorem lbn_d (x y : Bun) (sz : x.Sz) (hl : x.m.length ≠ y.m.length) : VC Tryz.prog 7 ([bun x, bun y]) (bv false) := by
  have hz : zipAll mdlEq x.m y.m = false := by unfold zipAll; rw [decide_eq_false hl, Bool.false_and]
  obtain ⟨qa, qb⟩ := id sz
  exact VC.run (fn := Tryz.f7) (W := [.r [] [], .r [] [.v (Value.bool !eqNums [(IntKind.i64, x.h, y.h), (IntKind.i64, x.x, y.x), (IntKind.i64, x.c, y.c)]), .op false, .op false, .op false, .op false, .op false, .sel 1, .op false, .op false, .op false, .op false, .op false, .op false, .op false, .sel 1], .br true, .r [] []]) Tryz.func7 (by kernel_rfl) (.c (show BinTo Tryz.prog BinOp.neq 23 (Operand.tmp 7) (Operand.tmp 9) (Value.agg #[Value.int IntKind.i64 x.h, Value.int IntKind.i64 x.x, Value.int IntKind.i64 x.c]) (Value.agg #[Value.int IntKind.i64 y.h, Value.int IntKind.i64 y.x, Value.int IntKind.i64 y.c]) (Value.bool !eqNums [(IntKind.i64, x.h, y.h), (IntKind.i64, x.x, y.x), (IntKind.i64, x.c, y.c)]) from ((bin_nums (l := [(IntKind.i64, x.h, y.h), (IntKind.i64, x.x, y.x), (IntKind.i64, x.c, y.c)]) (by kernel_rfl) (by kernel_rfl) (by kernel_rfl) (by kernel_rfl) _ _).2)) <| .c (show (!eqNums [(IntKind.i64, x.h, y.h), (IntKind.i64, x.x, y.x), (IntKind.i64, x.c, y.c)] || x.cl != y.cl || (↑(List.map mdlC x.m).length : Int) != (↑(List.map mdlC y.m).length : Int)) = true by (simp; omega)) <| .n)

set_option maxRecDepth 100000 in
set_option maxHeartbeats 2000000 in
theorem lbn_y (x y : Bun) (sz : x.Sz) (hl : x.m.length = y.m.length) (h : ∀ k, k < x.m.length → mdlEq (x.m.getD k default) (y.m.getD k default) = true) (hz : zipAll mdlEq x.m y.m = true) : VC Tryz.prog 7 ([bun x, bun y]) (bv (bunEq x y)) := by
  obtain ⟨qa, qb⟩ := id sz
  have oz0 := (show BinTo Tryz.prog BinOp.neq 23 (Operand.tmp 7) (Operand.tmp 9) (Value.agg #[Value.int IntKind.i64 x.h, Value.int IntKind.i64 x.x, Value.int IntKind.i64 x.c]) (Value.agg #[Value.int IntKind.i64 y.h, Value.int IntKind.i64 y.x, Value.int IntKind.i64 y.c]) (Value.bool !eqNums [(IntKind.i64, x.h, y.h), (IntKind.i64, x.x, y.x), (IntKind.i64, x.c, y.c)]) from ((bin_nums (l := [(IntKind.i64, x.h, y.h), (IntKind.i64, x.x, y.x), (IntKind.i64, x.c, y.c)]) (by kernel_rfl) (by kernel_rfl) (by kernel_rfl) (by kernel_rfl) _ _).2))
  rcases Bool.eq_false_or_eq_true (!eqNums [(IntKind.i64, x.h, y.h), (IntKind.i64, x.x, y.x), (IntKind.i64, x.c, y.c)] || x.cl != y.cl || (↑(List.map mdlC x.m).length : Int) != (↑(List.map mdlC y.m).length : Int)) with hc0 | hc0
  · have gc0 : (¬(x.h = y.h ∧ x.x = y.x ∧ x.c = y.c) ∨ ¬x.cl = y.cl) ∨ ¬(↑(List.map mdlC x.m).length : Int) = (↑(List.map mdlC y.m).length : Int) := by first | (simp only [Bool.or_eq_true, Bool.or_eq_false_iff, Bool.and_eq_true, Bool.and_eq_false_iff, Bool.not_eq_true', Bool.not_eq_false', decide_eq_true_eq, decide_eq_false_iff_not, beq_iff_eq, bne_iff_ne, ne_eq, beq_eq_false_iff_ne, bne_eq_false_iff_eq, eqNums, Bool.and_true] at hc0; first | exact hc0 | omega) | simpa using hc0 | (simp at hc0 ⊢; omega) | (apply Classical.byContradiction; intro hn; simp_all [eqNums]; done) | (apply Classical.byContradiction; intro hn; simp [eqNums] at hc0 hn; omega)
    exact (VC.run (fn := Tryz.f7) (W := [.r [] [], .r [] [.v (Value.bool !eqNums [(IntKind.i64, x.h, y.h), (IntKind.i64, x.x, y.x), (IntKind.i64, x.c, y.c)]), .op false, .op false, .op false, .op false, .op false, .sel 1, .op false, .op false, .op false, .op false, .op false, .op false, .op false, .sel 1], .br true, .r [] []]) (r := bv false) Tryz.func7 (by kernel_rfl) (.c oz0 <| .c hc0 <| .n)).weak (WeakL.refl _) (Weak.bool (show ((false) : Bool) = (bunEq x y) from (by (simp [bunEq, hz, eqNums] at *; intros; simp_all; done))))
  · have gc0 : ((x.h = y.h ∧ x.x = y.x ∧ x.c = y.c) ∧ x.cl = y.cl) ∧ (↑(List.map mdlC x.m).length : Int) = (↑(List.map mdlC y.m).length : Int) := by first | (simp only [Bool.or_eq_true, Bool.or_eq_false_iff, Bool.and_eq_true, Bool.and_eq_false_iff, Bool.not_eq_true', Bool.not_eq_false', decide_eq_true_eq, decide_eq_false_iff_not, beq_iff_eq, bne_iff_ne, ne_eq, beq_eq_false_iff_ne, bne_eq_false_iff_eq, eqNums, Bool.and_true] at hc0; first | exact hc0 | omega) | simpa using hc0 | (simp at hc0 ⊢; omega) | (apply Classical.byContradiction; intro hn; simp_all [eqNums]; done) | (apply Classical.byContradiction; intro hn; simp [eqNums] at hc0 hn; omega)
    have oz3 := @lbn_ly (x) (y) sz hl h
    exact (VC.run (fn := Tryz.f7) (W := [.r [] [], .r [] [.v (Value.bool !eqNums [(IntKind.i64, x.h, y.h), (IntKind.i64, x.x, y.x), (IntKind.i64, x.c, y.c)]), .op false, .op false, .op false, .op false, .op false, .sel 1, .op false, .op false, .op false, .op false, .op false, .op false, .op false, .sel 1], .br false, .r [] [], .code [.any [0, 1, 4, 6, 7, 8, 9, 10, 11, 17, 18, 26], .weak 5 (i64 (↑0 : Int)), .sort] (Exit.exit 0) (zO oz3), .r [] []]) (r := bv true) Tryz.func7 (by kernel_rfl) (.c oz0 <| .c hc0 <| .c (Weak.int (k := .i64) (show ((0) : Int) = ((↑0 : Int)) from (by omega))) <| .c oz3 <| .n)).weak (WeakL.refl _) (Weak.bool (show ((true) : Bool) = (bunEq x y) from (by (rw [Bool.eq_iff_iff]; simp [bunEq, hz, eqNums] at *; simp_all; done))))

set_option maxRecDepth 100000 in
set_option maxHeartbeats 2000000 in
theorem lbn_n (x y : Bun) (i : Nat) (sz : x.Sz) (hl : x.m.length = y.m.length) (hi : i < x.m.length) (hf : mdlEq (x.m.getD i default) (y.m.getD i default) = false) (h : ∀ k, k < i → mdlEq (x.m.getD k default) (y.m.getD k default) = true) : VC Tryz.prog 7 ([bun x, bun y]) (bv false) := by
  obtain ⟨qa, qb⟩ := id sz
  have oz0 := (show BinTo Tryz.prog BinOp.neq 23 (Operand.tmp 7) (Operand.tmp 9) (Value.agg #[Value.int IntKind.i64 x.h, Value.int IntKind.i64 x.x, Value.int IntKind.i64 x.c]) (Value.agg #[Value.int IntKind.i64 y.h, Value.int IntKind.i64 y.x, Value.int IntKind.i64 y.c]) (Value.bool !eqNums [(IntKind.i64, x.h, y.h), (IntKind.i64, x.x, y.x), (IntKind.i64, x.c, y.c)]) from ((bin_nums (l := [(IntKind.i64, x.h, y.h), (IntKind.i64, x.x, y.x), (IntKind.i64, x.c, y.c)]) (by kernel_rfl) (by kernel_rfl) (by kernel_rfl) (by kernel_rfl) _ _).2))
  rcases Bool.eq_false_or_eq_true (!eqNums [(IntKind.i64, x.h, y.h), (IntKind.i64, x.x, y.x), (IntKind.i64, x.c, y.c)] || x.cl != y.cl || (↑(List.map mdlC x.m).length : Int) != (↑(List.map mdlC y.m).length : Int)) with hc0 | hc0
  · have gc0 : (¬(x.h = y.h ∧ x.x = y.x ∧ x.c = y.c) ∨ ¬x.cl = y.cl) ∨ ¬(↑(List.map mdlC x.m).length : Int) = (↑(List.map mdlC y.m).length : Int) := by first | (simp only [Bool.or_eq_true, Bool.or_eq_false_iff, Bool.and_eq_true, Bool.and_eq_false_iff, Bool.not_eq_true', Bool.not_eq_false', decide_eq_true_eq, decide_eq_false_iff_not, beq_iff_eq, bne_iff_ne, ne_eq, beq_eq_false_iff_ne, bne_eq_false_iff_eq, eqNums, Bool.and_true] at hc0; first | exact hc0 | omega) | simpa using hc0 | (simp at hc0 ⊢; omega) | (apply Classical.byContradiction; intro hn; simp_all [eqNums]; done) | (apply Classical.byContradiction; intro hn; simp [eqNums] at hc0 hn; omega)
    exact VC.run (fn := Tryz.f7) (W := [.r [] [], .r [] [.v (Value.bool !eqNums [(IntKind.i64, x.h, y.h), (IntKind.i64, x.x, y.x), (IntKind.i64, x.c, y.c)]), .op false, .op false, .op false, .op false, .op false, .sel 1, .op false, .op false, .op false, .op false, .op false, .op false, .op false, .sel 1], .br true, .r [] []]) Tryz.func7 (by kernel_rfl) (.c oz0 <| .c hc0 <| .n)
  · have gc0 : ((x.h = y.h ∧ x.x = y.x ∧ x.c = y.c) ∧ x.cl = y.cl) ∧ (↑(List.map mdlC x.m).length : Int) = (↑(List.map mdlC y.m).length : Int) := by first | (simp only [Bool.or_eq_true, Bool.or_eq_false_iff, Bool.and_eq_true, Bool.and_eq_false_iff, Bool.not_eq_true', Bool.not_eq_false', decide_eq_true_eq, decide_eq_false_iff_not, beq_iff_eq, bne_iff_ne, ne_eq, beq_eq_false_iff_ne, bne_eq_false_iff_eq, eqNums, Bool.and_true] at hc0; first | exact hc0 | omega) | simpa using hc0 | (simp at hc0 ⊢; omega) | (apply Classical.byContradiction; intro hn; simp_all [eqNums]; done) | (apply Classical.byContradiction; intro hn; simp [eqNums] at hc0 hn; omega)
    have oz3 := @lbn_ln (x) (y) (i) sz hl hi hf h
    exact VC.run (fn := Tryz.f7) (W := [.r [] [], .r [] [.v (Value.bool !eqNums [(IntKind.i64, x.h, y.h), (IntKind.i64, x.x, y.x), (IntKind.i64, x.c, y.c)]), .op false, .op false, .op false, .op false, .op false, .sel 1, .op false, .op false, .op false, .op false, .op false, .op false, .op false, .sel 1], .br false, .r [] [], .code [.any [0, 1, 4, 6, 7, 8, 9, 10, 11, 17, 18, 26], .weak 5 (i64 (↑0 : Int)), .sort] (Exit.ret) (zO oz3)]) Tryz.func7 (by kernel_rfl) (.c oz0 <| .c hc0 <| .c (Weak.int (k := .i64) (show ((0) : Int) = ((↑0 : Int)) from (by omega))) <| .c oz3 <| .n)
theorem lbn_v (x y : Bun) (sz : x.Sz) : VC Tryz.prog 7 [bun x, bun y] (bv (bunEq x y)) := by
  rcases zip_cases mdlEq x.m y.m with ⟨h, e⟩ | ⟨h, q, e⟩ | ⟨h, i, hi, hf, q, e⟩
  · rw [show bunEq x y = false by simp [bunEq, e]]; exact lbn_d x y sz h
  · exact lbn_y x y sz h q e
  · rw [show bunEq x y = false by simp [bunEq, e]]; exact lbn_n x y i sz h hi hf q
end Go.Proofs.YtdmkhinckljddaaGreat

/- Bytes, one behind the other; whether bytes are alike. No condition. -/
namespace Go.Proofs.YtdmkhinckljddaaGreat
open Go.RowKit
set_option linter.unusedSimpArgs false
set_option linter.unusedVariables false
set_option linter.unnecessarySimpa false

def catK (ls : List (List Int)) : Nat → List Int
  | 0 => []
  | k + 1 => catK ls k ++ ls.getD k default
def szK (ls : List (List Int)) : Nat → Nat
  | 0 => 0
  | k + 1 => szK ls k + (ls.getD k default).length
theorem catK_len (ls : List (List Int)) (k : Nat) : (catK ls k).length = szK ls k := by
  induction k with
  | zero => rfl
  | succ k ih => rw [catK, szK, List.length_append, ih]
theorem szK_le (ls : List (List Int)) {j : Nat} (k : Nat) (h : j ≤ k) : szK ls j ≤ szK ls k := by
  induction k with
  | zero =>
    have : j = 0 := by omega
    subst this; exact Nat.le_refl _
  | succ k ih =>
    by_cases e : j = k + 1
    · subst e; exact Nat.le_refl _
    · have := ih (by omega); rw [szK]; omega
def catR (l : List Int) : List AV := [.sl 1 (l.map (row1 .u8))]
theorem getD_szK (ls : List (List Int)) {k : Nat} (h : k < ls.length) : szK ls k + (ls.getD k default).length ≤ szK ls ls.length := szK_le ls (j := k + 1) ls.length (by omega)
set_option maxRecDepth 100000 in
set_option maxHeartbeats 2000000 in
theorem grow_0   : VC Tryz.prog 47 ([nilv, i64 0]) (nilv) := by
  have oz0 := (show false = false by with_reducible rfl)
  have oz1 := (show IntKind.i64.wrap ((↑(0 : Nat) : Int) - (↑(0 : Nat) : Int)) = (0 : Int) by exact IntWalk.i64_in _ (by omega))
  have oz2 := (show IntKind.i64.wrap ((0 : Int) - (0 : Int)) = (0 : Int) by exact IntWalk.i64_in _ (by omega))
  exact VC.run (fn := Tryz.f47) (W := [.r [] [], .r [] [], .br false, .r [] [.n 0, .n 0], .r [] [], .br false, .r [] []]) Tryz.func47 (by kernel_rfl) (.c oz0 <| .c oz1 <| .c oz2 <| .c oz0 <| .n)

set_option maxRecDepth 100000 in
set_option maxHeartbeats 2000000 in
theorem grow_v (n : Nat) (h0 : 0 < n) (h1 : n ≤ 20000000) : VM Tryz.prog 47 ([nilv, i64 n]) ([]) (.own 951) ([(951, .slc 5 1 ([] : List (List AV)))]) := by
  have oz1 := (show IntKind.i64.wrap ((↑(0 : Nat) : Int) - (↑(0 : Nat) : Int)) = (0 : Int) by exact IntWalk.i64_in _ (by omega))
  exact VM.run (fn := Tryz.f47) (W := [.r [] [], .r [] [], .br false, .r [] [.n 0, .n ((↑n : Int) - 0)], .r [] [], .br true, .r [] [.nat ((↑n : Int) - 0).toNat, .nats 0 0], .r [] []]) (G := [.ren 25 951, .sort]) Tryz.func47 (by kernel_rfl) (.c (decide_eq_false (p := ((↑n : Int) < 0)) (by omega)) <| .c oz1 <| .c (IntWalk.i64_in ((↑n : Int) - 0) (by omega)) <| .c (decide_eq_true (p := ((↑n : Int) - 0 > 0)) (by omega)) <| .c (show (↑n : Int) - 0 = (↑((↑n : Int) - 0).toNat : Int) by omega) <| .c (show 0 < ((↑n : Int) - 0).toNat by omega) <| .c (show ((↑n : Int) - 0).toNat * 1 ≤ 140737488355328 by omega) <| .c (show ((↑n : Int) - 0).toNat ≤ 9223372036854775807 by omega) <| .c (show (↑(0 : Nat) : Int) = (↑(0 : Nat) : Int) by with_reducible rfl) <| .c (show 0 ≤ (List.replicate ((↑n : Int) - 0).toNat [u8 0]).length by omega) <| .n)

noncomputable def cat_l1_I (ls : List (List Int)) (k : Nat) : VS := stt 36 [(0, .sl 1 (ls.map catR)), (3, i64 (szK ls k : Nat)), (9, .sl 1 (ls.map catR)), (10, i64 ls.length), (11, i64 k)] []
noncomputable def cat_l1_Z (ls : List (List Int)) : VS := cat_l1_I ls (ls.length)
set_option maxRecDepth 100000 in
set_option maxHeartbeats 2000000 in
theorem cat_l1_s (ls : List (List Int)) (hl : ls.length ≤ 1000) (hs : szK ls ls.length ≤ 20000000) (k : Nat) (hk : k < ls.length) : VT Tryz.prog (fnC Tryz.f33 [1, 1, 0, 1, 0, 0]) (cat_l1_I ls k) .normal (cat_l1_I ls (k + 1)) := by
  have q1 := getD_szK ls hk
  have q2 := szK_le ls ls.length (Nat.le_of_lt hk)
  have q4 : (List.map (row1 IntKind.u8) (ls.getD k default)).length = (ls.getD k default).length := List.length_map _
  have q5 : IntKind.i64.wrap ((szK ls k : Int) + ((List.map (row1 IntKind.u8) (ls.getD k default)).length : Int)) = (szK ls (k + 1) : Int) := by
    rw [q4, szK, Int.natCast_add]; exact IntWalk.i64_in _ (by omega)
  have q6 : ¬ ((szK ls (k + 1) : Int) < 0) := by omega
  have oz2 := (map_at (catR) (default) (l := ls) (i := k) hk)
  have oz3 := (IntWalk.i64_in ((↑(szK ls k) : Int) + (↑(List.map (row1 IntKind.u8) (ls.getD k default)).length : Int)) (by omega))
  have oz6 := (Weak.int (k := .i64) (show (((↑(szK ls k) : Int) + (↑(List.map (row1 IntKind.u8) (ls.getD k default)).length : Int)) : Int) = ((↑(szK ls (k + 1)) : Int)) from (by (rw [q4, szK, Int.natCast_add]))))
  exact VT.run (W := [.r [] [], .br true, .r [] [.row (sO oz2)], .r [] [.n (nO oz3)], .r [] [], .br false, .r [] [.n ((↑k : Int) + 1)]]) (G := [.any (rg [(5, 1), (12, 9), (22, 1)]), .weak 3 (wO oz6), .weak 11 (i64 (↑(k + 1) : Int)), .sort]) (by kernel_rfl) (.c (decide_eq_true (p := ((↑k : Int) < (↑ls.length : Int))) (by omega)) <| .c (show 0 ≤ (↑k : Int) by omega) <| .c oz2 <| .c oz3 <| .c (decide_eq_false (p := ((↑(szK ls k) : Int) + (↑(List.map (row1 IntKind.u8) (ls.getD k default)).length : Int) < 0)) (by omega)) <| .c (IntWalk.i64_in ((↑k : Int) + 1) (by omega)) <| .c oz6 <| .c (Weak.int (k := .i64) (show (((↑k : Int) + 1) : Int) = ((↑(k + 1) : Int)) from (by omega))) <| .n)
set_option maxRecDepth 100000 in
set_option maxHeartbeats 2000000 in
theorem cat_l1_e (ls : List (List Int)) (hl : ls.length ≤ 1000) (hs : szK ls ls.length ≤ 20000000) : VT Tryz.prog (fnC Tryz.f33 [1, 1, 0, 1, 0, 0]) (cat_l1_I ls (ls.length)) (.exit 0) (cat_l1_Z ls) := by
  exact VT.run (W := [.r [] [], .br false]) (G := [.any [12], .sort]) (by kernel_rfl) (.c (decide_eq_false (p := ((↑ls.length : Int) < (↑ls.length : Int))) (by omega)) <| .n)
theorem cat_l1 (ls : List (List Int)) (hl : ls.length ≤ 1000) (hs : szK ls ls.length ≤ 20000000) : VT Tryz.prog (fnC Tryz.f33 [1, 1, 0, 1, 0]) (cat_l1_I ls 0) (.exit 0) (cat_l1_Z ls) :=
  VT.loop (fun k => cat_l1_I ls k) (ls.length) (fun k hk => cat_l1_s ls hl hs k hk) (cat_l1_e ls hl hs) (by intro h; cases h)

noncomputable def cat_l2_I (ls : List (List Int)) (k : Nat) : VS := stt 36 [(6, .own 900), (25, .sl 1 (ls.map catR)), (26, i64 ls.length), (27, i64 k)] [(900, .slc 5 1 ((catK ls k).map (row1 .u8)))]
noncomputable def cat_l2_Z (ls : List (List Int)) : VS := cat_l2_I ls (ls.length)
set_option maxRecDepth 100000 in
set_option maxHeartbeats 2000000 in
theorem cat_l2_s (ls : List (List Int)) (hl : ls.length ≤ 1000) (hs : szK ls ls.length ≤ 20000000) (k : Nat) (hk : k < ls.length) : VT Tryz.prog (fnC Tryz.f33 [1, 1, 1, 1, 0, 1, 0, 0]) (cat_l2_I ls k) .normal (cat_l2_I ls (k + 1)) := by
  have q1 := getD_szK ls hk
  have q2 := szK_le ls ls.length (Nat.le_of_lt hk)
  have q3 := catK_len ls k
  have oz2 := (map_at (catR) (default) (l := ls) (i := k) hk)
  exact VT.run (W := [.r [] [], .br true, .r [] [.row (sO oz2)], .r [] [], .r [] [.n ((↑k : Int) + 1)]]) (G := [.any (rg [(8, 1), (28, 7)]), .ren 33 900, .weak 27 (i64 (↑(k + 1) : Int)), .blk 900 (Blk.slc 5 1 (List.map (row1 IntKind.u8) (catK ls (k + 1)))), .sort]) (by kernel_rfl) (.c (decide_eq_true (p := ((↑k : Int) < (↑ls.length : Int))) (by omega)) <| .c (show 0 ≤ (↑k : Int) by omega) <| .c oz2 <| .c (show ((List.map (row1 IntKind.u8) (catK ls k)).length + (List.map (row1 IntKind.u8) (ls.getD k default)).length) * 1 ≤ 140737488355328 by (simp only [List.length_map]; omega)) <| .c (show (List.map (row1 IntKind.u8) (catK ls k)).length + (List.map (row1 IntKind.u8) (ls.getD k default)).length ≤ 9223372036854775807 by (simp only [List.length_map]; omega)) <| .c (IntWalk.i64_in ((↑k : Int) + 1) (by omega)) <| .c (Weak.int (k := .i64) (show (((↑k : Int) + 1) : Int) = ((↑(k + 1) : Int)) from (by omega))) <| .c (show BlkW (Blk.slc 5 1 (List.map (row1 IntKind.u8) (catK ls k) ++ List.map (row1 IntKind.u8) (ls.getD k default))) (Blk.slc 5 1 (List.map (row1 IntKind.u8) (catK ls (k + 1)))) from (BlkW.rows (e := 5) (z := 1) (rows_to (row1 IntKind.u8) (r := List.map (row1 IntKind.u8) (catK ls k) ++ List.map (row1 IntKind.u8) (ls.getD k default)) (l := catK ls k ++ ls.getD k default) (m := catK ls (k + 1)) (by first | (simp only [List.map_append, List.map_cons, List.map_nil, List.map_set, List.map_replicate, List.map_take, List.map_drop]; done) | rfl | (simp only [List.map_append, List.map_cons, List.map_nil, List.map_set, List.map_replicate, List.map_take, List.map_drop]; rfl)) (show (catK ls k ++ ls.getD k default) = (catK ls (k + 1)) from (by rfl))))) <| .n)
set_option maxRecDepth 100000 in
set_option maxHeartbeats 2000000 in
theorem cat_l2_e (ls : List (List Int)) (hl : ls.length ≤ 1000) (hs : szK ls ls.length ≤ 20000000) : VT Tryz.prog (fnC Tryz.f33 [1, 1, 1, 1, 0, 1, 0, 0]) (cat_l2_I ls (ls.length)) (.exit 2) (cat_l2_Z ls) := by
  exact VT.run (W := [.r [] [], .br false]) (G := [.any [28], .sort]) (by kernel_rfl) (.c (decide_eq_false (p := ((↑ls.length : Int) < (↑ls.length : Int))) (by omega)) <| .n)
theorem cat_l2 (ls : List (List Int)) (hl : ls.length ≤ 1000) (hs : szK ls ls.length ≤ 20000000) : VT Tryz.prog (fnC Tryz.f33 [1, 1, 1, 1, 0, 1, 0]) (cat_l2_I ls 0) (.exit 2) (cat_l2_Z ls) :=
  VT.loop (fun k => cat_l2_I ls k) (ls.length) (fun k hk => cat_l2_s ls hl hs k hk) (cat_l2_e ls hl hs) (by intro h; cases h)

set_option maxRecDepth 100000 in
set_option maxHeartbeats 2000000 in
theorem cat_y (ls : List (List Int)) (hl : ls.length ≤ 1000) (hs : szK ls ls.length ≤ 20000000) (h0 : 0 < szK ls ls.length) : VC Tryz.prog 33 ([.sl 1 (ls.map catR)]) (.sl 1 ((catK ls ls.length).map (row1 .u8))) := by
  have q3 := catK_len ls ls.length
  have oz1 := (Weak.int (k := .i64) (show (((↑(List.map catR ls).length : Int)) : Int) = ((↑ls.length : Int)) from (by (simp; done))))
  have oz2 := (Weak.int (k := .i64) (show ((0) : Int) = ((↑0 : Int)) from (by omega)))
  have oz3 := @cat_l1 (ls) hl hs
  have oz4 := @grow_v (szK ls ls.length) h0 hs
  have oz7 := @cat_l2 (ls) hl hs
  exact VC.run (fn := Tryz.f33) (W := [.r [] [], .r [] [], .r [] [], .code [.any [2], .weak 3 (i64 (↑(szK ls 0) : Int)), .weak 10 (wO oz1), .weak 11 (wO oz2), .sort] (Exit.exit 0) (zO oz3), .r [] [.callm [] [(951, 20000)] (rM oz4) (oM oz4)], .r [] [], .code [.any [0, 3, 9, 10, 11, 23, 24], .ren 20000 900, .weak 26 (wO oz1), .weak 27 (wO oz2), .sort] (Exit.exit 2) (zO oz7), .r [] []]) Tryz.func33 (by kernel_rfl) (.c (Weak.int (k := .i64) (show ((0) : Int) = ((↑(szK ls 0) : Int)) from (by rfl))) <| .c oz1 <| .c oz2 <| .c oz3 <| .c oz4 <| .c oz1 <| .c oz2 <| .c oz7 <| .n)

set_option maxRecDepth 100000 in
set_option maxHeartbeats 2000000 in
theorem cat_0 (ls : List (List Int)) (hl : ls.length ≤ 1000) (h0 : szK ls ls.length = 0) : VC Tryz.prog 33 ([.sl 1 (ls.map catR)]) (.sl 1 ((catK ls ls.length).map (row1 .u8))) := by
  have q3 := catK_len ls ls.length
  have q4 : (szK ls ls.length : Int) = 0 := by omega
  have oz1 := (Weak.int (k := .i64) (show (((↑(List.map catR ls).length : Int)) : Int) = ((↑ls.length : Int)) from (by (simp; done))))
  have oz2 := (Weak.int (k := .i64) (show ((0) : Int) = ((↑0 : Int)) from (by omega)))
  have oz3 := @cat_l1 (ls) hl (by omega)
  have oz5 := @grow_0
  have oz8 := @cat_l2 (ls) hl (by omega)
  exact VC.run (fn := Tryz.f33) (W := [.r [] [], .r [] [], .r [] [], .code [.any [2], .weak 3 (i64 (↑(szK ls 0) : Int)), .weak 10 (wO oz1), .weak 11 (wO oz2), .sort] (Exit.exit 0) (zO oz3), .r [] [.call (aO oz5) (rO oz5)], .r [] [], .code [.any [0, 3, 9, 10, 11, 23, 24], .weak 26 (wO oz1), .weak 27 (wO oz2), .nils 6 900 5 1, .sort] (Exit.exit 2) (zO oz8), .r [] []]) Tryz.func33 (by kernel_rfl) (.c (Weak.int (k := .i64) (show ((0) : Int) = ((↑(szK ls 0) : Int)) from (by rfl))) <| .c oz1 <| .c oz2 <| .c oz3 <| .c (show WeakL [AV.lit (Value.slice none 0 0), i64 (↑(szK ls ls.length) : Int)] [AV.lit (Value.slice none 0 0), i64 0] from (.cons (.refl _) (.cons (Weak.int (show (((↑(szK ls ls.length) : Int)) : Int) = (0) from q4)) .nil))) <| .c oz5 <| .c oz1 <| .c oz2 <| .c oz8 <| .n)
theorem cat_v (ls : List (List Int)) (hl : ls.length ≤ 1000) (hs : szK ls ls.length ≤ 20000000) : VC Tryz.prog 33 [.sl 1 (ls.map catR)] (.sl 1 ((catK ls ls.length).map (row1 .u8))) := by
  by_cases h : 0 < szK ls ls.length
  · exact cat_y ls hl hs h
  · exact cat_0 ls hl (by omega)
theorem cat2_v (a b : List Int) (h : a.length + b.length ≤ 20000000) : VC Tryz.prog 33 [.sl 1 [[.sl 1 (a.map (row1 .u8))], [.sl 1 (b.map (row1 .u8))]]] (.sl 1 ((a ++ b).map (row1 .u8))) :=
  cat_v [a, b] (by simp) (by show 0 + a.length + b.length ≤ _; omega)
set_option maxRecDepth 100000 in
set_option maxHeartbeats 2000000 in
theorem joined_v (a b : List Int) (h : a.length + b.length ≤ 20000000) : VC Tryz.prog 19 ([.sl 1 [[.sl 1 (a.map (row1 .u8))], [.sl 1 (b.map (row1 .u8))]]]) (.sl 1 ((a ++ b).map (row1 .u8))) := by
  have oz0 := @cat2_v (a) (b) h
  exact VC.run (fn := Tryz.f19) (W := [.r [] [], .r [] [.callr (rO oz0)]]) Tryz.func19 (by kernel_rfl) (.c oz0 <| .n)
end Go.Proofs.YtdmkhinckljddaaGreat

/- Whether bytes are alike; numbers as four bytes. No condition. -/
namespace Go.Proofs.YtdmkhinckljddaaGreat
open Go.RowKit
set_option linter.unusedSimpArgs false
set_option linter.unusedVariables false
set_option linter.unnecessarySimpa false

/-- A number's four bytes. -/
def p32L (n : Int) : List Int := [IntKind.u8.wrap n, IntKind.u8.wrap (n / 256), IntKind.u8.wrap (n / 65536), n / 16777216]
def p32K (n : Int) : Nat → List Int
  | 0 => [0, 0, 0, 0]
  | k + 1 => (p32K n k).set k ((p32L n).getD k 0)
theorem p32K_len (n : Int) (k : Nat) : (p32K n k).length = 4 := by
  induction k with
  | zero => rfl
  | succ k ih => rw [p32K, List.length_set]; exact ih
theorem p32K_step (n : Int) (h0 : 0 ≤ n) (h1 : n ≤ 4294967295) {k : Nat} (hk : k < 4) : (p32K n k).set (k : Int).toNat (IntKind.u8.wrap (n.fdiv (2 ^ min (8 * (k : Int)).toNat IntKind.u32.bits))) = p32K n (k + 1) := by
  rw [Int.toNat_natCast, p32K]
  congr 1
  have e : ∀ m : Int, 0 ≤ m → n.fdiv m = n / m := fun m hm => Int.fdiv_eq_ediv_of_nonneg _ hm
  match k, hk with
  | 0, _ => show IntKind.u8.wrap (n.fdiv 1) = IntKind.u8.wrap n; rw [e _ (by decide), Int.ediv_one]
  | 1, _ => show IntKind.u8.wrap (n.fdiv 256) = IntKind.u8.wrap (n / 256); rw [e _ (by decide)]
  | 2, _ => show IntKind.u8.wrap (n.fdiv 65536) = IntKind.u8.wrap (n / 65536); rw [e _ (by decide)]
  | 3, _ => show IntKind.u8.wrap (n.fdiv 16777216) = n / 16777216; rw [e _ (by decide)]; exact IntWalk.u8_in _ (by omega)
noncomputable def put32_l_I (n : Int) (k : Nat) : VS := stt 21 [(0, u32 n), (3, .own 900), (7, i64 4), (8, i64 k)] [(900, .slc 5 1 ((p32K n k).map (row1 .u8)))]
noncomputable def put32_l_Z (n : Int) : VS := put32_l_I n (4)
set_option maxRecDepth 100000 in
set_option maxHeartbeats 2000000 in
theorem put32_l_s (n : Int) (h0 : 0 ≤ n) (h1 : n ≤ 4294967295) (k : Nat) (hk : k < 4) : VT Tryz.prog (fnC Tryz.f20 [1, 1, 0, 1, 0, 0]) (put32_l_I n k) .normal (put32_l_I n (k + 1)) := by
  have q1 := p32K_len n k
  exact VT.run (W := [.r [] [], .br true, .r [] [], .r [] [.n (8 * (↑k : Int)), .n (n.fdiv (2 ^ min (8 * (↑k : Int)).toNat IntKind.u32.bits)), .w, .nat 0], .r [] [.n ((↑k : Int) + 1)]]) (G := [.any (rg [(4, 1), (9, 11)]), .weak 8 (i64 (↑(k + 1) : Int)), .blk 900 (Blk.slc 5 1 (List.map (row1 IntKind.u8) (p32K n (k + 1)))), .sort]) (by kernel_rfl) (.c (decide_eq_true (p := ((↑k : Int) < 4)) (by omega)) <| .c (IntWalk.i64_in (8 * (↑k : Int)) (by omega)) <| .c (show 0 ≤ 8 * (↑k : Int) by omega) <| .c (show n.fdiv (2 ^ min (8 * (↑k : Int)).toNat IntKind.u32.bits) = n.fdiv (2 ^ min (8 * (↑k : Int)).toNat IntKind.u32.bits) by with_reducible rfl) <| .c (show 0 ≤ (↑k : Int) by omega) <| .c (show (↑k : Int) < (↑(List.map (row1 IntKind.u8) (p32K n k)).length : Int) by (simp; omega)) <| .c (show (↑k : Int).toNat < (List.map (row1 IntKind.u8) (p32K n k)).length by (simp; omega)) <| .c (IntWalk.i64_in ((↑k : Int) + 1) (by omega)) <| .c (Weak.int (k := .i64) (show (((↑k : Int) + 1) : Int) = ((↑(k + 1) : Int)) from (by omega))) <| .c (show BlkW (Blk.slc 5 1 ((List.map (row1 IntKind.u8) (p32K n k)).set (↑k : Int).toNat [u8 (IntKind.u8.wrap (n.fdiv (2 ^ min (8 * (↑k : Int)).toNat IntKind.u32.bits)))])) (Blk.slc 5 1 (List.map (row1 IntKind.u8) (p32K n (k + 1)))) from (BlkW.rows (e := 5) (z := 1) (rows_to (row1 IntKind.u8) (r := (List.map (row1 IntKind.u8) (p32K n k)).set (↑k : Int).toNat [u8 (IntKind.u8.wrap (n.fdiv (2 ^ min (8 * (↑k : Int)).toNat IntKind.u32.bits)))]) (l := (p32K n k).set (↑k : Int).toNat (IntKind.u8.wrap (n.fdiv (2 ^ min (8 * (↑k : Int)).toNat IntKind.u32.bits)))) (m := p32K n (k + 1)) (by first | (simp only [List.map_append, List.map_cons, List.map_nil, List.map_set, List.map_replicate, List.map_take, List.map_drop]; done) | rfl | (simp only [List.map_append, List.map_cons, List.map_nil, List.map_set, List.map_replicate, List.map_take, List.map_drop]; rfl)) (show ((p32K n k).set (↑k : Int).toNat (IntKind.u8.wrap (n.fdiv (2 ^ min (8 * (↑k : Int)).toNat IntKind.u32.bits)))) = (p32K n (k + 1)) from (by with_reducible exact p32K_step n h0 h1 hk))))) <| .n)
set_option maxRecDepth 100000 in
set_option maxHeartbeats 2000000 in
theorem put32_l_e (n : Int) (h0 : 0 ≤ n) (h1 : n ≤ 4294967295) : VT Tryz.prog (fnC Tryz.f20 [1, 1, 0, 1, 0, 0]) (put32_l_I n (4)) (.exit 0) (put32_l_Z n) := by
  exact VT.run (W := [.r [] [], .br false]) (G := [.any [9], .sort]) (by kernel_rfl) (.c (show false = false by with_reducible rfl) <| .n)
theorem put32_l (n : Int) (h0 : 0 ≤ n) (h1 : n ≤ 4294967295) : VT Tryz.prog (fnC Tryz.f20 [1, 1, 0, 1, 0]) (put32_l_I n 0) (.exit 0) (put32_l_Z n) :=
  VT.loop (fun k => put32_l_I n k) (4) (fun k hk => put32_l_s n h0 h1 k hk) (put32_l_e n h0 h1) (by intro h; cases h)

set_option maxRecDepth 100000 in
set_option maxHeartbeats 2000000 in
theorem put32_v (n : Int) (h0 : 0 ≤ n) (h1 : n ≤ 4294967295) : VC Tryz.prog 20 ([u32 n]) (ints .u8 (p32L n)) := by
  have oz0 := (show (4 : Int) = (↑(4 : Nat) : Int) by omega)
  have oz7 := @put32_l (n) h0 h1
  exact (VC.run (fn := Tryz.f20) (W := [.r [] [], .r [] [.nats 4 4], .r [] [], .code [.any [2, 5, 6], .ren 5 900, .weak 7 (i64 4), .weak 8 (i64 (↑0 : Int)), .sort] (Exit.exit 0) (zO oz7), .r [] []]) (r := AV.sl 1 [[u8 ((p32L n).getD 0 0)], [u8 ((p32L n).getD 1 0)], [u8 ((p32L n).getD 2 0)], [u8 ((p32L n).getD 3 0)]]) Tryz.func20 (by kernel_rfl) (.c oz0 <| .c oz0 <| .c (show (4 : Nat) ≤ (4 : Nat) by omega) <| .c (show (1 : Nat) * (4 : Nat) ≤ (281474976710656 : Nat) by omega) <| .c (show (4 : Nat) ≤ (9223372036854775807 : Nat) by omega) <| .c (Weak.int (k := .i64) (show (((↑4 : Int)) : Int) = (4) from (by (simp; done)))) <| .c (Weak.int (k := .i64) (show ((0) : Int) = ((↑0 : Int)) from (by omega))) <| .c oz7 <| .n)).weak (WeakL.refl _) (Weak.rows (show ([[u8 ((p32L n).getD 0 0)], [u8 ((p32L n).getD 1 0)], [u8 ((p32L n).getD 2 0)], [u8 ((p32L n).getD 3 0)]]) = ([[u8 (IntKind.u8.wrap n)], [u8 (IntKind.u8.wrap (n / 256))], [u8 (IntKind.u8.wrap (n / 65536))], [u8 (n / 16777216)]]) from (by rfl)))
end Go.Proofs.YtdmkhinckljddaaGreat

/- The bytes of a number (leb.Put, the document's Put), how many they are, and whether two lists of bytes are alike. No condition. -/
namespace Go.Proofs.YtdmkhinckljddaaGreat
open Go.RowKit

def putL (n : Nat) : List Int := if n < 128 then [(n : Int)] else ((n % 128 + 128 : Nat) : Int) :: putL (n / 128)
termination_by n
decreasing_by omega

end Go.Proofs.YtdmkhinckljddaaGreat

/- Plain laws of numbers as bytes: what is got, that it comes back, in one form alone. No program here. No condition. -/
namespace Go.Proofs.YtdmkhinckljddaaGreat

def val : List Int → Int
  | [] => 0
  | c :: r => c % 128 + 128 * val r

def getAt : List Int → Nat → Int → Int × Int × Int
  | [], _, _ => (0, 0, 20)
  | c :: r, k, n =>
    if k = 9 ∧ 1 < c then (0, 0, 21) else if c = 0 ∧ 0 < k then (0, 0, 21) else
    if c < 128 then (n + c % 128 * 128 ^ k, (k : Int) + 1, 0) else getAt r (k + 1) (n + c % 128 * 128 ^ k)

/-- What was put is got, whatever stands behind it. -/
theorem get_put (b : List Int) : ∀ (n k : Nat) (acc : Int), k ≤ 9 → n < 128 ^ (9 - k) * 2 → (k = 0 ∨ 0 < n) →
    getAt (putL n ++ b) k acc = (acc + 128 ^ k * n, (k : Int) + (putL n).length, 0) := by
  intro n
  induction n using Nat.strongRecOn with
  | _ n ih =>
    intro k acc hk hn hz
    by_cases h : n < 128
    · have e : putL n = [(n : Int)] := by rw [putL, if_pos h]
      rw [e, List.singleton_append, getAt, if_neg (by rintro ⟨rfl, h1⟩; simp at hn; omega), if_neg (by omega), if_pos (by omega)]
      have : (n : Int) % 128 = n := by omega
      simp [this, Int.mul_comm]
    · have e : putL n = ((n % 128 + 128 : Nat) : Int) :: putL (n / 128) := by rw [putL, if_neg h]
      have h9 : k ≠ 9 := by rintro rfl; simp at hn; omega
      have hd : n / 128 < 128 ^ (9 - (k + 1)) * 2 := by
        have e2 : 9 - k = (9 - (k + 1)) + 1 := by omega
        rw [e2, Nat.pow_succ] at hn
        rw [Nat.div_lt_iff_lt_mul (by decide)]
        rw [Nat.mul_right_comm] at hn; exact hn
      rw [e, List.cons_append, getAt, if_neg (by omega), if_neg (by omega), if_neg (by omega), ih (n / 128) (by omega) (k + 1) _ (by omega) hd (.inr (by omega))]
      have e3 : ((n % 128 + 128 : Nat) : Int) % 128 = ((n % 128 : Nat) : Int) := by omega
      rw [e3]
      simp only [Prod.mk.injEq, List.length_cons]
      refine ⟨?_, by omega, trivial⟩
      have e4 : (n : Int) = ((n % 128 : Nat) : Int) + 128 * ((n / 128 : Nat) : Int) := by omega
      conv => rhs; rw [e4]
      rw [Int.mul_add, Int.pow_succ, ← Int.mul_assoc, Int.mul_comm (((n % 128 : Nat) : Int))]
      omega

end Go.Proofs.YtdmkhinckljddaaGreat

/- The law LebBack walked. No condition. -/
namespace Go.Proofs.YtdmkhinckljddaaGreat
open Go.RowKit

theorem got (n : Nat) (b : List Int) (hn : n < 18446744073709551616) : getAt (putL n ++ b) 0 0 = ((n : Int), ((putL n).length : Int), 0) := by
  rw [get_put b n 0 0 (by omega) (by omega) (.inl rfl)]; simp

end Go.Proofs.YtdmkhinckljddaaGreat

/- Numbers as bytes: the contracts in the words of values. No condition. -/
namespace Go.Proofs.YtdmkhinckljddaaGreat
open Go.RowKit
set_option linter.unusedSimpArgs false
set_option linter.unusedVariables false
set_option linter.unnecessarySimpa false

/-- A list of numbers, given as values, reads as that list. -/
theorem sl_rd {μ : Nat → Option OI} {S : Ex} {w : World} {k : IntKind} {L : List Int} {v : Value} (h : Rel μ S w (.sl 1 (L.map (row1 k))) v) : Rd w v (L.map (Value.int k)) := by
  cases h with
  | pure h =>
    generalize hr : L.map (row1 k) = rows at h
    cases h with
    | nil _ hm h0 =>
      have : L = [] := by simpa using hr
      subst this
      exact ⟨_, _, rfl, ⟨Nat.zero_le _, hm, h0⟩, fun h => absurd rfl h⟩
    | @sl _ _ b off cap cv hX hb hc hm hz h1 h2 h3 =>
      subst hr
      rw [List.length_map] at hc ⊢
      refine ⟨some ⟨b, off, none⟩, cap, by rw [List.length_map], ⟨by rw [List.length_map]; exact hc, hm, by simp⟩, fun hne => ⟨b, off, rfl, fun j hj => ?_⟩⟩
      rw [List.length_map] at hj
      have e : (L.map (row1 k))[j]? = some (row1 k L[j]) := by rw [List.getElem?_map, List.getElem?_eq_getElem hj]; rfl
      have a1 := h1 j _ 0 (.lit (.int k L[j])) e rfl
      have a2 := h2 j _ 0 (.lit (.int k L[j])) e rfl
      rw [show off + j = off + j * 1 + 0 from by omega, a1]
      generalize cv j 0 = u at a2
      cases a2
      rw [List.getElem_map]
theorem one_arg {μ : Nat → Option OI} {X : Ex} {w : World} {c : AV} {xs : List Value} (hl : xs.length = [c].length) (h : ∀ (i : Nat) (c' : AV) (v : Value), [c][i]? = some c' → xs[i]? = some v → Rel μ X w c' v) : ∃ v, xs = [v] ∧ Rel μ X w c v := by
  match xs, hl with
  | [v], _ => exact ⟨v, rfl, h 0 c v rfl rfl⟩
end Go.Proofs.YtdmkhinckljddaaGreat

/- Plain laws of the sums of 32 bits: a register behind a bit, behind bytes; by half bytes; joined; one byte that is another one. No program here. No condition. -/
namespace Go.Proofs.YtdmkhinckljddaaGreat

def poly : BitVec 32 := 3988292384#32
/-- A register behind one bit. -/
def st (v : BitVec 32) : BitVec 32 := (v >>> 1) ^^^ (if v.getLsbD 0 then poly else 0#32)
def stn : Nat → BitVec 32 → BitVec 32
  | 0, v => v
  | n + 1, v => stn n (st v)
/-- Behind one byte. -/
def byte (v : BitVec 32) (c : Int) : BitVec 32 := stn 8 (v ^^^ BitVec.ofInt 32 c)
def runB (v : BitVec 32) (l : List Int) : BitVec 32 := l.foldl byte v

theorem st_xor (a b : BitVec 32) : st (a ^^^ b) = st a ^^^ st b := by
  unfold st
  rw [BitVec.ushiftRight_xor_distrib, BitVec.getLsbD_xor]
  cases ha : a.getLsbD 0 <;> cases hb : b.getLsbD 0 <;> simp
  · rw [BitVec.xor_assoc]
  · rw [BitVec.xor_assoc, BitVec.xor_comm (b >>> 1) poly, BitVec.xor_assoc]
  · rw [BitVec.xor_assoc, ← BitVec.xor_assoc poly, BitVec.xor_comm poly (b >>> 1), BitVec.xor_assoc (b >>> 1), BitVec.xor_self, BitVec.xor_zero]
theorem stn_xor : ∀ (n : Nat) (a b : BitVec 32), stn n (a ^^^ b) = stn n a ^^^ stn n b
  | 0, _, _ => rfl
  | n + 1, a, b => by rw [stn, stn, stn, st_xor, stn_xor n]
theorem stn_add : ∀ (m n : Nat) (v : BitVec 32), stn (m + n) v = stn n (stn m v)
  | 0, n, v => by simp [stn]
  | m + 1, n, v => by rw [show m + 1 + n = (m + n) + 1 from by omega, stn, stn_add m n, stn]

/-- Low bits 0 are shifted out. -/
theorem stn_high (v : BitVec 32) : stn 4 ((v >>> 4) <<< 4) = v >>> 4 := by
  have h : ∀ (u : BitVec 32), u.getLsbD 0 = false → st u = u >>> 1 := fun u hu => by unfold st; rw [hu]; simp
  have e1 : st ((v >>> 4) <<< 4) = ((v >>> 4) <<< 4) >>> 1 := h _ (by simp)
  have e2 : st (((v >>> 4) <<< 4) >>> 1) = ((v >>> 4) <<< 4) >>> 1 >>> 1 := h _ (by simp)
  have e3 : st (((v >>> 4) <<< 4) >>> 1 >>> 1) = ((v >>> 4) <<< 4) >>> 1 >>> 1 >>> 1 := h _ (by simp)
  have e4 : st (((v >>> 4) <<< 4) >>> 1 >>> 1 >>> 1) = ((v >>> 4) <<< 4) >>> 1 >>> 1 >>> 1 >>> 1 := h _ (by simp)
  show st (st (st (st ((v >>> 4) <<< 4)))) = _
  rw [e1, e2, e3, e4]
  apply BitVec.eq_of_getLsbD_eq
  intro i hi
  simp only [BitVec.getLsbD_ushiftRight, BitVec.getLsbD_shiftLeft]
  by_cases h28 : i < 28
  · have a1 : 1 + (1 + (1 + (1 + i))) = i + 4 := by omega
    have a2 : i + 4 < 32 := by omega
    have a3 : ¬ (i + 4 < 4) := by omega
    have a4 : 4 + (i + 4 - 4) = i + 4 := by omega
    have a5 : 4 + i = i + 4 := by omega
    simp [a1, a2, a3, a5]
  · have a1 : 1 + (1 + (1 + (1 + i))) = i + 4 := by omega
    have a2 : ¬ i + 4 < 32 := by omega
    have a5 : v.getLsbD (4 + i) = false := BitVec.getLsbD_of_ge _ _ (by omega)
    simp [a1, a2, a5]

theorem low4 : ∀ i, i < 32 → (15#32 : BitVec 32).getLsbD i = decide (i < 4) := by decide
theorem split4 (v : BitVec 32) : v = ((v >>> 4) <<< 4) ^^^ (v &&& 15#32) := by
  apply BitVec.eq_of_getLsbD_eq
  intro i hi
  simp only [BitVec.getLsbD_xor, BitVec.getLsbD_and, BitVec.getLsbD_shiftLeft, low4 i hi, BitVec.getLsbD_ushiftRight]
  by_cases h : i < 4
  · simp [h]
  · have : 4 + (i - 4) = i := by omega
    simp [h, this, hi]

/-- Half a byte by a table. -/
theorem half_step (v : BitVec 32) : stn 4 v = (v >>> 4) ^^^ stn 4 (v &&& 15#32) := by
  conv => lhs; rw [split4 v]
  rw [stn_xor, stn_high]

theorem runB_append (v : BitVec 32) (a b : List Int) : runB v (a ++ b) = runB (runB v a) b := by simp [runB]
theorem byte_xor (a b : BitVec 32) (c : Int) : byte (a ^^^ b) c = stn 8 a ^^^ byte b c := by
  unfold byte; rw [BitVec.xor_assoc, stn_xor]
theorem runB_xor : ∀ (l : List Int) (a b : BitVec 32), runB (a ^^^ b) l = stn (8 * l.length) a ^^^ runB b l
  | [], a, b => by simp [runB, stn]
  | c :: l, a, b => by
    show runB (byte (a ^^^ b) c) l = _
    rw [byte_xor, runB_xor l]
    rw [show 8 * (c :: l).length = 8 + 8 * l.length from by simp; omega, stn_add]
    rfl

/-- A register that is none stays none: what two differ in is never lost. -/
theorem st_inj (v : BitVec 32) (h : st v = 0#32) : v = 0#32 := by
  unfold st at h
  cases h0 : v.getLsbD 0 with
  | true =>
    exfalso
    rw [h0] at h
    have := congrArg (fun x : BitVec 32 => x.getLsbD 31) h
    simp [poly] at this
  | false =>
    rw [h0] at h
    simp at h
    ext i hi
    cases i with
    | zero => simpa [BitVec.getLsbD_eq_getElem hi] using h0
    | succ i =>
      have := congrArg (fun x : BitVec 32 => x.getLsbD i) h
      simp [BitVec.getLsbD_ushiftRight, Nat.add_comm 1 i, BitVec.getLsbD_eq_getElem hi] at this
      simpa using this
theorem stn_inj : ∀ (n : Nat) (v : BitVec 32), stn n v = 0#32 → v = 0#32
  | 0, _, h => h
  | n + 1, v, h => st_inj v (stn_inj n _ h)
theorem run_inj (l : List Int) (a b : BitVec 32) (h : runB a l = runB b l) : a = b := by
  have e : a = (a ^^^ b) ^^^ b := by rw [BitVec.xor_assoc, BitVec.xor_self, BitVec.xor_zero]
  have h1 := runB_xor l (a ^^^ b) b
  rw [← e, h] at h1
  have h2 : stn (8 * l.length) (a ^^^ b) = 0#32 := by
    have := congrArg (· ^^^ runB b l) h1
    simp only [BitVec.xor_self, BitVec.xor_assoc, BitVec.xor_zero] at this
    exact this.symm
  have h3 := stn_inj _ _ h2
  rw [e, h3, BitVec.zero_xor]
theorem byte_inj (v : BitVec 32) (c d : Int) (h : byte v c = byte v d) : BitVec.ofInt 32 c = BitVec.ofInt 32 d := by
  unfold byte at h
  rw [stn_xor, stn_xor] at h
  have h1 : stn 8 (BitVec.ofInt 32 c ^^^ BitVec.ofInt 32 d) = 0#32 := by
    rw [stn_xor]
    have := congrArg (stn 8 v ^^^ ·) h
    simp only [← BitVec.xor_assoc, BitVec.xor_self, BitVec.zero_xor] at this
    rw [this, BitVec.xor_self]
  have h2 := stn_inj _ _ h1
  have e : BitVec.ofInt 32 c = (BitVec.ofInt 32 c ^^^ BitVec.ofInt 32 d) ^^^ BitVec.ofInt 32 d := by rw [BitVec.xor_assoc, BitVec.xor_self, BitVec.xor_zero]
  rw [e, h2, BitVec.zero_xor]
/-- One byte that is another one is told. -/
theorem tells (v : BitVec 32) (a b : List Int) (c d : Int) (hc : 0 ≤ c ∧ c ≤ 255) (hd : 0 ≤ d ∧ d ≤ 255) (h : c ≠ d) : runB v (a ++ c :: b) ≠ runB v (a ++ d :: b) := by
  intro he
  rw [runB_append, runB_append] at he
  have h1 := run_inj b _ _ (show runB (byte (runB v a) c) b = runB (byte (runB v a) d) b from he)
  have h2 := congrArg BitVec.toNat (byte_inj _ _ _ h1)
  rw [BitVec.toNat_ofInt, BitVec.toNat_ofInt] at h2
  omega
end Go.Proofs.YtdmkhinckljddaaGreat

/- Sums of 32 bits: the operations on a register as the model reckons them; the table. No condition. -/
namespace Go.Proofs.YtdmkhinckljddaaGreat
open Go.RowKit

/-- A register's number. -/
def uv (v : BitVec 32) : Int := (v.toNat : Int)
theorem uv_bd (v : BitVec 32) : 0 ≤ uv v ∧ uv v ≤ 4294967295 := by have := v.isLt; unfold uv; omega
theorem uv_ofInt (v : BitVec 32) : BitVec.ofInt 32 (uv v) = v := by
  unfold uv; rw [BitVec.ofInt_natCast, BitVec.ofNat_toNat]; simp
theorem of_uv (n : Int) (h0 : 0 ≤ n) (h1 : n ≤ 4294967295) : uv (BitVec.ofInt 32 n) = n := by
  unfold uv; rw [BitVec.toNat_ofInt]; omega
theorem wrap_uv (v : BitVec 32) : IntKind.u32.wrap (uv v) = uv v := by
  have := v.isLt
  rw [IntKind.wrap_u32']; unfold uv; omega
theorem uv_xor (a b : BitVec 32) : bits .xor .u32 (uv a) (uv b) = uv (a ^^^ b) := by
  show IntKind.u32.wrap ((BitVec.ofInt 32 (uv a) ^^^ BitVec.ofInt 32 (uv b)).toNat : Int) = _
  rw [uv_ofInt, uv_ofInt]; exact wrap_uv _
theorem uv_and (a b : BitVec 32) : bits .and .u32 (uv a) (uv b) = uv (a &&& b) := by
  show IntKind.u32.wrap ((BitVec.ofInt 32 (uv a) &&& BitVec.ofInt 32 (uv b)).toNat : Int) = _
  rw [uv_ofInt, uv_ofInt]; exact wrap_uv _
theorem uv_half (v : BitVec 32) : uv v / (2 : Int) = uv (v >>> 1) := by
  unfold uv; rw [BitVec.toNat_ushiftRight, Nat.shiftRight_eq_div_pow]; omega
theorem uv_16 (v : BitVec 32) : uv v / (16 : Int) = uv (v >>> 4) := by
  unfold uv; rw [BitVec.toNat_ushiftRight, Nat.shiftRight_eq_div_pow]; omega
theorem uv_neg (v : BitVec 32) : -uv v % 4294967296 = uv (-v) := by
  unfold uv; rw [BitVec.toNat_neg]; have := v.isLt; omega
theorem and_one (v : BitVec 32) : v &&& 1#32 = if v.getLsbD 0 then 1#32 else 0#32 := by
  apply BitVec.eq_of_getLsbD_eq
  intro i hi
  have h1 : ∀ i, i < 32 → (1#32 : BitVec 32).getLsbD i = decide (i = 0) := by decide
  rw [BitVec.getLsbD_and, h1 i hi]
  by_cases h : i = 0
  · subst h; cases hv : v.getLsbD 0 <;> simp
  · cases hv : v.getLsbD 0 <;> simp [h, h1 i hi]
theorem uv_st (v : BitVec 32) : bits .xor .u32 (uv v / 2) (bits .and .u32 3988292384 (-bits .and .u32 (uv v) 1 % 4294967296)) = uv (st v) := by
  have e1 : (1 : Int) = uv 1#32 := rfl
  have e2 : (3988292384 : Int) = uv poly := rfl
  rw [uv_half, e1, uv_and, uv_neg, e2, uv_and, uv_xor]
  congr 1
  unfold st
  rw [and_one]
  cases v.getLsbD 0
  · simp
  · have : poly &&& 4294967295#32 = poly := by decide
    simp [this]
theorem stn_succ (m : Nat) (v : BitVec 32) : stn (m + 1) v = st (stn m v) := by rw [stn_add]; rfl

def tblAt (i : Nat) : Int := uv (stn 4 (BitVec.ofNat 32 i))
def tbl (k : Nat) : Array Value := ((List.range 16).map fun i => Value.int .u32 (if i < k then tblAt i else 0)).toArray
theorem tbl_size (k : Nat) : (tbl k).size = 16 := by simp [tbl]
theorem tbl_zero : tbl 0 = #[.int .u32 0, .int .u32 0, .int .u32 0, .int .u32 0, .int .u32 0, .int .u32 0, .int .u32 0, .int .u32 0, .int .u32 0, .int .u32 0, .int .u32 0, .int .u32 0, .int .u32 0, .int .u32 0, .int .u32 0, .int .u32 0] := rfl
theorem tbl_get (k i : Nat) (h : i < 16) : (tbl k)[i]? = some (.int .u32 (if i < k then tblAt i else 0)) := by
  unfold tbl; simp [h]
theorem tbl_no (k i : Nat) (h : ¬ i < 16) : (tbl k)[i]? = none := by
  rw [Array.getElem?_eq_none]; rw [tbl_size]; omega
theorem tbl_set (k : Nat) : (tbl k).setIfInBounds k (.int .u32 (tblAt k)) = tbl (k + 1) := by
  apply Array.ext_getElem?
  intro i
  rw [Array.getElem?_setIfInBounds, tbl_size]
  by_cases hi : i < 16
  · rw [tbl_get _ _ hi, tbl_get _ _ hi]
    by_cases hik : k = i
    · subst hik; simp [hi]
    · rw [if_neg hik]
      by_cases h : i < k
      · rw [if_pos h, if_pos (by omega)]
      · rw [if_neg h, if_neg (by omega)]
  · rw [tbl_no _ _ hi, tbl_no _ _ hi]; split <;> simp; omega
set_option maxHeartbeats 800000 in
set_option maxRecDepth 100000 in
theorem table_any (w : World) : Calls Tryz.prog 48 #[] w fun e w' => e = .returned (.agg (tbl 16)) ∧ Below w.heap.size w w' := by
  go_enter Tryz.func48, Tryz.ntmps48
  go_wp2_with fail
  go_loopw [4] (fun i wr => ∃ (k : Nat), i = .int .i64 k ∧ k ≤ 16 ∧ At wr w.heap.size 107 (tbl 0) ∧ At wr (w.heap.size + 1) 107 (tbl k) ∧ Below w.heap.size w wr) (fun i _ => 16 - (intOf i).toNat)
  case atStart =>
    rw [← tbl_zero]
    refine ⟨0, rfl, by omega, (At.new _ _ _).alloc _, ?_, ((Below.refl _ _).alloc (Nat.le_refl _) _).alloc (by simp) _⟩
    have := At.new (w.alloc (.cells (tbl 0) 107)) 107 (tbl 0)
    simpa using this
  case round =>
    obtain ⟨k, rfl, hk, h0, h1, hb⟩ := hrel
    by_cases hlt : k < 16
    · have c1 := h1.cell k
      have f1 := h1.free k
      rw [tbl_get k k hlt] at c1
      go_wp2_with fail
      go_loop [3, 9] (fun v j => ∃ (m : Nat), j = .int .i64 m ∧ m ≤ 4 ∧ v = .int .u32 (uv (stn m (BitVec.ofNat 32 k)))) (fun _ j => 4 - (intOf j).toNat)
      case atStart => exact ⟨0, rfl, by omega, by rw [show uv (stn 0 (BitVec.ofNat 32 k)) = (k : Int) from by unfold stn uv; rw [BitVec.toNat_ofNat]; omega]⟩
      case round =>
        obtain ⟨m, rfl, hm, rfl⟩ := hrel
        by_cases hlt2 : m < 4
        · go_wp2_with fail
          go_round
          case rel => exact ⟨m + 1, by go_num, by omega, by rw [uv_st, stn_succ]⟩
          case measure => simp [intOf]; omega
        · obtain rfl : m = 4 := by omega
          go_wp2_with fail
          go_roundw
          case rel =>
            refine ⟨k + 1, by go_num, by omega, h0.other (by simp) _, ?_, hb.setCell (by simp) _⟩
            rw [← tbl_set]; exact h1.set k _
          case measure => simp [intOf]; omega
    · obtain rfl : k = 16 := by omega
      have hr := (h0.row (tbl 16))
      go_wp2_with (first | (refine wpList_load_row rfl 107 _ rfl _ rfl _ _ _ _ h1 Tryz.underlying107 rfl (by kernel_rfl) ?_) | (refine wpList_store_row rfl 107 _ _ rfl _ _ rfl rfl _ _ h0 (by kernel_rfl) rfl (by kernel_rfl) ?_))
      refine bodyPost_ret (v := .agg (tbl 16)) ?_ rfl ⟨rfl, bl_row hb (Nat.le_refl _) _⟩
      exact results_cell_row rfl _ _ w.heap.size 107 (tbl 16) (0, 0) _ rfl hr Tryz.underlying107 rfl (by kernel_rfl)
end Go.Proofs.YtdmkhinckljddaaGreat

/- Sums of 32 bits: registers behind bytes, of the program and of the document. No condition. -/
namespace Go.Proofs.YtdmkhinckljddaaGreat
open Go.RowKit

theorem and15 (v : BitVec 32) : bits .and .u32 (uv v) 15 = ((v &&& 15#32).toNat : Int) ∧ (v &&& 15#32).toNat < 16 := by
  refine ⟨uv_and v 15#32, ?_⟩
  rw [BitVec.toNat_and]
  exact Nat.lt_of_le_of_lt Nat.and_le_right (by decide)
/-- Half a byte by the table's number. -/
theorem half_uv (v : BitVec 32) : bits .xor .u32 (uv (v >>> 4)) (tblAt (v &&& 15#32).toNat) = uv (stn 4 v) := by
  unfold tblAt; rw [uv_xor, half_step v]; simp
theorem xor_in (v : BitVec 32) (c : Int) (h0 : 0 ≤ c) (h1 : c ≤ 255) : bits .xor .u32 (uv v) c = uv (v ^^^ BitVec.ofInt 32 c) := by
  conv => lhs; rw [← of_uv c h0 (by omega)]
  rw [uv_xor]
theorem runB_take (V : BitVec 32) (l : List Int) (k : Nat) (hk : k < l.length) : runB V (l.take (k + 1)) = byte (runB V (l.take k)) l[k] := by
  unfold runB; rw [List.take_succ_eq_append_getElem hk, List.foldl_append]; rfl

set_option maxHeartbeats 800000 in
set_option maxRecDepth 100000 in
theorem crcRun_any (V : BitVec 32) (v : Value) (l : List Int) (w : World) (hv : Rd w v (l.map (Value.int .u8))) (hl : l.length ≤ 1099511627776) (hx : ∀ x ∈ l, 0 ≤ x ∧ x ≤ 255) :
    Calls Tryz.prog 34 #[.int .u32 (uv V), v] w fun e w' => e = .returned (.int .u32 (uv (runB V l))) ∧ Below w.heap.size w w' := by
  obtain ⟨ao, ca, rfl, _, ha⟩ := hv
  simp only [List.length_map]
  have HX := Lib.hid hx; clear hx
  go_enter Tryz.func34, Tryz.ntmps34
  go_wp2_with fail
  refine (table_any _).mono ?_
  rintro e w1 ⟨rfl, hb1⟩
  have s1 := tbl_size 16
  go_wp2_with (refine wpList_storeNew _ (tbl 16) 107 rfl _ _ rfl rfl rfl (by kernel_rfl) rfl (by kernel_rfl) ?_)
  obtain ⟨w2, hw2⟩ : ∃ w2, w2 = w1.alloc (.cells (tbl 16) 107) := ⟨_, rfl⟩
  have ht := At.new w1 107 (tbl 16)
  have hb2 : Below w.heap.size w w2 := by rw [hw2]; exact hb1.alloc hb1.size _
  rw [← hw2] at ht ⊢
  clear hw2 hb1
  go_loop [0, 11] (fun r i => ∃ (k : Nat), i = .int .i64 k ∧ k ≤ l.length ∧ r = .int .u32 (uv (runB V (l.take k)))) (fun _ i => l.length - (intOf i).toNat)
  case atStart => exact ⟨0, rfl, by omega, by simp [runB]⟩
  case round =>
    obtain ⟨k, rfl, hk, rfl⟩ := hrel
    by_cases hlt : k < l.length
    · obtain ⟨b, o, rfl, hc⟩ := ha (by intro h; simp at h; subst h; simp at hlt)
      have hcell := bl_get hb2 (hc k (by simpa using hlt))
      simp only [List.getElem_map] at hcell
      obtain ⟨c0, c1⟩ := HX.out l[k] (List.getElem_mem hlt)
      have hrun := runB_take V l k hlt
      obtain ⟨c, hc'⟩ : ∃ c, c = l[k] := ⟨_, rfl⟩
      rw [← hc'] at hcell c0 c1 hrun
      obtain ⟨X, hX⟩ : ∃ X, X = runB V (l.take k) := ⟨_, rfl⟩
      rw [← hX] at hrun ⊢
      have HR := Lib.hid hrun
      clear hX hrun hc' hc ha
      have e1 := xor_in X c c0 c1
      obtain ⟨Y, hY⟩ : ∃ Y, Y = X ^^^ BitVec.ofInt 32 c := ⟨_, rfl⟩
      rw [← hY] at e1
      obtain ⟨e2, n1⟩ := and15 Y
      have e3 := uv_16 Y
      have e4 := half_uv Y
      obtain ⟨i1, hi1⟩ : ∃ i, i = (Y &&& 15#32).toNat := ⟨_, rfl⟩
      rw [← hi1] at e2 n1 e4
      obtain ⟨Z, hZ⟩ : ∃ Z, Z = stn 4 Y := ⟨_, rfl⟩
      rw [← hZ] at e4
      obtain ⟨f2, n2⟩ := and15 Z
      have f3 := uv_16 Z
      have f4 := half_uv Z
      obtain ⟨i2, hi2⟩ : ∃ i, i = (Z &&& 15#32).toNat := ⟨_, rfl⟩
      rw [← hi2] at f2 n2 f4
      have d1 := ht.cell i1
      have d2 := ht.cell i2
      rw [tbl_get _ _ n1, if_pos n1] at d1
      rw [tbl_get _ _ n2, if_pos n2] at d2
      have HE : Hid (stn 4 Z = byte X c) := by rw [hZ, hY]; exact (stn_add 4 4 _).symm
      clear hY hZ hi1 hi2
      go_wp2_with fail
      go_round
      case rel => exact ⟨k + 1, by go_num, by omega, by rw [HR.out, ← HE.out]⟩
      case measure => simp [intOf]; omega
    · have hkk : l.take k = l := List.take_of_length_le (by omega)
      rw [hkk]
      go_wp2
      go_ret
      exact ⟨rfl, hb2⟩

end Go.Proofs.YtdmkhinckljddaaGreat

/- Sums of 32 bits: the sums of the program and of the document; fixed calls. No condition. -/
namespace Go.Proofs.YtdmkhinckljddaaGreat
open Go.RowKit

def sumOf (l : List Int) : BitVec 32 := ~~~ (runB (BitVec.allOnes 32) l)
theorem uv_not (v : BitVec 32) : bits .xor .u32 IntKind.u32.max (uv v) = uv (~~~ v) := by
  rw [show IntKind.u32.max = uv (BitVec.allOnes 32) from rfl, uv_xor, BitVec.allOnes_xor]

set_option maxHeartbeats 800000 in
set_option maxRecDepth 100000 in
theorem crcOf_any (v : Value) (l : List Int) (w : World) (hv : Rd w v (l.map (Value.int .u8))) (hl : l.length ≤ 1099511627776) (hx : ∀ x ∈ l, 0 ≤ x ∧ x ≤ 255) :
    Calls Tryz.prog 21 #[v] w fun e w' => e = .returned (.int .u32 (uv (sumOf l))) ∧ Below w.heap.size w w' := by
  have HC := Lib.hid (crcRun_any (BitVec.allOnes 32) v l w hv hl hx)
  have hsg : IntKind.u32.signed = false := rfl
  have hn := uv_not (runB (BitVec.allOnes 32) l)
  obtain ⟨R, hR⟩ : ∃ R, R = runB (BitVec.allOnes 32) l := ⟨_, rfl⟩
  rw [← hR] at HC hn
  have e2 : ~~~ R = sumOf l := by rw [hR]; rfl
  clear hR
  go_enter Tryz.func21, Tryz.ntmps21
  go_wp2_with fail
  refine HC.out.mono ?_
  rintro e w1 ⟨rfl, hb1⟩
  go_wp2
  go_ret
  exact ⟨by rw [← e2]; rfl, hb1⟩
end Go.Proofs.YtdmkhinckljddaaGreat

/- Sums of bytes; bytes with their sum behind. No condition. -/
namespace Go.Proofs.YtdmkhinckljddaaGreat
open Go.RowKit
set_option linter.unusedSimpArgs false
set_option linter.unusedVariables false
set_option linter.unnecessarySimpa false

/-- The sum of bytes, kept apart from how. -/
def crcL (l : List Int) : Int := uv (sumOf l)
theorem crcL_bd (l : List Int) : 0 ≤ crcL l ∧ crcL l ≤ 4294967295 := uv_bd _
theorem crc_v (l : List Int) (hx : ∀ x ∈ l, 0 ≤ x ∧ x ≤ 255) (hl : l.length ≤ 20000000) : VC Tryz.prog 21 [ints .u8 l] (u32 (crcL l)) := by
  intro S w xs hS hn hxs
  obtain ⟨v, rfl, hv⟩ := one_arg hn hxs
  exact (crcOf_any v l w (sl_rd hv) (by omega) hx).mono fun e w' ⟨he, hb⟩ => ⟨_, he, .pure (.lit _), hb⟩
/-- What Put32 makes, kept apart from how. -/
def P4V (F : Int → List Int) : Prop := ∀ n : Int, 0 ≤ n → n ≤ 4294967295 → VC Tryz.prog 20 [u32 n] (ints .u8 (F n))
/-- Bytes with their sum behind, kept apart from how. -/
def sealL (l : List Int) : List Int := l ++ p32L (crcL l)
theorem sealL_len (l : List Int) : (sealL l).length = l.length + 4 := by rw [sealL, List.length_append]; rfl
end Go.Proofs.YtdmkhinckljddaaGreat

/- Whether blocks may be, by the program and by the document. No condition. -/
namespace Go.Proofs.YtdmkhinckljddaaGreat
open Go.RowKit
set_option linter.unusedSimpArgs false
set_option linter.unusedVariables false
set_option linter.unnecessarySimpa false

structure Blc.Sm (x : Blc) : Prop where
  l : x.n.length ≤ 12
  s : ∀ n ∈ x.n, n.w.length ≤ 100000 ∧ n.b.length ≤ 100000
  w : x.w.length ≤ 100000
  b : x.b.length ≤ 100000
theorem Blc.sm {x : Blc} (h : blcS x = true) : x.Sm := by
  have q := blc_facts h
  exact ⟨q.1, q.2.2.1, by omega, by omega⟩
end Go.Proofs.YtdmkhinckljddaaGreat

/- Whether models and bundles may be, by the program. No condition. -/
namespace Go.Proofs.YtdmkhinckljddaaGreat
open Go.RowKit
set_option linter.unusedSimpArgs false
set_option linter.unusedVariables false
set_option linter.unnecessarySimpa false

structure Bun.Sm (u : Bun) : Prop where
  l : u.m.length ≤ 4
  m : ∀ d ∈ u.m, d.l.length ≤ 8 ∧ ∀ x ∈ d.l, x.Sm
theorem Bun.sm {u : Bun} (h : bunS u = true) : u.Sm := by
  simp only [bunS, mdlS, Bool.and_eq_true, decide_eq_true_eq, List.all_eq_true] at h
  exact ⟨h.1, fun d hd => ⟨(h.2 d hd).1, fun x hx => Blc.sm ((h.2 d hd).2 x hx)⟩⟩
end Go.Proofs.YtdmkhinckljddaaGreat

/- What stands between the first bytes and the sum; fixed calls. No condition. -/
namespace Go.Proofs.YtdmkhinckljddaaGreat
open Go.RowKit
set_option linter.unusedSimpArgs false
set_option linter.unusedVariables false
set_option linter.unnecessarySimpa false

set_option maxRecDepth 100000 in
set_option maxHeartbeats 2000000 in
theorem open_s (l : List Int) (h : l.length < 8) : VC Tryz.prog 15 ([ints .u8 l]) (.tup [.sl 1 (([] : List Int).map (row1 .u8)), i64 20]) := by
  exact (VC.run (fn := Tryz.f15) (W := [.r [] [], .r [] [], .br false, .r [] [], .br true, .r [] []]) (r := AV.tup [AV.lit (Value.slice none 0 0), i64 20]) Tryz.func15 (by kernel_rfl) (.c (show decide ((↑(List.map (row1 IntKind.u8) l).length : Int) > 1048576) = false by (simp; omega)) <| .c (show decide ((↑(List.map (row1 IntKind.u8) l).length : Int) < 8) = true by (simp; omega)) <| .n)).weak (WeakL.refl _) (Weak.tup (.cons (Weak.nil _) (.cons (.refl _) .nil)))

set_option maxRecDepth 100000 in
set_option maxHeartbeats 2000000 in
theorem dec_o (l : List Int) (e : Int) (he : e ≠ 0) (h : VC Tryz.prog 15 [ints .u8 l] (.tup [.sl 1 (([] : List Int).map (row1 .u8)), i64 e])) : VC Tryz.prog 9 ([ints .u8 l]) (.tup [.agg [i64 0, i64 0, i64 0, i64 0, nilv], i64 e]) := by
  have oz0 := @h
  exact VC.run (fn := Tryz.f9) (W := [.r [] [], .r [] [.callr (rO oz0)], .r [] [], .br true, .r [] []]) Tryz.func9 (by kernel_rfl) (.c oz0 <| .c (show (e != 0) = true by (simp; omega)) <| .n)

set_option maxRecDepth 100000 in
set_option maxHeartbeats 2000000 in
theorem known35_v (S : List Int) (hS : S.length = 5) (h2 : VC Tryz.prog 10 [ints .u8 [1]] (ints .u8 S)) (h : VC Tryz.prog 9 [ints .u8 []] (.tup [.agg [i64 0, i64 0, i64 0, i64 0, nilv], i64 20])) : VC Tryz.prog 5 ([]) (bv true) := by
  have q : (((S.map (row1 .u8)).length : Int) == 5) = true := by rw [List.length_map, hS]; rfl
  have oz1 := @h
  have oz2 := (show true = true by with_reducible rfl)
  have oz5 := @h2
  exact (VC.run (fn := Tryz.f5) (W := [.r [] [], .r [] [.call (aO oz1) (rO oz1)], .r [] [.br true, .br true, .frz 0, .br true, .callr (rO oz5), .br true, .br true, .br true]]) (r := bv ((↑(List.map (row1 IntKind.u8) S).length : Int) == 5)) Tryz.func5 (by kernel_rfl) (.c (show WeakL [AV.lit (Value.slice none 0 0)] [AV.sl 1 []] from (.cons (Weak.nil _) .nil)) <| .c oz1 <| .c oz2 <| .c oz2 <| .c oz2 <| .c oz5 <| .c oz2 <| .c oz2 <| .c oz2 <| .n)).weak (WeakL.refl _) (Weak.bool (show (((↑(List.map (row1 IntKind.u8) S).length : Int) == 5) : Bool) = (true) from q))
end Go.Proofs.YtdmkhinckljddaaGreat

