/- Texts of this claim, put together: VA. No condition. -/
import Derived.Below
import Derived.Orders
import Derived.Laws.AppendOwn
import Derived.Laws.Tables
import Derived.Laws.CopyOwn
import Derived.Deep.MidRow
import Derived.RangeFuncRecord
import Derived.RangeFuncLeaves
import Derived.OrdersIn
import Derived.TacticsIn
import Derived.Laws.OwnMore
import Derived.MapKept
import Derived.Laws.BytesArg
import Derived.Lib.AppendZeros
import Derived.Laws.IdiomStrings
set_option linter.unusedVariables false
set_option linter.unusedSimpArgs false
set_option linter.unnecessarySimpa false
/- A logic of values: what operations make of what is known of their operands, in whatever memory. No condition. (Theorems over any program.) -/
set_option linter.unusedVariables false
set_option linter.unusedSimpArgs false
set_option linter.unnecessarySimpa false
namespace Go.Proofs.YtdmkhinckljddaaGreat
open Go.RowKit

/-- What is known of a value: nothing; the very value; a struct's cells; several results; a slice that nobody writes, as rows of cells; an address into such; a slice or a place in one of the call's own blocks; a function with what it captured; what a guarded operation left: a value if the condition holds, else nothing. -/
inductive AV where
  | any
  | lit (v : Value)
  | agg (l : List AV)
  | tup (l : List AV)
  | sl (z : Nat) (rows : List (List AV))
  | ia (row : List AV)
  | own (k : Nat)
  | ptr (k i off : Nat)
  | clo (f : Nat) (caps : List AV)
  | opt (c : Bool) (d : Nat) (w : Bool) (a : AV)
  | ifc (t : TypeId) (a : AV)
  | mth (n : String) (a : AV)
  | bnd (f : Nat) (a : AV)
  | mp (k : Nat)
  | yl (k : Nat)
  | fs (z : Nat) (rows : List (List AV))
  | tr (z : Nat) (rows : List (List AV))
  | tia (row : List AV)
  | uint (k : IntKind)
/-- The name of a region: blocks whose numbers turn. -/
def rk : Nat := 200000

mutual
def AV.ment (k : Nat) : AV → Bool
  | .own k' => k' == k
  | .ptr k' _ _ => k' == k
  | .agg l => AV.mentL k l
  | .tup l => AV.mentL k l
  | .clo _ l => AV.mentL k l
  | .opt _ _ _ a => a.ment k
  | .ifc _ a => a.ment k
  | .mth _ a => a.ment k
  | .bnd _ a => a.ment k
  | .mp k' => k' == k
  | .yl k' => k' == k
  | .tr _ _ => rk == k
  | .tia _ => rk == k
  | _ => false
def AV.mentL (k : Nat) : List AV → Bool
  | [] => false
  | a :: l => a.ment k || AV.mentL k l
end
def mpOf : AV → AV
  | .ptr k _ _ => .mp k
  | _ => .any
def ylOf : AV → AV
  | .ptr k _ _ => .yl k
  | _ => .any
mutual
def AV.map (fo : Nat → AV) (fp : Nat → Nat → Nat → AV) : AV → AV
  | .own k => fo k
  | .ptr k i o => fp k i o
  | .agg l => .agg (AV.mapL fo fp l)
  | .tup l => .tup (AV.mapL fo fp l)
  | .clo f l => .clo f (AV.mapL fo fp l)
  | .opt c d w a => .opt c d w (a.map fo fp)
  | .ifc t a => .ifc t (a.map fo fp)
  | .mth n a => .mth n (a.map fo fp)
  | .bnd n a => .bnd n (a.map fo fp)
  | .mp k => mpOf (fp k 0 0)
  | .yl k => ylOf (fp k 0 0)
  | v => v
def AV.mapL (fo : Nat → AV) (fp : Nat → Nat → Nat → AV) : List AV → List AV
  | [] => []
  | a :: l => a.map fo fp :: AV.mapL fo fp l
end
theorem AV.mapL_eq (fo : Nat → AV) (fp : Nat → Nat → Nat → AV) : ∀ l, AV.mapL fo fp l = l.map (AV.map fo fp)
  | [] => rfl
  | a :: l => by rw [AV.mapL, AV.mapL_eq fo fp l]; rfl
theorem AV.mentL_mem {k : Nat} : ∀ {l : List AV} {i : Nat} {a : AV}, l[i]? = some a → a.ment k = true → AV.mentL k l = true
  | [], _, _, h, _ => by simp at h
  | b :: l, 0, a, h, hm => by simp at h; subst h; simp [AV.mentL, hm]
  | b :: l, i + 1, a, h, hm => by simp at h; simp [AV.mentL, AV.mentL_mem h hm]
theorem AV.mentL_not {k : Nat} {l : List AV} (h : AV.mentL k l = false) {i : Nat} {a : AV} (ha : l[i]? = some a) : a.ment k = false := by
  cases hm : a.ment k with
  | false => rfl
  | true => rw [AV.mentL_mem ha hm] at h; cases h

/-- Blocks out of bounds; blocks that are not fresh. -/
structure Ex where
  x : Nat → Prop
  f : Nat → Prop
instance : CoeFun Ex fun _ => Nat → Prop := ⟨Ex.x⟩
/-- A value without an address of the call's own. Blocks in X are out of bounds for it. -/
inductive PRel (X : Ex) (w : World) : AV → Value → Prop
  | lit (v : Value) : PRel X w (.lit v) v
  | nil (z : Nat) {a : Option Addr} {cap : Nat} (hm : cap ≤ maxLen) (h0 : a = none → cap = 0) : PRel X w (.sl z []) (.slice a 0 cap)
  | sl {z : Nat} {rows : List (List AV)} {b off cap : Nat} (cv : Nat → Nat → Value) (hX : rows ≠ [] → ¬ X b) (hb : rows ≠ [] → b < w.heap.size) (hc : rows.length ≤ cap) (hm : cap ≤ maxLen)
      (hz : ∀ (i : Nat) (r : List AV), rows[i]? = some r → r.length = z)
      (h1 : ∀ (i : Nat) (r : List AV) (j : Nat) (c : AV), rows[i]? = some r → r[j]? = some c → w.cell? ⟨b, off + i * z + j, none⟩ = some (cv i j))
      (h2 : ∀ (i : Nat) (r : List AV) (j : Nat) (c : AV), rows[i]? = some r → r[j]? = some c → PRel X w c (cv i j))
      (h3 : ∀ (i : Nat) (r : List AV) (j : Nat) (c : AV), rows[i]? = some r → r[j]? = some c → (cv i j).oneCell' = true) : PRel X w (.sl z rows) (.slice (some ⟨b, off, none⟩) rows.length cap)
  | fs {z : Nat} {rows : List (List AV)} {v : Value} (h : PRel X w (.sl z rows) v) (hF : rows ≠ [] → ∀ (ad : Addr) (n c : Nat), v = .slice (some ad) n c → ¬ X.f ad.block ∧ ∃ cs T, w.heap[ad.block]? = some (.cells cs T (0, 0))) : PRel X w (.fs z rows) v

theorem PRel.nil0 {X : Ex} {w : World} (z : Nat) : PRel X w (.sl z []) (.slice none 0 0) := .nil z (by unfold maxLen; omega) (fun _ => rfl)
theorem ne_of_get {α : Type} {l : List α} {i : Nat} {r : α} (h : l[i]? = some r) : l ≠ [] := by rintro rfl; simp at h
structure Wd (X X' : Ex) (w w' : World) : Prop where
  size : w.heap.size ≤ w'.heap.size
  heap : ∀ b, b < w.heap.size → ¬ X b → w'.heap[b]? = w.heap[b]?
  out : ∀ b, b < w.heap.size → X' b → X b
  fr : ∀ b, X'.f b → X.f b
theorem PRel.slE {X : Ex} {w : World} {z : Nat} {rows : List (List AV)} {ad : Addr} {n c : Nat} (h : PRel X w (.sl z rows) (.slice (some ad) n c)) (hne : rows ≠ []) : ¬ X ad.block ∧ ad.block < w.heap.size := by
  cases h with
  | nil => exact absurd rfl hne
  | sl cv hX hb => exact ⟨hX hne, hb hne⟩
theorem PRel.step {X X' : Ex} {w w' : World} {c : AV} {v : Value} (h : PRel X w c v) (hw : Wd X X' w w') : PRel X' w' c v := by
  induction h with
  | lit v => exact .lit v
  | nil z hm h0 => exact .nil z hm h0
  | sl cv hX hb hc hm hz h1 h2 h3 ih =>
    refine .sl cv (fun hne h => hX hne (hw.out _ (hb hne) h)) (fun hne => Nat.lt_of_lt_of_le (hb hne) hw.size) hc hm hz (fun i r j c hi hj => ?_) ih h3
    have hne := ne_of_get hi
    rw [World.cell?_of_block (hw.heap _ (hb hne) (hX hne))]; exact h1 i r j c hi hj
  | fs h hF ih =>
    refine .fs ih fun hne ad n c e => ?_
    obtain ⟨h1, cs, T, h2⟩ := hF hne ad n c e
    subst e
    obtain ⟨h3, h4⟩ := h.slE hne
    exact ⟨fun h => h1 (hw.fr _ h), cs, T, (hw.heap _ h4 h3).trans h2⟩

structure OI where
  g : Option Nat
  z : Nat
  n : Nat
  cap : Nat
  r : Option (Nat × World)
/-- The block lies in what the name stands for. -/
def OI.has (o : OI) (b : Nat) : Prop := o.g = some b ∨ ∃ lo W, o.r = some (lo, W) ∧ lo ≤ b ∧ b < W.heap.size
def outE (lo : Nat) : Ex := ⟨fun b => b < lo, fun _ => False⟩
inductive Rel (μ : Nat → Option OI) (X : Ex) (w : World) : AV → Value → Prop
  | any (v : Value) : Rel μ X w .any v
  | pure {c : AV} {v : Value} (h : PRel X w c v) : Rel μ X w c v
  | agg {l : List AV} {vs : List Value} (hl : vs.length = l.length) (h : ∀ (i : Nat) (c : AV) (v : Value), l[i]? = some c → vs[i]? = some v → Rel μ X w c v) : Rel μ X w (.agg l) (.agg vs.toArray)
  | tup {l : List AV} {vs : List Value} (hl : vs.length = l.length) (h : ∀ (i : Nat) (c : AV) (v : Value), l[i]? = some c → vs[i]? = some v → Rel μ X w c v) : Rel μ X w (.tup l) (.tuple vs.toArray)
  | clo {f : Nat} {l : List AV} {vs : List Value} (hl : vs.length = l.length) (h : ∀ (i : Nat) (c : AV) (v : Value), l[i]? = some c → vs[i]? = some v → Rel μ X w c v) : Rel μ X w (.clo f l) (.func (.func f) #[] vs.toArray)
  | ia {row : List AV} {b off : Nat} (cv : Nat → Value) (hX : ¬ X b) (hb : b < w.heap.size) (h1 : ∀ (j : Nat) (c : AV), row[j]? = some c → w.cell? ⟨b, off + j, none⟩ = some (cv j)) (h2 : ∀ (j : Nat) (c : AV), row[j]? = some c → PRel X w c (cv j)) :
      Rel μ X w (.ia row) (.pointer (some ⟨b, off, none⟩))
  | own {k : Nat} {o : OI} (h : μ k = some o) : Rel μ X w (.own k) (.slice (o.g.map fun g => ⟨g, 0, none⟩) o.n o.cap)
  | ptr {k i off : Nat} {o : OI} {g : Nat} (h : μ k = some o) (hg : o.g = some g) : Rel μ X w (.ptr k i off) (.pointer (some ⟨g, i * o.z + off, none⟩))
  | deadO {k : Nat} (v : Value) (h : μ k = none) : Rel μ X w (.own k) v
  | deadP {k i off : Nat} (v : Value) (h : μ k = none) : Rel μ X w (.ptr k i off) v
  | opt {c : Bool} {d : Nat} {g : Bool} {a : AV} {v : Value} (h1 : c = true → Rel μ X w a v) (h0 : c = false → v = undef) : Rel μ X w (.opt c d g a) v
  | ifc {t : TypeId} {a : AV} {v : Value} (h : Rel μ X w a v) : Rel μ X w (.ifc t a) (.iface t v)
  | mth {n : String} {a : AV} {v : Value} (h : Rel μ X w a v) : Rel μ X w (.mth n a) (.func (.method n) #[v] #[])
  | bnd {f : Nat} {a : AV} {v : Value} (h : Rel μ X w a v) : Rel μ X w (.bnd f a) (.func (.func f) #[v] #[])
  | mp {k : Nat} {o : OI} {g : Nat} (h : μ k = some o) (hg : o.g = some g) : Rel μ X w (.mp k) (.map (some g))
  | deadM {k : Nat} (v : Value) (h : μ k = none) : Rel μ X w (.mp k) v
  | yl {k : Nat} {o : OI} {g : Nat} (h : μ k = some o) (hg : o.g = some g) : Rel μ X w (.yl k) (.func (.yield g) #[] #[])
  | deadY {k : Nat} (v : Value) (h : μ k = none) : Rel μ X w (.yl k) v
  | tr {z : Nat} {rows : List (List AV)} {v : Value} {o : OI} {lo : Nat} {W : World} (h : μ rk = some o) (hr : o.r = some (lo, W)) (hp : PRel (outE lo) W (.fs z rows) v) : Rel μ X w (.tr z rows) v
  | deadT {z : Nat} {rows : List (List AV)} (v : Value) (h : μ rk = none) : Rel μ X w (.tr z rows) v
  | tia {row : List AV} {b off : Nat} {o : OI} {lo : Nat} {W : World} (cv : Nat → Value) (h : μ rk = some o) (hr : o.r = some (lo, W)) (hb : (lo ≤ b ∧ b < W.heap.size) ∧ ∃ cs T, W.heap[b]? = some (.cells cs T (0, 0))) (h1 : ∀ (j : Nat) (c : AV), row[j]? = some c → W.cell? ⟨b, off + j, none⟩ = some (cv j)) (h2 : ∀ (j : Nat) (c : AV), row[j]? = some c → PRel (outE lo) W c (cv j)) :
      Rel μ X w (.tia row) (.pointer (some ⟨b, off, none⟩))
  | deadI {row : List AV} (v : Value) (h : μ rk = none) : Rel μ X w (.tia row) v
  | uint {k : IntKind} (n : Int) : Rel μ X w (.uint k) (.int k n)

theorem mpOf_ok {μ μ' : Nat → Option OI} {X X' : Ex} {w w' : World} {k : Nat} {p : AV} {v : Value} (hp : ∀ v, Rel μ X w (.ptr k 0 0) v → Rel μ' X' w' p v) (h : Rel μ X w (.mp k) v) : Rel μ' X' w' (mpOf p) v := by
  cases h with
  | pure h => cases h
  | @mp _ o g h hg =>
    have h1 := hp _ (.ptr h hg)
    cases p with
    | ptr k' i' o' =>
      generalize hv : Value.pointer (some ⟨g, 0 * o.z + 0, none⟩) = v at h1
      cases h1 with
      | pure hp => cases hp
      | ptr h' hg' => injection hv with hv; injection hv with hv; injection hv with hv; subst hv; exact .mp h' hg'
      | deadP _ h' => exact .deadM _ h'
    | _ => exact .any _
  | deadM _ h =>
    have h1 := hp (.bool true) (.deadP _ h)
    cases p with
    | ptr k' i' o' =>
      cases h1 with
      | pure hp => cases hp
      | deadP _ h' => exact .deadM _ h'
    | _ => exact .any _
theorem ylOf_ok {μ μ' : Nat → Option OI} {X X' : Ex} {w w' : World} {k : Nat} {p : AV} {v : Value} (hp : ∀ v, Rel μ X w (.ptr k 0 0) v → Rel μ' X' w' p v) (h : Rel μ X w (.yl k) v) : Rel μ' X' w' (ylOf p) v := by
  cases h with
  | pure h => cases h
  | @yl _ o g h hg =>
    have h1 := hp _ (.ptr h hg)
    cases p with
    | ptr k' i' o' =>
      generalize hv : Value.pointer (some ⟨g, 0 * o.z + 0, none⟩) = v at h1
      cases h1 with
      | pure hp => cases hp
      | ptr h' hg' => injection hv with hv; injection hv with hv; injection hv with hv; subst hv; exact .yl h' hg'
      | deadP _ h' => exact .deadY _ h'
    | _ => exact .any _
  | deadY _ h =>
    have h1 := hp (.bool true) (.deadP _ h)
    cases p with
    | ptr k' i' o' =>
      cases h1 with
      | pure hp => cases hp
      | deadP _ h' => exact .deadY _ h'
    | _ => exact .any _
theorem Rel.map {μ μ' : Nat → Option OI} {X X' : Ex} {w w' : World} {fo : Nat → AV} {fp : Nat → Nat → Nat → AV} {c : AV} {v : Value} (h : Rel μ X w c v) (hw : Wd X X' w w')
    (ho : ∀ k v, Rel μ X w (.own k) v → Rel μ' X' w' (fo k) v) (hp : ∀ k i o v, Rel μ X w (.ptr k i o) v → Rel μ' X' w' (fp k i o) v) (hrk : μ' rk = μ rk ∨ μ' rk = none) : Rel μ' X' w' (c.map fo fp) v := by
  induction h with
  | any v => exact .any v
  | pure h => cases h with
    | lit => exact .pure (.lit _)
    | nil _ hm h0 => exact .pure (.nil _ hm h0)
    | sl cv hX hb hc hm hz h1 h2 h3 => exact .pure ((PRel.sl cv hX hb hc hm hz h1 h2 h3).step hw)
    | fs h hF => exact .pure ((PRel.fs h hF).step hw)
  | @agg l vs hl h ih =>
    rw [AV.map, AV.mapL_eq]
    refine .agg (by simpa using hl) fun i c v hc hv => ?_
    rw [List.getElem?_map, Option.map_eq_some_iff] at hc
    obtain ⟨c0, h0, rfl⟩ := hc
    exact ih i c0 v h0 hv
  | @tup l vs hl h ih =>
    rw [AV.map, AV.mapL_eq]
    refine .tup (by simpa using hl) fun i c v hc hv => ?_
    rw [List.getElem?_map, Option.map_eq_some_iff] at hc
    obtain ⟨c0, h0, rfl⟩ := hc
    exact ih i c0 v h0 hv
  | @clo f l vs hl h ih =>
    rw [AV.map, AV.mapL_eq]
    refine .clo (by simpa using hl) fun i c v hc hv => ?_
    rw [List.getElem?_map, Option.map_eq_some_iff] at hc
    obtain ⟨c0, h0, rfl⟩ := hc
    exact ih i c0 v h0 hv
  | @ia row b off cv hX hb h1 h2 =>
    refine .ia cv (fun h => hX (hw.out _ hb h)) (Nat.lt_of_lt_of_le hb hw.size) (fun j c hj => ?_) (fun j c hj => (h2 j c hj).step hw)
    rw [World.cell?_of_block (hw.heap _ hb hX)]; exact h1 j c hj
  | own h => exact ho _ _ (.own h)
  | ptr h hg => exact hp _ _ _ _ (.ptr h hg)
  | deadO v h => exact ho _ _ (.deadO v h)
  | deadP v h => exact hp _ _ _ _ (.deadP v h)
  | opt h1 h0 ih => exact .opt (fun hc => ih hc) h0
  | ifc h ih => exact .ifc ih
  | mth h ih => exact .mth ih
  | bnd h ih => exact .bnd ih
  | mp h hg => exact mpOf_ok (fun v => hp _ 0 0 v) (.mp h hg)
  | deadM v h => exact mpOf_ok (fun v => hp _ 0 0 v) (.deadM v h)
  | yl h hg => exact ylOf_ok (fun v => hp _ 0 0 v) (.yl h hg)
  | deadY v h => exact ylOf_ok (fun v => hp _ 0 0 v) (.deadY v h)
  | @tr z rows v o lo W h hr hp =>
    rcases hrk with e | e
    · exact .tr (e.trans h) hr hp
    · exact .deadT _ e
  | @deadT z rows v h =>
    rcases hrk with e | e
    · exact .deadT _ (e.trans h)
    · exact .deadT _ e
  | @tia row b off o lo W cv h hr hb h1 h2 =>
    rcases hrk with e | e
    · exact .tia cv (e.trans h) hr hb h1 h2
    · exact .deadI _ e
  | @deadI row v h =>
    rcases hrk with e | e
    · exact .deadI _ (e.trans h)
    · exact .deadI _ e
  | uint n => exact .uint n
theorem Rel.step {μ μ' : Nat → Option OI} {X X' : Ex} {w w' : World} {c : AV} {v : Value} (h : Rel μ X w c v) (hw : Wd X X' w w')
    (hk : ∀ k, c.ment k = true → μ' k = μ k ∨ μ' k = none) : Rel μ' X' w' c v := by
  induction h with
  | any v => exact .any v
  | pure h => exact .pure (h.step hw)
  | @agg l vs hl h ih => exact .agg hl fun i c v hc hv => ih i c v hc hv fun k hm => hk k (by simpa [AV.ment] using AV.mentL_mem hc hm)
  | @tup l vs hl h ih => exact .tup hl fun i c v hc hv => ih i c v hc hv fun k hm => hk k (by simpa [AV.ment] using AV.mentL_mem hc hm)
  | @clo f l vs hl h ih => exact .clo hl fun i c v hc hv => ih i c v hc hv fun k hm => hk k (by simpa [AV.ment] using AV.mentL_mem hc hm)
  | @ia row b off cv hX hb h1 h2 =>
    refine .ia cv (fun h => hX (hw.out _ hb h)) (Nat.lt_of_lt_of_le hb hw.size) (fun j c hj => ?_) (fun j c hj => (h2 j c hj).step hw)
    rw [World.cell?_of_block (hw.heap _ hb hX)]; exact h1 j c hj
  | @own k o h =>
    rcases hk k (by simp [AV.ment]) with e | e
    · exact .own (e.trans h)
    · exact .deadO _ e
  | @ptr k i off o g h hg =>
    rcases hk k (by simp [AV.ment]) with e | e
    · exact .ptr (e.trans h) hg
    · exact .deadP _ e
  | @deadO k v h =>
    rcases hk k (by simp [AV.ment]) with e | e
    · exact .deadO _ (e.trans h)
    · exact .deadO _ e
  | @deadP k i off v h =>
    rcases hk k (by simp [AV.ment]) with e | e
    · exact .deadP _ (e.trans h)
    · exact .deadP _ e
  | opt h1 h0 ih => exact .opt (fun hc => ih hc fun k hm => hk k (by simpa [AV.ment] using hm)) h0
  | ifc h ih => exact .ifc (ih fun k hm => hk k (by simpa [AV.ment] using hm))
  | mth h ih => exact .mth (ih fun k hm => hk k (by simpa [AV.ment] using hm))
  | bnd h ih => exact .bnd (ih fun k hm => hk k (by simpa [AV.ment] using hm))
  | @mp k o g h hg =>
    rcases hk k (by simp [AV.ment]) with e | e
    · exact .mp (e.trans h) hg
    · exact .deadM _ e
  | @deadM k v h =>
    rcases hk k (by simp [AV.ment]) with e | e
    · exact .deadM _ (e.trans h)
    · exact .deadM _ e
  | @yl k o g h hg =>
    rcases hk k (by simp [AV.ment]) with e | e
    · exact .yl (e.trans h) hg
    · exact .deadY _ e
  | @deadY k v h =>
    rcases hk k (by simp [AV.ment]) with e | e
    · exact .deadY _ (e.trans h)
    · exact .deadY _ e
  | @tr z rows v o lo W h hr hp =>
    rcases hk rk (by simp [AV.ment]) with e | e
    · exact .tr (e.trans h) hr hp
    · exact .deadT _ e
  | @deadT z rows v h =>
    rcases hk rk (by simp [AV.ment]) with e | e
    · exact .deadT _ (e.trans h)
    · exact .deadT _ e
  | @tia row b off o lo W cv h hr hb h1 h2 =>
    rcases hk rk (by simp [AV.ment]) with e | e
    · exact .tia cv (e.trans h) hr hb h1 h2
    · exact .deadI _ e
  | @deadI row v h =>
    rcases hk rk (by simp [AV.ment]) with e | e
    · exact .deadI _ (e.trans h)
    · exact .deadI _ e
  | uint n => exact .uint n

/-- A range over a function: what a round puts, and its two texts. -/
structure LoopR where
  ps : Array Tmp
  asg : Code
  body : Code
/-- Its record: between rounds, or within one. -/
def lpRec (b : Bool) (R : LoopR) (fn : Nat) (ts : Array Value) (D : Nat) : Loop := { state := if b = true then .busy else .ready, pending := none, fn := fn, tmps := ts, params := R.ps, assign := R.asg, body := R.body, defers := D }
inductive Blk where
  | var (cells : List AV)
  | slc (e : TypeId) (z : Nat) (rows : List (List AV))
  | obj (x : Obj)
  | lp (b : Bool) (R : LoopR) (t : List AV)
  | foc (e : TypeId) (z : Nat) (rows : List (List AV)) (i : Nat) (r : List AV)
  | reg (m : Bool)
/-- Names from here on are the caller's. -/
def pinB : Nat := 100000
/-- Where a call began: the memory then, what of it the call may write, the names that the caller keeps. -/
structure Base where
  w : World
  M : Nat → Prop
  pins : Nat → Option OI
def Base.mine (β : Base) (g : Nat) : Prop := β.w.heap.size ≤ g ∨ β.M g
/-- Nothing has turned since but what may. -/
structure Bel (β : Base) (w : World) : Prop where
  os : w.os = β.w.os
  tape : w.tape = β.w.tape
  output : w.output = β.w.output
  size : β.w.heap.size ≤ w.heap.size
  block : ∀ k, k < β.w.heap.size → ¬ β.M k → w.heap[k]? = β.w.heap[k]?
theorem Bel.upd {β : Base} {w w' : World} (h : Bel β w) (hb : Below 0 w w') (hk : ∀ b, b < w.heap.size → ¬ β.mine b → w'.heap[b]? = w.heap[b]?) : Bel β w' :=
  ⟨hb.os.trans h.os, hb.tape.trans h.tape, hb.output.trans h.output, Nat.le_trans h.size hb.size, fun k hk1 hk2 =>
    (hk k (Nat.lt_of_lt_of_le hk1 h.size) (fun h3 => h3.elim (fun h3 => absurd hk1 (Nat.not_lt.2 h3)) hk2)).trans (h.block k hk1 hk2)⟩
theorem Bel.later {β : Base} {w w' : World} (h : Bel β w) (hb : Below w.heap.size w w') : Bel β w' :=
  h.upd (hb.mono (Nat.zero_le _)) fun b hlt _ => hb.block b hlt
theorem Bel.refl (w : World) (M : Nat → Prop) (p : Nat → Option OI) : Bel ⟨w, M, p⟩ w := ⟨rfl, rfl, rfl, Nat.le_refl _, fun _ _ _ => rfl⟩
theorem Bel.setRow {β : Base} {w : World} (h : Bel β w) {g : Nat} (hm : β.mine g) (cs : Array Value) : Bel β (w.setRow g cs) :=
  h.upd (below_setRow (Below.refl 0 w) (Nat.zero_le _) cs) fun b _ hb => setRow_other w g b cs (by rintro rfl; exact hb hm)
/-- The same but for its numbers. -/
def LikeO (a b : Option Obj) : Prop := b = a ∨ ∃ cs cs' T q, a = some (.cells cs T q) ∧ b = some (.cells cs' T q) ∧ cs'.size = cs.size ∧ ∀ (j : Nat) (v v' : Value), cs[j]? = some v → cs'[j]? = some v' → v' = v ∨ ∃ k n n', v = .int k n ∧ v' = .int k n'
def BlkOK (B : Nat → Prop) (μ : Nat → Option OI) (X : Ex) (w : World) (o : OI) : Blk → Prop
  | .var cells => ∃ g cs T, o.g = some g ∧ B g ∧ w.heap[g]? = some (.cells cs T (0, 0)) ∧ cs.size = cells.length ∧ o.z = cells.length ∧ ∀ (j : Nat) (c : AV) (v : Value), cells[j]? = some c → cs[j]? = some v → Rel μ X w c v
  | .slc e z rows => o.z = z ∧ o.n = rows.length ∧ (∀ (i : Nat) (r : List AV), rows[i]? = some r → r.length = z) ∧ rows.length ≤ o.cap ∧ o.cap ≤ maxLen ∧
      ((o.g = none ∧ rows = [] ∧ o.cap = 0) ∨
       ∃ g cs, o.g = some g ∧ B g ∧ w.heap[g]? = some (.cells cs e (0, 0)) ∧ cs.size = o.cap * z ∧ ∀ (i : Nat) (r : List AV) (j : Nat) (c : AV) (v : Value), rows[i]? = some r → r[j]? = some c → cs[i * z + j]? = some v → PRel X w c v ∧ v.oneCell' = true)
  | .obj x => ∃ g, o.g = some g ∧ B g ∧ w.heap[g]? = some x
  | .lp b R t => ∃ g fn ts D, o.g = some g ∧ B g ∧ w.heap[g]? = some (.loop (lpRec b R fn ts D)) ∧ ts.size = t.length ∧ ∀ (j : Nat) (c : AV) (v : Value), t[j]? = some c → ts[j]? = some v → Rel μ X w c v
  | .foc e z rows i r => o.z = z ∧ o.n = rows.length ∧ (∀ (i : Nat) (r : List AV), rows[i]? = some r → r.length = z) ∧ rows.length ≤ o.cap ∧ o.cap ≤ maxLen ∧ i < rows.length ∧ r.length = z ∧
      ∃ g cs, o.g = some g ∧ B g ∧ w.heap[g]? = some (.cells cs e (0, 0)) ∧ cs.size = o.cap * z ∧
        (∀ (i' : Nat) (r : List AV) (j : Nat) (c : AV) (v : Value), i' ≠ i → rows[i']? = some r → r[j]? = some c → cs[i' * z + j]? = some v → PRel X w c v ∧ v.oneCell' = true) ∧
        ∀ (j : Nat) (c : AV) (v : Value), r[j]? = some c → cs[i * z + j]? = some v → Rel μ X w c v ∧ v.oneCell' = true
  | .reg m => ∃ lo W, o.r = some (lo, W) ∧ o.g = none ∧ W.heap.size ≤ w.heap.size ∧ ∀ b, lo ≤ b → b < W.heap.size → B b ∧ (m = false → w.heap[b]? = W.heap[b]?) ∧ LikeO (W.heap[b]?) (w.heap[b]?)
/-- The program's tables: block, cells. -/
def tabs : List (Nat × Array Value) := []
/-- The tables lie in the memory as the program's text lays them. -/
def TabW (w : World) : Prop := ∀ p ∈ tabs, ∃ T q, w.heap[p.1]? = some (.cells p.2 T q)
theorem TabW.later {w w' : World} (h : TabW w) (hb : ∀ p ∈ tabs, w'.heap[p.1]? = w.heap[p.1]?) : TabW w' := fun p hp => by
  obtain ⟨T, q, h1⟩ := h p hp; exact ⟨T, q, (hb p hp).trans h1⟩
theorem TabW.lt {w : World} (h : TabW w) {p : Nat × Array Value} (hp : p ∈ tabs) : p.1 < w.heap.size := by
  obtain ⟨T, q, h1⟩ := h p hp; exact (Array.getElem?_eq_some_iff.1 h1).1

structure VS where
  t : List AV
  o : List (Nat × Blk)
def look : List (Nat × Blk) → Nat → Option Blk
  | [], _ => none
  | (k, b) :: l, k' => if k == k' then some b else look l k'
def drop1 (k : Nat) : List (Nat × Blk) → List (Nat × Blk)
  | [] => []
  | (k', b) :: l => if k' == k then drop1 k l else (k', b) :: drop1 k l
def put1 (k : Nat) (b : Blk) : List (Nat × Blk) → List (Nat × Blk)
  | [] => [(k, b)]
  | (k', b') :: l => if k' == k then (k, b) :: drop1 k l else (k', b') :: put1 k b l
theorem look_drop1 (k k' : Nat) : ∀ l, look (drop1 k l) k' = if k = k' then none else look l k'
  | [] => by simp [drop1, look]
  | (j, b) :: l => by
    rw [drop1]
    by_cases h : j = k
    · subst h; simp only [beq_self_eq_true, if_true, look_drop1 j k' l]
      by_cases h2 : j = k'
      · simp [h2]
      · simp [h2, look]
    · simp only [show (j == k) = false by simpa using h, Bool.false_eq_true, if_false, look, look_drop1 k k' l]
      by_cases h2 : j = k'
      · subst h2; simp [Ne.symm h]
      · simp [h2]
theorem look_put1 (k k' : Nat) (b : Blk) : ∀ l, look (put1 k b l) k' = if k = k' then some b else look l k'
  | [] => by simp [put1, look]
  | (j, b') :: l => by
    rw [put1]
    by_cases h : j = k
    · subst h; simp only [beq_self_eq_true, if_true, look, look_drop1]
      by_cases h2 : j = k'
      · simp [h2]
      · simp [h2]
    · simp only [show (j == k) = false by simpa using h, Bool.false_eq_true, if_false, look, look_put1 k k' b l]
      by_cases h2 : j = k'
      · subst h2; simp [Ne.symm h]
      · simp [h2]

def XOf (S : Ex) (μ : Nat → Option OI) : Ex := ⟨fun b => S b ∨ ∃ k o, μ k = some o ∧ o.has b, S.f⟩
structure OldP (S : Ex) (β : Base) (μ : Nat → Option OI) : Prop where
  lt : ∀ b, S b → b < β.w.heap.size ∧ ¬ β.M b
  pin : ∀ k o, β.pins k = some o → μ k = some o
  hi : ∀ k o, β.pins k = some o → pinB ≤ k
  tab : TabW β.w ∧ ∀ p ∈ tabs, ¬ β.M p.1
  fr : ∀ b, S.f b → b < β.w.heap.size ∧ ¬ β.M b
/-- The deferred calls of an activation: the marks of its ranges over functions alone. -/
def DefOK (B : Nat → Prop) (X : Ex) (w : World) (ds : List Deferred) : Prop :=
  ∃ Ds : List Nat, ds = Ds.map (fun D => { target := .collected D, args := #[] }) ∧ Ds.Nodup ∧ ∀ D ∈ Ds, B D ∧ ¬ X D ∧ w.heap[D]? = some (.deferred (some []))
theorem DefOK.nil (B : Nat → Prop) (X : Ex) (w : World) : DefOK B X w [] := ⟨[], rfl, List.nodup_nil, fun _ h => by cases h⟩
theorem DefOK.step {B : Nat → Prop} {X X' : Ex} {w w' : World} {ds : List Deferred} (h : DefOK B X w ds) (hw : Wd X X' w w') : DefOK B X' w' ds := by
  obtain ⟨Ds, h1, h2, h3⟩ := h
  refine ⟨Ds, h1, h2, fun D hD => ?_⟩
  obtain ⟨q1, q2, q3⟩ := h3 D hD
  have hlt := (Array.getElem?_eq_some_iff.1 q3).1
  exact ⟨q1, fun hx => q2 (hw.out D hlt hx), (hw.heap D hlt q2).trans q3⟩
structure StM (S : Ex) (w0 : Base) (μ : Nat → Option OI) (σ : VS) (a : Act) (w : World) : Prop where
  defers : DefOK w0.mine (XOf S μ) w a.defers
  size : a.tmps.size = σ.t.length
  tmps : ∀ (i : Nat) (c : AV) (v : Value), σ.t[i]? = some c → a.tmps[i]? = some v → Rel μ (XOf S μ) w c v
  blks : ∀ k b, look σ.o k = some b → ∃ o, μ k = some o ∧ BlkOK w0.mine μ (XOf S μ) w o b
  live : ∀ k o, μ k = some o → ∃ b, look σ.o k = some b ∧ (o.r.isSome = true → k = rk ∧ ∃ m, b = .reg m)
  inj : ∀ k k' o o' g, μ k = some o → μ k' = some o' → o.has g → o'.has g → k = k'
  below : Bel w0 w
  old : OldP S w0 μ
def St (S : Ex) (w0 : Base) (σ : VS) (a : Act) (w : World) : Prop := ∃ μ, StM S w0 μ σ a w

theorem StM.lt {S : Ex} {w0 : Base} {w : World} {μ : Nat → Option OI} {σ : VS} {a : Act} (h : StM S w0 μ σ a w) {k : Nat} {o : OI} {g : Nat} (hk : μ k = some o) (hg : o.has g) : w0.mine g ∧ g < w.heap.size := by
  obtain ⟨b, hb, hreg⟩ := h.live k o hk
  obtain ⟨o', ho', hB⟩ := h.blks k b hb
  rw [hk] at ho'; injection ho' with ho'; subst ho'
  rcases hg with hg | ⟨lo, W, hr, hlo, hhi⟩
  · cases b with
    | var cells =>
      obtain ⟨g', cs, T, e, h1, h2, _⟩ := hB
      rw [hg] at e; injection e with e; subst e
      exact ⟨h1, (Array.getElem?_eq_some_iff.1 h2).1⟩
    | slc e z rows =>
      obtain ⟨_, _, _, _, _, ⟨e', _⟩ | ⟨g', cs, e', h1, h2, _⟩⟩ := hB
      · rw [hg] at e'; cases e'
      · rw [hg] at e'; injection e' with e'; subst e'
        exact ⟨h1, (Array.getElem?_eq_some_iff.1 h2).1⟩
    | obj x =>
      obtain ⟨g', e, h1, h2⟩ := hB
      rw [hg] at e; injection e with e; subst e
      exact ⟨h1, (Array.getElem?_eq_some_iff.1 h2).1⟩
    | lp b R t =>
      obtain ⟨g', fn, ts, D, e, h1, h2, _⟩ := hB
      rw [hg] at e; injection e with e; subst e
      exact ⟨h1, (Array.getElem?_eq_some_iff.1 h2).1⟩
    | foc e z rows i r =>
      obtain ⟨_, _, _, _, _, _, _, g', cs, e', h1, h2, _⟩ := hB
      rw [hg] at e'; injection e' with e'; subst e'
      exact ⟨h1, (Array.getElem?_eq_some_iff.1 h2).1⟩
    | reg m =>
      obtain ⟨_, _, _, e, _⟩ := hB
      rw [hg] at e; cases e
  · obtain ⟨_, m, rfl⟩ := hreg (by rw [hr]; rfl)
    obtain ⟨lo', W', hr', _, hsz, hh⟩ := hB
    rw [hr] at hr'; injection hr' with hr'; injection hr' with e1 e2; subst e1 e2
    exact ⟨(hh g hlo hhi).1, Nat.lt_of_lt_of_le hhi hsz⟩
theorem StM.tab {S : Ex} {w0 : Base} {w : World} {μ : Nat → Option OI} {σ : VS} {a : Act} (h : StM S w0 μ σ a w) : TabW w :=
  h.old.tab.1.later fun p hp => h.below.block p.1 (h.old.tab.1.lt hp) (h.old.tab.2 p hp)
theorem StM.tabX {S : Ex} {w0 : Base} {w : World} {μ : Nat → Option OI} {σ : VS} {a : Act} (h : StM S w0 μ σ a w) {p : Nat × Array Value} (hp : p ∈ tabs) {k : Nat} {o : OI} (hk : μ k = some o) (hg : o.has p.1) : False := by
  rcases (h.lt hk hg).1 with h1 | h1
  · exact absurd (h.old.tab.1.lt hp) (by omega)
  · exact h.old.tab.2 p hp h1
theorem StM.xlt {S : Ex} {w0 : Base} {w : World} {μ : Nat → Option OI} {σ : VS} {a : Act} (h : StM S w0 μ σ a w) {b : Nat} (hb : XOf S μ b) : b < w.heap.size := by
  rcases hb with hb | ⟨k, o, hk, hg⟩
  · exact Nat.lt_of_lt_of_le (h.old.lt b hb).1 h.below.size
  · exact (h.lt hk hg).2

theorem StM.sep {S : Ex} {w0 : Base} {w : World} {μ : Nat → Option OI} {σ : VS} {a : Act} (h : StM S w0 μ σ a w) {k : Nat} {o : OI} {g : Nat} (hk : μ k = some o) (hg : o.has g) : ¬ S g := fun hs => by
  have h1 := h.old.lt g hs
  rcases (h.lt hk hg).1 with h2 | h2
  · omega
  · exact h1.2 h2
/-- A slot is written. -/
theorem StM.put {S : Ex} {w0 : Base} {w : World} {μ : Nat → Option OI} {σ : VS} {a : Act} (h : StM S w0 μ σ a w) (d : Option Tmp) {c : AV} {v : Value} (hr : Rel μ (XOf S μ) w c v) :
    StM S w0 μ ⟨(match d with | some d => σ.t.set d c | none => σ.t), σ.o⟩ (a.put d v) w := by
  cases d with
  | none => exact ⟨h.defers, h.size, h.tmps, h.blks, h.live, h.inj, h.below, h.old⟩
  | some d =>
    refine ⟨h.defers, by simpa [Act.put] using h.size, fun i c' v' hc hv => ?_, h.blks, h.live, h.inj, h.below, h.old⟩
    simp only [Act.put, Array.getElem?_setIfInBounds, List.getElem?_set] at hc hv
    by_cases hd : d = i
    · subst hd
      simp only [if_true, h.size] at hc hv
      split at hc
      · rw [if_pos ‹_›] at hv
        injection hc with hc; injection hv with hv; subst hc hv; exact hr
      · cases hc
    · rw [if_neg hd] at hc hv; exact h.tmps i c' v' hc hv

/-- The world goes on, and nothing of what was there turns. -/
theorem StM.later {S : Ex} {w0 : Base} {w w' : World} {μ : Nat → Option OI} {σ : VS} {a : Act} (h : StM S w0 μ σ a w) (hb : Below w.heap.size w w') : StM S w0 μ σ a w' := by
  have hw : Wd (XOf S μ) (XOf S μ) w w' := ⟨hb.size, fun b hlt _ => hb.block b hlt, fun _ _ h => h, fun _ h => h⟩
  refine ⟨h.defers.step hw, h.size, fun i c v hc hv => (h.tmps i c v hc hv).step hw fun k _ => .inl rfl, fun k b hk => ?_, h.live, h.inj, h.below.later hb, h.old⟩
  obtain ⟨o, ho, hB⟩ := h.blks k b hk
  refine ⟨o, ho, ?_⟩
  cases b with
  | var cells =>
    obtain ⟨g, cs, T, e, h1, h2, h3, h4, h5⟩ := hB
    exact ⟨g, cs, T, e, h1, (hb.block g (Array.getElem?_eq_some_iff.1 h2).1).trans h2, h3, h4, fun j c v hc hv => (h5 j c v hc hv).step hw fun k _ => .inl rfl⟩
  | slc e z rows =>
    obtain ⟨h1, h2, h3, h4, h5, h6⟩ := hB
    refine ⟨h1, h2, h3, h4, h5, ?_⟩
    rcases h6 with h6 | ⟨g, cs, e', h7, h8, h9, h10⟩
    · exact .inl h6
    · exact .inr ⟨g, cs, e', h7, (hb.block g (Array.getElem?_eq_some_iff.1 h8).1).trans h8, h9, fun i r j c v hi hj hv => ⟨(h10 i r j c v hi hj hv).1.step hw, (h10 i r j c v hi hj hv).2⟩⟩
  | obj x =>
    obtain ⟨g, e, h1, h2⟩ := hB
    exact ⟨g, e, h1, (hb.block g (Array.getElem?_eq_some_iff.1 h2).1).trans h2⟩
  | lp b R t =>
    obtain ⟨g, fn, ts, D, e, h1, h2, h3, h5⟩ := hB
    exact ⟨g, fn, ts, D, e, h1, (hb.block g (Array.getElem?_eq_some_iff.1 h2).1).trans h2, h3, fun j c v hc hv => (h5 j c v hc hv).step hw fun k _ => .inl rfl⟩
  | foc e z rows i r =>
    obtain ⟨h1, h2, h3, h4, h5, hi, hr, g, cs, e', h7, h8, h9, h10, h11⟩ := hB
    exact ⟨h1, h2, h3, h4, h5, hi, hr, g, cs, e', h7, (hb.block g (Array.getElem?_eq_some_iff.1 h8).1).trans h8, h9, fun i r j c v hn hi hj hv => ⟨(h10 i r j c v hn hi hj hv).1.step hw, (h10 i r j c v hn hi hj hv).2⟩,
      fun j c v hj hv => ⟨(h11 j c v hj hv).1.step hw fun k _ => .inl rfl, (h11 j c v hj hv).2⟩⟩
  | reg m =>
    obtain ⟨lo, W, hr, hg, hsz, hh⟩ := hB
    refine ⟨lo, W, hr, hg, Nat.le_trans hsz hb.size, fun b h1 h2 => ?_⟩
    rw [hb.block b (Nat.lt_of_lt_of_le h2 hsz)]
    exact hh b h1 h2
end Go.Proofs.YtdmkhinckljddaaGreat
namespace Go.Proofs.YtdmkhinckljddaaGreat
open Go.RowKit

def pureVal (P : Program) {α : Type} : Sem α → Option α
  | .pure a => some a
  | .program k => pureVal P (k P)
  | .mark _ k => pureVal P k
  | _ => none
theorem pureVal_run {P : Program} {α : Type} {a : α} (w : World) : ∀ {s : Sem α}, pureVal P s = some a → s.run P w = .ok a w := by
  intro s
  induction s with
  | pure b => intro h; simp [pureVal] at h; subst h; rfl
  | program k ih => intro h; exact ih P h
  | mark m k ih => intro h; exact ih h
  | _ => intro h; simp [pureVal] at h

def litVal : AV → Option Value
  | .lit v => some v
  | _ => none
def valL : List AV → Option (List Value)
  | [] => some []
  | a :: l => match litVal a, valL l with
    | some v, some vs => some (v :: vs)
    | _, _ => none
def AV.val : AV → Option Value
  | .lit v => some v
  | .agg l => match valL l with
    | some vs => some (.agg vs.toArray)
    | none => none
  | .clo f [] => some (.func (.func f) #[] #[])
  | _ => none
theorem litVal_eq {μ : Nat → Option OI} {X : Ex} {w : World} {c : AV} {v u : Value} (h : Rel μ X w c v) (hv : litVal c = some u) : v = u := by
  cases c with
  | lit x => simp [litVal] at hv; subst hv; cases h with | pure h => cases h; rfl
  | _ => simp [litVal] at hv
theorem valL_eq {μ : Nat → Option OI} {X : Ex} {w : World} : ∀ {l : List AV} {vs us : List Value}, vs.length = l.length → (∀ (i : Nat) (c : AV) (v : Value), l[i]? = some c → vs[i]? = some v → Rel μ X w c v) → valL l = some us → vs = us
  | [], vs, us, hl, _, hv => by simp [valL] at hv; subst hv; exact List.eq_nil_of_length_eq_zero hl
  | c :: l, [], us, hl, _, _ => by simp at hl
  | c :: l, v :: vs, us, hl, h, hv => by
    rw [valL] at hv
    split at hv
    · rename_i x xs h1 h2
      injection hv with hv; subst hv
      have e1 := litVal_eq (h 0 c v rfl rfl) h1
      have e2 := valL_eq (by simpa using hl) (fun i c v hc hv => h (i + 1) c v (by simpa using hc) (by simpa using hv)) h2
      rw [e1, e2]
    · cases hv
theorem AV.val_eq {μ : Nat → Option OI} {X : Ex} {w : World} {c : AV} {v u : Value} (h : Rel μ X w c v) (hv : c.val = some u) : v = u := by
  cases c with
  | lit x => simp [AV.val] at hv; subst hv; cases h with | pure h => cases h; rfl
  | agg l =>
    rw [AV.val] at hv
    split at hv
    · rename_i us h1
      injection hv with hv; subst hv
      cases h with
      | pure h => cases h
      | agg hl h => rw [valL_eq hl h h1]
    · cases hv
  | clo f l =>
    cases l with
    | nil =>
      simp [AV.val] at hv; subst hv
      cases h with
      | pure h => cases h
      | clo hl h => simp at hl; subst hl; rfl
    | cons a l => simp [AV.val] at hv
  | _ => simp [AV.val] at hv

/-- A known value, as it is written down. -/
def ofVal : Value → AV
  | .agg cs => .agg (cs.toList.map .lit)
  | v => .lit v
theorem Rel.ofVal {μ : Nat → Option OI} {X : Ex} {w : World} (v : Value) : Rel μ X w (ofVal v) v := by
  unfold Go.Proofs.YtdmkhinckljddaaGreat.ofVal
  split
  · rename_i cs
    have : (Value.agg cs) = .agg cs.toList.toArray := by simp
    rw [this]
    refine .agg (by simp) fun i c v hc hv => ?_
    rw [List.getElem?_map, hv] at hc
    injection hc with hc; subst hc; exact .pure (.lit _)
  · exact .pure (.lit _)

def evV (t : List AV) : Operand → AV
  | .tmp i => t.getD i .any
  | .const v => ofVal v
  | .func f => .clo f []
  | .global _ => .any
theorem StM.eval {S : Ex} {w0 : Base} {w : World} {μ : Nat → Option OI} {σ : VS} {a : Act} (h : StM S w0 μ σ a w) (x : Operand) : Rel μ (XOf S μ) w (evV σ.t x) (a.eval x) := by
  cases x with
  | tmp i =>
    show Rel _ _ _ (σ.t.getD i .any) (a.tmps.getD i undef)
    rw [List.getD_eq_getElem?_getD, Array.getD_eq_getD_getElem?]
    by_cases hi : i < σ.t.length
    · have hi' : i < a.tmps.size := by rw [h.size]; exact hi
      rw [List.getElem?_eq_getElem hi, Array.getElem?_eq_getElem hi']
      exact h.tmps i _ _ (List.getElem?_eq_getElem hi) (Array.getElem?_eq_getElem hi')
    · rw [List.getElem?_eq_none (Nat.le_of_not_lt hi)]; exact .any _
  | const v => exact .ofVal v
  | func f => exact .clo (vs := []) rfl (fun i c v hc => by simp at hc)
  | global g => exact .any _

def szP (P : Program) (t : TypeId) : Option Nat := (P.info? t).map (·.size)
def isAggP (P : Program) (t : TypeId) : Bool := match P.underlying t with
  | some (.struct _) => true
  | some (.array _ _) => true
  | _ => false
def isArrP (P : Program) (t : TypeId) : Bool := match P.underlying t with
  | some (.array _ _) => true
  | _ => false
def AV.one : AV → Bool
  | .lit v => v.oneCell'
  | .sl _ _ => true
  | .own _ => true
  | .ptr _ _ _ => true
  | .ia _ => true
  | .clo _ _ => true
  | .ifc _ _ => true
  | .mth _ _ => true
  | .bnd _ _ => true
  | .mp _ => true
  | .yl _ => true
  | .fs _ _ => true
  | .tr _ _ => true
  | .tia _ => true
  | .uint _ => true
  | _ => false
def AV.pur : AV → Bool
  | .lit v => v.oneCell'
  | .sl _ _ => true
  | .fs _ _ => true
  | _ => false
def cellsV : AV → Option (List AV)
  | .agg l => if l.all AV.one then some l else none
  | v => if v.one then some [v] else none

inductive PI where
  | br (b : Bool)
  | n (x : Int)
  | w
  | v (a : Value)
  | row (r : List AV)
  | nat (n : Nat)
  | nats (a b : Nat)
  | call (args : List AV) (r : AV)
  | callr (r : AV)
  | code (e : Exit) (σ : VS)
  | frz (k : Nat)
  | ren (d k : Nat)
  | op (i : Bool)
  | sel (k : Nat)
  | callm (ren out : List (Nat × Nat)) (r : AV) (o : List (Nat × Blk))
  | cally (ren out : List (Nat × Nat)) (r : AV) (o : List (Nat × Blk))
  | mapl (l : List (Int × Int))
  | il (l : List Int)
  | rg (r : List AV)
  | callf (args : List AV) (r : AV) (reg : Bool)

structure Eff where
  ob : List Prop := []
  v : AV
  new : Option Blk := none
  upd : Option (Nat × Blk) := none
  kill : Option Nat := none
  acts : List (Nat × Option Blk) := []
  fresh : List Nat := []

/-- What is true of all obligations. -/
def All : List Prop → Prop
  | [] => True
  | p :: l => p ∧ All l
theorem All.app : ∀ {l m : List Prop}, All (l ++ m) → All l ∧ All m
  | [], _, h => ⟨trivial, h⟩
  | _ :: _, _, h => ⟨⟨h.1, (All.app h.2).1⟩, (All.app h.2).2⟩

def arith : BinOp → IntKind → Int → IntKind → Int → Option (List Prop × Int)
  | .shl, k, a, _, b => some ([0 ≤ b], k.wrap (a * 2 ^ min b.toNat k.bits))
  | .shr, k, a, _, b => some ([0 ≤ b], a.fdiv (2 ^ min b.toNat k.bits))
  | .add, k, a, k', b => if k == k' then some ([], k.wrap (a + b)) else none
  | .sub, k, a, k', b => if k == k' then some ([], k.wrap (a - b)) else none
  | .mul, k, a, k', b => if k == k' then some ([], k.wrap (a * b)) else none
  | .quo, k, a, k', b => if k == k' then some ([b ≠ 0], k.wrap (a.tdiv b)) else none
  | .rem, k, a, k', b => if k == k' then some ([b ≠ 0], a.tmod b) else none
  | _, _, _, _, _ => none
def isArith : BinOp → Bool
  | .shl => true | .shr => true | .add => true | .sub => true | .mul => true | .quo => true | .rem => true
  | _ => false

def RunsTo (P : Program) (ρ : Operand → Value) (o : Oper) (v : Value) : Prop := ∀ w, (execOp ρ o).run P w = .ok (.value v) w
def valsOf (ρ : Operand → AV) (x : Operand) : Value := (ρ x).val.getD undef
def allVal (ρ : Operand → AV) (l : List Operand) : Bool := l.all fun x => (ρ x).val.isSome
def isSelect : Op → Bool
  | .select _ _ => true
  | _ => false

/-- An operation on known values alone, its value reckoned by the model. -/
def vPure (P : Program) (o : Oper) (ρ : Operand → AV) (π : List PI) : Option (Eff × List PI) :=
  if isSelect o.op then none else
  if allVal ρ o.op.operands.toList then
    match pureVal P (execOp (valsOf ρ) o) with
    | some (.value v) => some ({ v := ofVal v }, π)
    | _ => none
  else none
/-- The same, its value told. -/
def vTold (P : Program) (o : Oper) (ρ : Operand → AV) (π : List PI) : Option (Eff × List PI) :=
  if isSelect o.op then none else
  if allVal ρ o.op.operands.toList then
    match π with
    | .v u :: π' => some ({ ob := [RunsTo P (valsOf ρ) o u], v := ofVal u }, π')
    | _ => none
  else none
def vNum (k : IntKind) (ob : List Prop) (r : Int) : List PI → Option (Eff × List PI)
  | .n x :: π => some ({ ob := ob ++ [r = x], v := .lit (.int k x) }, π)
  | .w :: π => some ({ ob := ob, v := .lit (.int k r) }, π)
  | _ => none
end Go.Proofs.YtdmkhinckljddaaGreat
namespace Go.Proofs.YtdmkhinckljddaaGreat
open Go.RowKit

def Blk.ment (k : Nat) : Blk → Bool
  | .var cells => AV.mentL k cells
  | .slc _ _ _ => false
  | .obj _ => false
  | .lp _ _ t => AV.mentL k t
  | .foc _ _ _ _ r => AV.mentL k r
  | .reg _ => false
/-- Nothing in the state names the block d. -/
structure Clean (d : Nat) (σ : VS) : Prop where
  t : ∀ (i : Nat) (c : AV), σ.t[i]? = some c → c.ment d = false
  o : ∀ (k : Nat) (b : Blk), look σ.o k = some b → b.ment d = false
  n : look σ.o d = none
def killO (k : Option Nat) (o : List (Nat × Blk)) : List (Nat × Blk) := match k with
  | some k => drop1 k o
  | none => o
theorem look_killO (k : Option Nat) (o : List (Nat × Blk)) (j : Nat) : look (killO k o) j = if k = some j then none else look o j := by
  cases k with
  | none => simp [killO]
  | some k => simp [killO, look_drop1]

theorem BlkOK.step {B : Nat → Prop} {μ μ' : Nat → Option OI} {X X' : Ex} {w w' : World} {o : OI} {b : Blk} (h : BlkOK B μ X w o b) (hw : Wd X X' w w') (hg0 : ∀ g, o.has g → w'.heap[g]? = w.heap[g]?)
    (hk : ∀ k, b.ment k = true → μ' k = μ k ∨ μ' k = none) : BlkOK B μ' X' w' o b := by
  have hg : ∀ g, o.g = some g → w'.heap[g]? = w.heap[g]? := fun g h => hg0 g (.inl h)
  cases b with
  | var cells =>
    obtain ⟨g, cs, T, e, h1, h2, h3, h4, h5⟩ := h
    exact ⟨g, cs, T, e, h1, (hg g e).trans h2, h3, h4, fun j c v hc hv => (h5 j c v hc hv).step hw fun k hm => hk k (AV.mentL_mem hc hm)⟩
  | slc e z rows =>
    obtain ⟨h1, h2, h3, h4, h5, h6⟩ := h
    refine ⟨h1, h2, h3, h4, h5, ?_⟩
    rcases h6 with h6 | ⟨g, cs, e', h7, h8, h9, h10⟩
    · exact .inl h6
    · exact .inr ⟨g, cs, e', h7, (hg g e').trans h8, h9, fun i r j c v hi hj hv => ⟨(h10 i r j c v hi hj hv).1.step hw, (h10 i r j c v hi hj hv).2⟩⟩
  | obj x => obtain ⟨g, e, h1, h2⟩ := h; exact ⟨g, e, h1, (hg g e).trans h2⟩
  | lp b R t =>
    obtain ⟨g, fn, ts, D, e, h1, h2, h3, h5⟩ := h
    exact ⟨g, fn, ts, D, e, h1, (hg g e).trans h2, h3, fun j c v hc hv => (h5 j c v hc hv).step hw fun k hm => hk k (AV.mentL_mem hc hm)⟩
  | foc e z rows i r =>
    obtain ⟨h1, h2, h3, h4, h5, hi, hr, g, cs, e', h7, h8, h9, h10, h11⟩ := h
    exact ⟨h1, h2, h3, h4, h5, hi, hr, g, cs, e', h7, (hg g e').trans h8, h9, fun i r j c v hn hi hj hv => ⟨(h10 i r j c v hn hi hj hv).1.step hw, (h10 i r j c v hn hi hj hv).2⟩,
      fun j c v hj hv => ⟨(h11 j c v hj hv).1.step hw fun k hm => hk k (AV.mentL_mem hj hm), (h11 j c v hj hv).2⟩⟩
  | reg m =>
    obtain ⟨lo, W, hr, hgn, hsz, hh⟩ := h
    refine ⟨lo, W, hr, hgn, Nat.le_trans hsz hw.size, fun b h1 h2 => ?_⟩
    rw [hg0 b (.inr ⟨lo, W, hr, h1, h2⟩)]
    exact hh b h1 h2

/-- A new block d takes its place; the block k, if one is named, is given up. -/
theorem StM.freshR {S : Ex} {w0 : Base} {w w' : World} {μ : Nat → Option OI} {σ : VS} {a : Act} (h : StM S w0 μ σ a w) (d : Nat) (k : Option Nat) (hd : Clean d σ) (o' : OI) (blk : Blk)
    (hsz : w.heap.size ≤ w'.heap.size) (hbl : ∀ b, b < w.heap.size → (∀ kk ok, k = some kk → μ kk = some ok → ¬ ok.has b) → w'.heap[b]? = w.heap[b]?) (hbelow : Bel w0 w')
    (hkp : ∀ kk, k = some kk → kk < pinB) (hg : ∀ g, o'.has g → w.heap.size ≤ g ∨ ∃ kk ok, k = some kk ∧ μ kk = some ok ∧ ok.has g) (hreg : o'.r.isSome = true → d = rk ∧ ∃ m, blk = .reg m)
    (hB : ∀ μ', (μ' = fun j => if j = d then some o' else if k = some j then none else μ j) → Wd (XOf S μ) (XOf S μ') w w' → BlkOK w0.mine μ' (XOf S μ') w' o' blk) :
    StM S w0 (fun j => if j = d then some o' else if k = some j then none else μ j) ⟨σ.t, put1 d blk (killO k σ.o)⟩ a w' := by
  have hμd : μ d = none := by
    cases hm : μ d with
    | none => rfl
    | some o => obtain ⟨b, hb, _⟩ := h.live d o hm; rw [hd.n] at hb; cases hb
  have hout : ∀ b, b < w.heap.size → XOf S (fun j => if j = d then some o' else if k = some j then none else μ j) b → XOf S μ b := by
    rintro b hb (hs | ⟨j, o, hj, hog⟩)
    · exact .inl hs
    · dsimp only at hj
      by_cases hjd : j = d
      · rw [if_pos hjd] at hj; injection hj with hj; subst hj
        rcases hg b hog with hlt | ⟨kk, ok, _, h2, h3⟩
        · omega
        · exact .inr ⟨kk, ok, h2, h3⟩
      · rw [if_neg hjd] at hj
        split at hj
        · cases hj
        · exact .inr ⟨j, o, hj, hog⟩
  have hw : Wd (XOf S μ) (XOf S (fun j => if j = d then some o' else if k = some j then none else μ j)) w w' :=
    ⟨hsz, fun b hb hX => hbl b hb fun kk ok _ h2 h3 => hX (.inr ⟨kk, ok, h2, h3⟩), hout, fun _ h => h⟩
  have hkk : ∀ j, j ≠ d → (if j = d then some o' else if k = some j then none else μ j) = μ j ∨ (if j = d then some o' else if k = some j then none else μ j) = none := by
    intro j hj; rw [if_neg hj]; split
    · exact .inr rfl
    · exact .inl rfl
  refine ⟨h.defers.step hw, h.size, fun i c v hc hv => (h.tmps i c v hc hv).step hw fun j hm => hkk j (by rintro rfl; rw [hd.t i c hc] at hm; cases hm), ?_, ?_, ?_, hbelow, ⟨h.old.lt, fun j o hj => by
    have h1 := h.old.pin j o hj
    have h2 := h.old.hi j o hj
    by_cases hjd : j = d
    · subst hjd; rw [hμd] at h1; cases h1
    · rw [if_neg hjd, if_neg (fun e => by have := hkp j e; omega)]; exact h1, h.old.hi, h.old.tab, h.old.fr⟩⟩
  · intro j b hj
    rw [look_put1] at hj
    by_cases hjd : d = j
    · subst hjd
      rw [if_pos rfl] at hj; injection hj with hj; subst hj
      exact ⟨o', by simp, hB _ rfl hw⟩
    · rw [if_neg hjd, look_killO] at hj
      split at hj
      · cases hj
      · rename_i hkj
        obtain ⟨o, ho, hBo⟩ := h.blks j b hj
        refine ⟨o, by simp only [if_neg (Ne.symm hjd), if_neg hkj]; exact ho, hBo.step hw (fun g hog => hbl g (h.lt ho hog).2 fun kk ok e1 e2 e3 => ?_) fun jj hm => hkk jj (by rintro rfl; rw [hd.o j b hj] at hm; cases hm)⟩
        have := h.inj j kk o ok g ho e2 hog e3
        subst this; exact hkj e1
  · intro j o hj
    dsimp only at hj ⊢
    rw [look_put1]
    by_cases hjd : j = d
    · subst hjd; rw [if_pos rfl]; rw [if_pos rfl] at hj; injection hj with hj; subst hj; exact ⟨_, rfl, hreg⟩
    · rw [if_neg hjd] at hj
      rw [if_neg (Ne.symm hjd), look_killO]
      split at hj
      · cases hj
      · rename_i hkj; rw [if_neg hkj]; exact h.live j o hj
  · intro j j' o o2 g hj hj' hog hog'
    have key : ∀ j o, j ≠ d → (if k = some j then none else μ j) = some o → o.has g → o'.has g → False := by
      intro j o hjd hj hog hg'
      split at hj
      · cases hj
      · rename_i hkj
        rcases hg g hg' with hlt | ⟨kk, ok, e1, e2, e3⟩
        · have := (h.lt hj hog).2; omega
        · have := h.inj j kk o ok g hj e2 hog e3; subst this; exact hkj e1
    by_cases hjd : j = d
    · by_cases hjd' : j' = d
      · rw [hjd, hjd']
      · rw [if_pos hjd] at hj; rw [if_neg hjd'] at hj'; injection hj with hj; subst hj
        exact (key j' o2 hjd' hj' hog' hog).elim
    · by_cases hjd' : j' = d
      · rw [if_neg hjd] at hj; rw [if_pos hjd'] at hj'; injection hj' with hj'; subst hj'
        exact (key j o hjd hj hog hog').elim
      · rw [if_neg hjd] at hj; rw [if_neg hjd'] at hj'
        split at hj
        · cases hj
        · split at hj'
          · cases hj'
          · exact h.inj j j' o o2 g hj hj' hog hog'

theorem StM.r0 {S : Ex} {w0 : Base} {w : World} {μ : Nat → Option OI} {σ : VS} {a : Act} (h : StM S w0 μ σ a w) {k : Nat} {o : OI} {g : Nat} (hk : μ k = some o) (hg : o.g = some g) : o.r = none := by
  obtain ⟨b, hb, hreg⟩ := h.live k o hk
  obtain ⟨o', ho', hB⟩ := h.blks k b hb
  rw [hk] at ho'; injection ho' with ho'; subst ho'
  cases hr : o.r with
  | none => rfl
  | some x =>
    obtain ⟨_, m, rfl⟩ := hreg (by rw [hr]; rfl)
    obtain ⟨_, _, _, e, _⟩ := hB
    rw [hg] at e; cases e
theorem StM.fresh {S : Ex} {w0 : Base} {w w' : World} {μ : Nat → Option OI} {σ : VS} {a : Act} (h : StM S w0 μ σ a w) (d : Nat) (k : Option Nat) (hd : Clean d σ) (o' : OI) (blk : Blk)
    (hsz : w.heap.size ≤ w'.heap.size) (hbl : ∀ b, b < w.heap.size → (∀ kk ok, k = some kk → μ kk = some ok → ok.g ≠ some b) → w'.heap[b]? = w.heap[b]?) (hbelow : Bel w0 w')
    (hkp : ∀ kk, k = some kk → kk < pinB) (hg : ∀ g, o'.g = some g → w.heap.size ≤ g ∨ ∃ kk ok, k = some kk ∧ μ kk = some ok ∧ ok.g = some g)
    (hB : ∀ μ', (μ' = fun j => if j = d then some o' else if k = some j then none else μ j) → Wd (XOf S μ) (XOf S μ') w w' → BlkOK w0.mine μ' (XOf S μ') w' o' blk) (hr : o'.r = none := by rfl) :
    StM S w0 (fun j => if j = d then some o' else if k = some j then none else μ j) ⟨σ.t, put1 d blk (killO k σ.o)⟩ a w' := by
  refine h.freshR d k hd o' blk hsz (fun b hb hn => hbl b hb fun kk ok e1 e2 e3 => hn kk ok e1 e2 (.inl e3)) hbelow hkp (fun g hg' => ?_) (fun e => by rw [hr] at e; cases e) hB
  rcases hg' with hg' | ⟨_, _, e, _⟩
  · rcases hg g hg' with h1 | ⟨kk, ok, e1, e2, e3⟩
    · exact .inl h1
    · exact .inr ⟨kk, ok, e1, e2, .inl e3⟩
  · rw [hr] at e; cases e

/-- The block k is written in its place. -/
theorem StM.writeR {S : Ex} {w0 : Base} {w w' : World} {μ : Nat → Option OI} {σ : VS} {a : Act} (h : StM S w0 μ σ a w) (k : Nat) (o : OI) (g : Nat) (hk : μ k = some o) (hog : o.has g) (blk : Blk) (hreg : o.r.isSome = true → k = rk ∧ ∃ m, blk = .reg m)
    (hsz : w'.heap.size = w.heap.size) (hbl : ∀ b, b ≠ g → w'.heap[b]? = w.heap[b]?) (hbelow : Bel w0 w')
    (hB : Wd (XOf S μ) (XOf S μ) w w' → BlkOK w0.mine μ (XOf S μ) w' o blk) :
    StM S w0 μ ⟨σ.t, put1 k blk σ.o⟩ a w' := by
  have hw : Wd (XOf S μ) (XOf S μ) w w' := ⟨by omega, fun b _ hX => hbl b (by rintro rfl; exact hX (.inr ⟨k, o, hk, hog⟩)), fun _ _ h => h, fun _ h => h⟩
  refine ⟨h.defers.step hw, h.size, fun i c v hc hv => (h.tmps i c v hc hv).step hw fun _ _ => .inl rfl, ?_, ?_, h.inj, hbelow, h.old⟩
  · intro j b hj
    rw [look_put1] at hj
    by_cases hjk : k = j
    · subst hjk; rw [if_pos rfl] at hj; injection hj with hj; subst hj; exact ⟨o, hk, hB hw⟩
    · rw [if_neg hjk] at hj
      obtain ⟨o2, ho2, hB2⟩ := h.blks j b hj
      exact ⟨o2, ho2, hB2.step hw (fun g2 hg2 => hbl g2 (by rintro rfl; exact hjk (h.inj k j o o2 g2 hk ho2 hog hg2))) fun _ _ => .inl rfl⟩
  · intro j o2 hj
    dsimp only
    rw [look_put1]
    by_cases hjk : k = j
    · subst hjk; rw [if_pos rfl]; rw [hk] at hj; injection hj with hj; subst hj; exact ⟨_, rfl, hreg⟩
    · rw [if_neg hjk]; exact h.live j o2 hj
theorem StM.write {S : Ex} {w0 : Base} {w w' : World} {μ : Nat → Option OI} {σ : VS} {a : Act} (h : StM S w0 μ σ a w) (k : Nat) (o : OI) (g : Nat) (hk : μ k = some o) (hog : o.g = some g) (blk : Blk)
    (hsz : w'.heap.size = w.heap.size) (hbl : ∀ b, b ≠ g → w'.heap[b]? = w.heap[b]?) (hbelow : Bel w0 w')
    (hB : Wd (XOf S μ) (XOf S μ) w w' → BlkOK w0.mine μ (XOf S μ) w' o blk) :
    StM S w0 μ ⟨σ.t, put1 k blk σ.o⟩ a w' :=
  h.writeR k o g hk (.inl hog) blk (fun e => by rw [h.r0 hk hog] at e; cases e) hsz hbl hbelow hB
/-- What is so known is known more weakly. -/
def Weak (a b : AV) : Prop := ∀ μ X w v, Rel μ X w a v → Rel μ X w b v
end Go.Proofs.YtdmkhinckljddaaGreat
namespace Go.Proofs.YtdmkhinckljddaaGreat
open Go.RowKit

def updO (u : Option (Nat × Blk)) (o : List (Nat × Blk)) : List (Nat × Blk) := match u with
  | some (k, b) => put1 k b o
  | none => o
def newO (d : Option Tmp) (b : Option Blk) (o : List (Nat × Blk)) : List (Nat × Blk) := match b with
  | some b => match d with
    | some d => put1 d b o
    | none => o
  | none => o
def setT (d : Option Tmp) (c : AV) (t : List AV) : List AV := match d with
  | some d => t.set d c
  | none => t
def actsO : List (Nat × Option Blk) → List (Nat × Blk) → List (Nat × Blk)
  | [], o => o
  | (k, none) :: l, o => actsO l (drop1 k o)
  | (k, some b) :: l, o => actsO l (put1 k b o)
theorem actsO_app : ∀ (a b : List (Nat × Option Blk)) (o : List (Nat × Blk)), actsO (a ++ b) o = actsO b (actsO a o)
  | [], _, _ => rfl
  | (k, none) :: a, b, o => by rw [List.cons_append, actsO, actsO, actsO_app a b]
  | (k, some x) :: a, b, o => by rw [List.cons_append, actsO, actsO, actsO_app a b]
theorem look_actsO_ne {k : Nat} : ∀ {a : List (Nat × Option Blk)} {o : List (Nat × Blk)}, k ∉ a.map (·.1) → look (actsO a o) k = look o k
  | [], _, _ => rfl
  | (j, none) :: a, o, h => by
    simp only [List.map_cons, List.mem_cons, not_or] at h
    rw [actsO, look_actsO_ne h.2, look_drop1, if_neg (Ne.symm h.1)]
  | (j, some b) :: a, o, h => by
    simp only [List.map_cons, List.mem_cons, not_or] at h
    rw [actsO, look_actsO_ne h.2, look_put1, if_neg (Ne.symm h.1)]
theorem look_actsO_congr {k : Nat} : ∀ {a : List (Nat × Option Blk)} {o o' : List (Nat × Blk)}, look o k = look o' k → look (actsO a o) k = look (actsO a o') k
  | [], _, _, h => h
  | (j, none) :: a, o, o', h => by rw [actsO, actsO]; exact look_actsO_congr (by rw [look_drop1, look_drop1, h])
  | (j, some b) :: a, o, o', h => by rw [actsO, actsO]; exact look_actsO_congr (by rw [look_put1, look_put1, h])
def app (d : Option Tmp) (E : Eff) (σ : VS) : VS := ⟨setT d E.v σ.t, actsO E.acts (newO d E.new (updO E.upd (killO E.kill σ.o)))⟩
/-- The effect E is right at the operation o, in the state σ. -/
def OpS (P : Program) (o : Oper) (σ : VS) (E : Eff) : Prop :=
  ∀ S w0 μ a w, StM S w0 μ σ a w → (E.new.isSome = true → ∃ d, o.dst = some d ∧ Clean d σ) → ∀ K Q, (∀ a' w', St S w0 (app o.dst E σ) a' w' → K a' w') → o.wp P a w K Q

theorem opS_val {P : Program} {o : Oper} {σ : VS} {ob : List Prop} {v : AV}
    (h : ∀ S w0 μ a w, StM S w0 μ σ a w → ∃ x, (execOp a.eval o).run P w = .ok (.value x) w ∧ Rel μ (XOf S μ) w v x) : OpS P o σ { ob := ob, v := v } := by
  intro S w0 μ a w hst _ K Q hK
  obtain ⟨x, hr, hrel⟩ := h S w0 μ a w hst
  unfold Oper.wp; rw [hr]
  refine hK _ _ ⟨μ, ?_⟩
  exact hst.put o.dst hrel

/-- What a new block must hold. -/
def BlkNew (μ : Nat → Option OI) (X : Ex) (w : World) (o : OI) (cs : Array Value) (T : TypeId) : Blk → Prop
  | .var cells => cs.size = cells.length ∧ o.z = cells.length ∧ ∀ (j : Nat) (c : AV) (v : Value), cells[j]? = some c → cs[j]? = some v → Rel μ X w c v
  | .slc e z rows => T = e ∧ o.z = z ∧ o.n = rows.length ∧ (∀ (i : Nat) (r : List AV), rows[i]? = some r → r.length = z) ∧ rows.length ≤ o.cap ∧ o.cap ≤ maxLen ∧ cs.size = o.cap * z ∧
      ∀ (i : Nat) (r : List AV) (j : Nat) (c : AV) (v : Value), rows[i]? = some r → r[j]? = some c → cs[i * z + j]? = some v → PRel X w c v ∧ v.oneCell' = true
  | .obj _ => False
  | .lp _ _ _ => False
  | .foc _ _ _ _ _ => False
  | .reg _ => False

theorem opS_new {P : Program} {o : Oper} {σ : VS} {ob : List Prop} {v : AV} {b : Blk} {d : Nat} (hd : o.dst = some d) (hm : b.ment d = false)
    (h : ∀ S w0 μ a w, StM S w0 μ σ a w → ∃ x cs T oi, (execOp a.eval o).run P w = .ok (.value x) (w.alloc (.cells cs T)) ∧ (oi.g = some w.heap.size ∧ oi.r = none) ∧
      ((v = .ptr d 0 0 ∧ x = .pointer (some ⟨w.heap.size, 0, none⟩)) ∨ (v = .own d ∧ x = .slice (some ⟨w.heap.size, 0, none⟩) oi.n oi.cap)) ∧ BlkNew μ (XOf S μ) w oi cs T b) :
    OpS P o σ { ob := ob, v := v, new := some b } := by
  intro S w0 μ a w hst hcl K Q hK
  obtain ⟨d', hd', hclean⟩ := hcl rfl
  rw [hd] at hd'; injection hd' with hd'; subst hd'
  obtain ⟨x, cs, T, oi, hr, ⟨hg, hgr⟩, hv, hB⟩ := h S w0 μ a w hst
  unfold Oper.wp; rw [hr]
  have hbel : Below w.heap.size w (w.alloc (.cells cs T)) := (Below.refl _ _).alloc (Nat.le_refl _) _
  have hf := hst.fresh (w' := w.alloc (.cells cs T)) d none hclean oi b hbel.size (fun b hb _ => hbel.block b hb) (hst.below.later hbel) (fun _ h => by cases h) (fun g hg' => .inl (by rw [hg] at hg'; injection hg' with hg'; omega)) ?_ hgr
  · refine hK _ _ ⟨fun j => if j = d then some oi else if (none : Option Nat) = some j then none else μ j, ?_⟩
    rw [hd]
    refine hf.put (some d) ?_
    rcases hv with ⟨rfl, rfl⟩ | ⟨rfl, rfl⟩
    · have := Rel.ptr (μ := fun j => if j = d then some oi else if none = some j then none else μ j) (X := XOf S (fun j => if j = d then some oi else if none = some j then none else μ j)) (w := w.alloc (.cells cs T)) (k := d) (i := 0) (off := 0) (o := oi) (by simp) hg
      simpa using this
    · have := Rel.own (μ := fun j => if j = d then some oi else if none = some j then none else μ j) (X := XOf S (fun j => if j = d then some oi else if none = some j then none else μ j)) (w := w.alloc (.cells cs T)) (k := d) (o := oi) (by simp)
      rw [hg] at this; exact this
  · rintro μ' hμ' hw
    have hheap : (w.alloc (.cells cs T)).heap[w.heap.size]? = some (.cells cs T (0, 0)) := heap_alloc_new w _
    have hkk : ∀ k, b.ment k = true → μ' k = μ k ∨ μ' k = none := by
      intro k hk; left; rw [hμ']; simp only []; rw [if_neg (by rintro rfl; rw [hm] at hk; cases hk)]; simp
    cases b with
    | var cells =>
      obtain ⟨h1, h2, h3⟩ := hB
      exact ⟨_, cs, T, hg, .inl hst.below.size, hheap, h1, h2, fun j c v hc hv => (h3 j c v hc hv).step hw fun k hk => hkk k (AV.mentL_mem hc hk)⟩
    | slc e z rows =>
      obtain ⟨rfl, h2, h3, h4, h5, h6, h7, h8⟩ := hB
      exact ⟨h2, h3, h4, h5, h6, .inr ⟨_, cs, hg, .inl hst.below.size, hheap, h7, fun i r j c v hi hj hv => ⟨(h8 i r j c v hi hj hv).1.step hw, (h8 i r j c v hi hj hv).2⟩⟩⟩
    | obj x => exact hB.elim
    | lp b R t => exact hB.elim
    | foc e z rows i r => exact hB.elim
    | reg m => exact hB.elim

theorem opS_newObj {P : Program} {o : Oper} {σ : VS} {ob : List Prop} {x : Obj} {d : Nat} (hd : o.dst = some d)
    (h : ∀ S w0 μ a w, StM S w0 μ σ a w → (execOp a.eval o).run P w = .ok (.value (.map (some w.heap.size))) (w.alloc x)) : OpS P o σ { ob := ob, v := .mp d, new := some (.obj x) } := by
  intro S w0 μ a w hst hcl K Q hK
  obtain ⟨d', hd', hclean⟩ := hcl rfl
  rw [hd] at hd'; injection hd' with hd'; subst hd'
  have hr := h S w0 μ a w hst
  unfold Oper.wp; rw [hr]
  have hbel : Below w.heap.size w (w.alloc x) := (Below.refl _ _).alloc (Nat.le_refl _) _
  have hf := hst.fresh (w' := w.alloc x) d none hclean ⟨some w.heap.size, 0, 0, 0, none⟩ (.obj x) hbel.size (fun b hb _ => hbel.block b hb) (hst.below.later hbel) (fun _ h => by cases h) (fun g hg' => .inl (by injection hg' with hg'; omega)) (fun μ' _ _ => ⟨_, rfl, .inl hst.below.size, heap_alloc_new w _⟩)
  refine hK _ _ ⟨fun j => if j = d then some ⟨some w.heap.size, 0, 0, 0, none⟩ else if (none : Option Nat) = some j then none else μ j, ?_⟩
  rw [hd]
  refine hf.put (some d) ?_
  exact .mp (o := ⟨some w.heap.size, 0, 0, 0, none⟩) (by simp) rfl

theorem valsOf_eq {S : Ex} {w0 : Base} {w : World} {μ : Nat → Option OI} {σ : VS} {a : Act} (h : StM S w0 μ σ a w) {l : List Operand} (hv : allVal (evV σ.t) l = true) : ∀ x ∈ l, valsOf (evV σ.t) x = a.eval x := by
  intro x hx
  have := List.all_eq_true.1 hv x hx
  rw [Option.isSome_iff_exists] at this
  obtain ⟨v, hv'⟩ := this
  rw [valsOf, hv']; exact (AV.val_eq (h.eval x) hv').symm
theorem execVals {S : Ex} {w0 : Base} {w : World} {μ : Nat → Option OI} {σ : VS} {a : Act} (h : StM S w0 μ σ a w) {o : Oper} (hs : isSelect o.op = false) (hv : allVal (evV σ.t) o.op.operands.toList = true) :
    execOp (valsOf (evV σ.t)) o = execOp a.eval o :=
  execOp_congr o (fun cs b e => by rw [e] at hs; cases hs) fun x hx => valsOf_eq h hv x (by simpa using hx)

theorem vPure_ok {P : Program} {o : Oper} {σ : VS} {π π' : List PI} {E : Eff} (h : vPure P o (evV σ.t) π = some (E, π')) : OpS P o σ E := by
  unfold vPure at h
  split at h
  · cases h
  · rename_i hs
    split at h
    · rename_i hv
      split at h
      · rename_i v hp
        injection h with h; injection h with h1 h2; subst h1
        refine opS_val fun S w0 μ a w hst => ⟨v, ?_, .ofVal v⟩
        rw [← execVals hst (by simpa using hs) hv]; exact pureVal_run w hp
      · cases h
    · cases h
theorem vTold_ok {P : Program} {o : Oper} {σ : VS} {π π' : List PI} {E : Eff} (h : vTold P o (evV σ.t) π = some (E, π')) (hob : All E.ob) : OpS P o σ E := by
  unfold vTold at h
  split at h
  · cases h
  · rename_i hs
    split at h
    · rename_i hv
      split at h
      · rename_i u π2
        injection h with h; injection h with h1 h2; subst h1
        refine opS_val fun S w0 μ a w hst => ⟨u, ?_, .ofVal u⟩
        rw [← execVals hst (by simpa using hs) hv]; exact hob.1 w
      · cases h
    · cases h
theorem vNum_ok {P : Program} {o : Oper} {σ : VS} {π π' : List PI} {E : Eff} {k : IntKind} {ob : List Prop} {r : Int} (h : vNum k ob r π = some (E, π')) (hob : All E.ob)
    (hr : All ob → ∀ S w0 μ a w, StM S w0 μ σ a w → (execOp a.eval o).run P w = .ok (.value (.int k r)) w) : OpS P o σ E := by
  unfold vNum at h
  split at h
  · rename_i x π2
    injection h with h; injection h with h1 h2; subst h1
    obtain ⟨ha, hb, _⟩ := All.app hob
    subst hb
    exact opS_val fun S w0 μ a w hst => ⟨_, hr ha S w0 μ a w hst, .pure (.lit _)⟩
  · injection h with h; injection h with h1 h2; subst h1
    exact opS_val fun S w0 μ a w hst => ⟨_, hr hob S w0 μ a w hst, .pure (.lit _)⟩
  · cases h

theorem rel_lit {μ : Nat → Option OI} {X : Ex} {w : World} {v x : Value} (h : Rel μ X w (.lit v) x) : x = v := by
  cases h with | pure h => cases h; rfl

/-- What a comparison of these values comes to. -/
def BinTo (P : Program) (op : BinOp) (t : TypeId) (x y : Operand) (a b u : Value) : Prop := ∀ w, (do eqGuard op t x y a b; binOp op t a b).run P w = .ok u w
def vBinT (P : Program) (op : BinOp) (t : TypeId) (x y : Operand) (ρ : Operand → AV) (π : List PI) : Option (Eff × List PI) :=
  match (ρ x).val with
  | some a => match (ρ y).val with
    | some b => match π with
      | .v u :: π' => some ({ ob := [BinTo P op t x y a b u], v := ofVal u }, π')
      | _ => none
    | none => none
  | none => none
theorem vBinT_ok {P : Program} {o : Oper} {op : BinOp} {t u : TypeId} {x y : Operand} {σ : VS} {π π' : List PI} {E : Eff} (ho : o.op = .binOp op t x y u) (h : vBinT P op t x y (evV σ.t) π = some (E, π')) (hob : All E.ob) : OpS P o σ E := by
  unfold vBinT at h
  split at h
  · rename_i a ha
    split at h
    · rename_i b hb
      split at h
      · rename_i u π2
        injection h with h; injection h with h1 h2; subst h1
        refine opS_val fun S w0 μ ac w hst => ⟨u, ?_, .ofVal u⟩
        have ex := AV.val_eq (hst.eval x) ha
        have ey := AV.val_eq (hst.eval y) hb
        have := hob.1 w
        simp only [execOp, ho, ex, ey]
        rw [Sem.run_bind, this]; rfl
      · cases h
    · cases h
  · cases h
/-- A slice beside nil. -/
def vNilEq (P : Program) (op : BinOp) (t : TypeId) (rows : List (List AV)) (π : List PI) : Option (Eff × List PI) := match P.underlying t with
  | some (.slice _) => match op with
    | .eql => some ({ ob := [rows ≠ []], v := .lit (.bool false) }, π)
    | .neq => some ({ ob := [rows ≠ []], v := .lit (.bool true) }, π)
    | _ => none
  | _ => none
theorem nilEqV {P : Program} (w : World) (t e : TypeId) (ad : Addr) (l c : Nat) (h : P.underlying t = some (.slice e)) :
    (binOp .eql t (.slice (some ad) l c) (.slice none 0 0)).run P w = .ok (.bool false) w ∧ (binOp .neq t (.slice (some ad) l c) (.slice none 0 0)).run P w = .ok (.bool true) w := by
  have he : (Op.equal t (.slice (some ad) l c) (.slice none 0 0)).run P w = .ok false w := by
    have key : ∀ d, (Op.equalIn (d + 1) t (.slice (some ad) l c) (.slice none 0 0)).run P w = .ok false w := by
      intro d; simp [Op.equalIn, run_underlying h]
    exact key 9999
  constructor
  · simp only [binOp]; simp [he]
  · simp only [binOp]; simp [he]
def isNilV : AV → Bool
  | .lit (.slice none 0 0) => true
  | _ => false
theorem isNilV_eq {c : AV} (h : isNilV c = true) : c = .lit (.slice none 0 0) := by
  unfold isNilV at h; split at h
  · rfl
  · cases h
theorem vNilEq_ok {P : Program} {o : Oper} {op : BinOp} {t u : TypeId} {x y : Operand} {σ : VS} {π π' : List PI} {E : Eff} {z : Nat} {rows : List (List AV)} (ho : o.op = .binOp op t x y u) (hx : evV σ.t x = .sl z rows) (hy : isNilV (evV σ.t y) = true) (h : vNilEq P op t rows π = some (E, π')) (hob : All E.ob) : OpS P o σ E := by
  have key : rows ≠ [] → ∀ S w0 μ ac w, StM S w0 μ σ ac w → ∃ ad c, ac.eval x = .slice (some ad) rows.length c ∧ ac.eval y = .slice none 0 0 := by
    intro hne S w0 μ ac w hst
    have ex := hst.eval x; rw [hx] at ex
    have ey := hst.eval y; rw [isNilV_eq hy] at ey
    have ey := rel_lit ey
    generalize ac.eval x = v at ex
    cases ex with
    | pure hp => cases hp with
      | nil => exact absurd rfl hne
      | sl => exact ⟨_, _, rfl, ey⟩
  unfold vNilEq at h
  split at h
  · rename_i e hu
    split at h
    · injection h with h; injection h with h1 h2; subst h1
      refine opS_val fun S w0 μ ac w hst => ⟨.bool false, ?_, .pure (.lit _)⟩
      obtain ⟨ad, c, e1, e2⟩ := key hob.1 S w0 μ ac w hst
      simp only [execOp, ho, e1, e2]
      rw [Sem.run_bind]
      have hg : (eqGuard .eql t x y (.slice (some ad) rows.length c) (.slice none 0 0)).run P w = .ok () w := rfl
      rw [Sem.run_bind, hg, Result.andThen_ok, (nilEqV w t e ad rows.length c hu).1]; rfl
    · injection h with h; injection h with h1 h2; subst h1
      refine opS_val fun S w0 μ ac w hst => ⟨.bool true, ?_, .pure (.lit _)⟩
      obtain ⟨ad, c, e1, e2⟩ := key hob.1 S w0 μ ac w hst
      simp only [execOp, ho, e1, e2]
      rw [Sem.run_bind]
      have hg : (eqGuard .neq t x y (.slice (some ad) rows.length c) (.slice none 0 0)).run P w = .ok () w := rfl
      rw [Sem.run_bind, hg, Result.andThen_ok, (nilEqV w t e ad rows.length c hu).2]; rfl
    · cases h
  · cases h
def vBin (P : Program) (o : Oper) (op : BinOp) (t : TypeId) (x y : Operand) (ρ : Operand → AV) (π : List PI) : Option (Eff × List PI) :=
  match ρ x with
  | .lit (.int k a) => match ρ y with
    | .lit (.int k' b) => match isArith op with
      | true => match arith op k a k' b with
        | some (ob, r) => vNum k ob r π
        | none => none
      | false => vPure P o ρ π
    | _ => none
  | .agg _ => vBinT P op t x y ρ π
  | .sl _ rows => match isNilV (ρ y) with
    | true => vNilEq P op t rows π
    | false => vPure P o ρ π
  | _ => match π with
    | .v _ :: _ => vBinT P op t x y ρ π
    | _ => vPure P o ρ π
theorem run_arith {P : Program} {op : BinOp} {t : TypeId} {x y : Operand} {k k' : IntKind} {a b r : Int} {ob : List Prop} (h : arith op k a k' b = some (ob, r)) (hob : All ob) (w : World) :
    (do eqGuard op t x y (.int k a) (.int k' b); binOp op t (.int k a) (.int k' b)).run P w = .ok (.int k r) w := by
  have hg : (eqGuard op t x y (.int k a) (.int k' b)).run P w = .ok () w := by
    unfold eqGuard
    cases op <;> rfl
  rw [Sem.run_bind, hg, Result.andThen_ok]
  cases op <;> simp only [arith] at h <;> first | (cases h; done) | skip
  all_goals first
    | (split at h
       · rename_i hk
         have hk : k = k' := by simpa using hk
         subst hk
         injection h with h; injection h with h1 h2; subst h1 h2
         first
           | (simp [binOp, Op.intArith]; done)
           | (simp [binOp, Op.intDiv, hob.1]; done)
       · cases h)
    | (injection h with h; injection h with h1 h2; subst h1 h2
       have h0 : ¬ b < 0 := by have := hob.1; omega
       simp [binOp, Op.shift, h0]; done)
theorem vBin_ok {P : Program} {o : Oper} {op : BinOp} {t u : TypeId} {x y : Operand} {σ : VS} {π π' : List PI} {E : Eff} (ho : o.op = .binOp op t x y u) (h : vBin P o op t x y (evV σ.t) π = some (E, π')) (hob : All E.ob) : OpS P o σ E := by
  unfold vBin at h
  split at h
  · rename_i k a hx
    split at h
    · rename_i k' b hy
      split at h
      · split at h
        · rename_i ob r har
          refine vNum_ok h hob fun hob' S w0 μ ac w hst => ?_
          have ex := hst.eval x; rw [hx] at ex
          have ey := hst.eval y; rw [hy] at ey
          simp only [execOp, ho, rel_lit ex, rel_lit ey]
          rw [Sem.run_bind, run_arith har hob' w]; rfl
        · cases h
      · exact vPure_ok h
    · cases h
  · exact vBinT_ok ho h hob
  · rename_i z rows hx
    split at h
    · rename_i hy; exact vNilEq_ok ho hx hy h hob
    · exact vPure_ok h
  · split at h
    · exact vBinT_ok ho h hob
    · exact vPure_ok h
end Go.Proofs.YtdmkhinckljddaaGreat
namespace Go.Proofs.YtdmkhinckljddaaGreat
open Go.RowKit

abbrev Env := Nat → Option Blk
def EnvOK (env : Env) (σ : VS) : Prop := ∀ k b, env k = some b → look σ.o k = some b

def AV.one' (env : Env) : AV → Bool
  | .lit v => v.oneCell'
  | .sl _ _ => true
  | .own k => (env k).isSome
  | .ptr k _ _ => (env k).isSome
  | .ia _ => true
  | .clo _ _ => true
  | .ifc _ _ => true
  | .mth _ _ => true
  | .bnd _ _ => true
  | .mp k => (env k).isSome
  | .yl k => (env k).isSome
  | .fs _ _ => true
  | .tr _ _ => (env rk).isSome
  | .tia _ => (env rk).isSome
  | .uint _ => true
  | _ => false
def cellsE (env : Env) : AV → Option (List AV)
  | .agg l => if l.all (AV.one' env) then some l else none
  | v => if v.one' env then some [v] else none
theorem one_ok {S : Ex} {w0 : Base} {w : World} {μ : Nat → Option OI} {σ : VS} {a : Act} {env : Env} (h : StM S w0 μ σ a w) (he : EnvOK env σ) {c : AV} {v : Value} (hr : Rel μ (XOf S μ) w c v) (h1 : c.one' env = true) : v.oneCell' = true := by
  have hlive : ∀ k, (env k).isSome = true → ∃ o, μ k = some o := by
    intro k hk
    obtain ⟨b, hb⟩ := Option.isSome_iff_exists.1 hk
    obtain ⟨o, ho, _⟩ := h.blks k b (he k b hb)
    exact ⟨o, ho⟩
  cases hr with
  | any => simp [AV.one'] at h1
  | pure hp => cases hp with
    | lit => exact h1
    | nil => rfl
    | sl => rfl
    | fs h => cases h <;> rfl
  | agg => simp [AV.one'] at h1
  | tup => simp [AV.one'] at h1
  | clo => rfl
  | ia => rfl
  | own => rfl
  | ptr => rfl
  | deadO _ hn => obtain ⟨o, ho⟩ := hlive _ h1; rw [hn] at ho; cases ho
  | deadP _ hn => obtain ⟨o, ho⟩ := hlive _ h1; rw [hn] at ho; cases ho
  | opt => simp [AV.one'] at h1
  | ifc => rfl
  | mth => rfl
  | bnd => rfl
  | mp => rfl
  | deadM _ hn => obtain ⟨o, ho⟩ := hlive _ h1; rw [hn] at ho; cases ho
  | yl => rfl
  | deadY _ hn => obtain ⟨o, ho⟩ := hlive _ h1; rw [hn] at ho; cases ho
  | tr _ _ hp => cases hp with
    | fs h => cases h <;> rfl
  | deadT _ hn => obtain ⟨o, ho⟩ := hlive _ h1; rw [hn] at ho; cases ho
  | tia => rfl
  | deadI _ hn => obtain ⟨o, ho⟩ := hlive _ h1; rw [hn] at ho; cases ho
  | uint => rfl
theorem one_cells {v : Value} (h : v.oneCell' = true) : v.cells = #[v] := by
  cases v <;> first | rfl | (simp [Value.oneCell'] at h)
theorem cellsE_ok {S : Ex} {w0 : Base} {w : World} {μ : Nat → Option OI} {σ : VS} {a : Act} {env : Env} (h : StM S w0 μ σ a w) (he : EnvOK env σ) {c : AV} {v : Value} {l : List AV} (hr : Rel μ (XOf S μ) w c v) (hc : cellsE env c = some l) :
    v.cells.size = l.length ∧ (∀ (j : Nat) (c : AV) (u : Value), l[j]? = some c → v.cells[j]? = some u → Rel μ (XOf S μ) w c u) ∧ ∀ u ∈ v.cells.toList, u.oneCell' = true := by
  have single : ∀ c, Rel μ (XOf S μ) w c v → (if c.one' env then some [c] else none) = some l → v.cells.size = l.length ∧ (∀ (j : Nat) (c : AV) (u : Value), l[j]? = some c → v.cells[j]? = some u → Rel μ (XOf S μ) w c u) ∧ ∀ u ∈ v.cells.toList, u.oneCell' = true := by
    intro c hr hc
    split at hc
    · rename_i h1
      injection hc with hc; subst hc
      have ho := one_ok h he hr h1
      rw [one_cells ho]
      refine ⟨rfl, fun j c' u hj hu => ?_, fun u hu => ?_⟩
      · cases j with
        | zero => simp at hj hu; subst hj hu; exact hr
        | succ j => simp at hj
      · simp at hu; subst hu; exact ho
    · cases hc
  cases c with
  | agg ls =>
    rw [cellsE] at hc
    split at hc
    · rename_i h1
      injection hc with hc; subst hc
      cases hr with
      | pure hp => cases hp
      | agg hl hh =>
        rename_i vs
        refine ⟨by simpa [Value.cells] using hl, fun j c u hj hu => hh j c u hj (by simpa [Value.cells] using hu), fun u hu => ?_⟩
        simp only [Value.cells] at hu
        obtain ⟨j, hj, rfl⟩ := List.getElem_of_mem hu
        have hj' : j < ls.length := by rw [← hl]; exact hj
        exact one_ok h he (hh j ls[j] _ (List.getElem?_eq_getElem hj') (List.getElem?_eq_getElem hj)) (List.all_eq_true.1 h1 _ (List.getElem_mem hj'))
    · cases hc
  | _ => exact single _ hr hc

def aggP (P : Program) (t : TypeId) : Option Bool := match P.underlying t with
  | some (.struct _) => some true
  | some (.array _ _) => some true
  | some _ => some false
  | none => none
theorem run_isAgg {P : Program} {t : TypeId} {b : Bool} (h : aggP P t = some b) (w : World) : (isAgg t).run P w = .ok b w := by
  unfold aggP at h
  split at h
  · rename_i fs hu; injection h with h; subst h; simp [isAgg, run_underlying hu]
  · rename_i n e hu; injection h with h; subst h; simp [isAgg, run_underlying hu]
  · rename_i d h1 h2 hu
    injection h with h; subst h
    simp only [isAgg, Sem.run_bind, run_underlying hu, Result.andThen_ok]
    cases d <;> first | rfl | (exact absurd hu (h1 _)) | (exact absurd hu (h2 _ _))
  · cases h
theorem run_sizeOf {P : Program} {t : TypeId} {n : Nat} (h : szP P t = some n) (w : World) : (sizeOf t).run P w = .ok n w := by
  unfold szP at h
  rw [Option.map_eq_some_iff] at h
  obtain ⟨i, hi, rfl⟩ := h
  simp [sizeOf, typeInfo, hi]

def rdCells (P : Program) (t : TypeId) (cells : List AV) (off : Nat) : Option AV :=
  match aggP P t with
  | some true => match szP P t with
    | some n => if ((cells.drop off).take n).length == n then some (.agg ((cells.drop off).take n)) else none
    | none => none
  | some false => cells[off]?
  | none => none
theorem rdCells_ok {P : Program} {t : TypeId} {cells : List AV} {off : Nat} {c : AV} {μ : Nat → Option OI} {X : Ex} {w : World} {b base : Nat} (h : rdCells P t cells off = some c)
    (hr : ∀ (j : Nat) (c : AV), cells[j]? = some c → ∃ v, w.cell? ⟨b, base + j, none⟩ = some v ∧ Rel μ X w c v) : ∃ v, (loadVar t ⟨b, base + off, none⟩).run P w = .ok v w ∧ Rel μ X w c v := by
  unfold rdCells at h
  split at h
  · rename_i ha
    split at h
    · rename_i n hn
      split at h
      · rename_i hlen
        injection h with h; subst h
        have hlen' : ((cells.drop off).take n).length = n := by simpa using hlen
        have hex : ∀ j, j < n → ∃ v, w.cell? ⟨b, base + off + j, none⟩ = some v ∧ ∀ c, ((cells.drop off).take n)[j]? = some c → Rel μ X w c v := by
          intro j hj
          have hj' : j < ((cells.drop off).take n).length := by omega
          have hg : cells[off + j]? = some ((cells.drop off).take n)[j] := by
            rw [← List.getElem?_drop, ← List.getElem?_eq_getElem hj', List.getElem?_take, if_pos hj]
          obtain ⟨v, hv, hrel⟩ := hr _ _ hg
          refine ⟨v, by rw [Nat.add_assoc]; exact hv, fun c hc => ?_⟩
          rw [List.getElem?_eq_getElem hj'] at hc; injection hc with hc; rw [← hc]; exact hrel
        have ⟨vs, hvl, hvc, hvr⟩ : ∃ vs : List Value, vs.length = n ∧ (∀ j v, vs[j]? = some v → w.cell? ⟨b, base + off + j, none⟩ = some v) ∧ (∀ (j : Nat) c v, ((cells.drop off).take n)[j]? = some c → vs[j]? = some v → Rel μ X w c v) := by
          refine ⟨(List.range n).map fun j => (w.cell? ⟨b, base + off + j, none⟩).getD undef, by simp, fun j v hv => ?_, fun j c v hc hv => ?_⟩
          · rw [List.getElem?_map] at hv
            by_cases hj : j < n
            · obtain ⟨u, hu, _⟩ := hex j hj
              simp [hj, hu] at hv; rw [hu, hv]
            · simp [hj] at hv
          · rw [List.getElem?_map] at hv
            by_cases hj : j < n
            · obtain ⟨u, hu, hrel⟩ := hex j hj
              simp [hj, hu] at hv; rw [← hv]; exact hrel c hc
            · simp [hj] at hv
        refine ⟨.agg vs.toArray, ?_, .agg (by rw [hvl, hlen']) fun i c v hc hv => hvr i c v hc hv⟩
        have hl : (loadCells ⟨b, base + off, none⟩ n).run P w = .ok vs.toArray w := by
          rw [← hvl]; exact run_loadCells_list (P := P) w ⟨b, base + off, none⟩ vs fun j v hv => by rw [Addr.add_mid]; exact hvc j v hv
        simp only [loadVar, Sem.run_bind, run_isAgg ha, Result.andThen_ok, if_true, run_sizeOf hn, hl]; rfl
      · cases h
    · cases h
  · rename_i ha
    obtain ⟨v, hv, hrel⟩ := hr _ _ h
    refine ⟨v, ?_, hrel⟩
    simp only [loadVar, Sem.run_bind, run_isAgg ha, Result.andThen_ok, Bool.false_eq_true, if_false]
    simp [load, Sem.run, hv]
  · cases h

/-- The cells of a place in a block of the call's own. -/
def placeCells (env : Env) (k i : Nat) (π : List PI) : Option (List Prop × List AV × List PI) := match env k with
  | some (.var cells) => match i with
    | 0 => some ([], cells, π)
    | _ => none
  | some (.slc _ _ rows) => match π with
    | .row r :: π' => some ([rows[i]? = some r], r, π')
    | _ => none
  | some (.foc _ _ _ i0 r) => some ([i = i0], r, π)
  | _ => none
theorem placeCells_ok {S : Ex} {w0 : Base} {w : World} {μ : Nat → Option OI} {σ : VS} {a : Act} {env : Env} (h : StM S w0 μ σ a w) (he : EnvOK env σ) {k i : Nat} {π π' : List PI} {ob : List Prop} {cells : List AV}
    (hp : placeCells env k i π = some (ob, cells, π')) (hob : All ob) : ∃ o g, μ k = some o ∧ o.g = some g ∧ ∀ (j : Nat) (c : AV), cells[j]? = some c → ∃ v, w.cell? ⟨g, i * o.z + j, none⟩ = some v ∧ Rel μ (XOf S μ) w c v := by
  unfold placeCells at hp
  split at hp
  · rename_i cs hk
    split at hp
    · injection hp with hp; injection hp with h1 hp; injection hp with h2 h3; subst h1 h2
      obtain ⟨o, ho, g, arr, T, hg, hB, hh, hs, hz, hrel⟩ := h.blks k _ (he k _ hk)
      refine ⟨o, g, ho, hg, fun j c hj => ?_⟩
      have hlt : j < arr.size := by rw [hs]; exact (List.getElem?_eq_some_iff.1 hj).1
      refine ⟨arr[j], ?_, hrel j c _ hj (Array.getElem?_eq_getElem hlt)⟩
      simp [World.cell?, hh, hlt]
    · cases hp
  · rename_i e z rows hk
    split at hp
    · rename_i r π2
      injection hp with hp; injection hp with h1 hp; injection hp with h2 h3; subst h1 h2
      obtain ⟨hi, _⟩ := hob
      obtain ⟨o, ho, hz, hn, hlen, hcap, hmax, hcase⟩ := h.blks k _ (he k _ hk)
      rcases hcase with ⟨_, hr, _⟩ | ⟨g, arr, hg, hB, hh, hs, hrel⟩
      · rw [hr] at hi; simp at hi
      · refine ⟨o, g, ho, hg, fun j c hj => ?_⟩
        have hjz : j < z := by rw [← hlen i _ hi]; exact (List.getElem?_eq_some_iff.1 hj).1
        have hil : i < rows.length := (List.getElem?_eq_some_iff.1 hi).1
        have hlt : i * z + j < arr.size := by
          rw [hs]
          have : (i + 1) * z ≤ o.cap * z := Nat.mul_le_mul_right _ (by omega)
          rw [Nat.add_mul] at this; omega
        refine ⟨arr[i * z + j], ?_, .pure (hrel i _ j c _ hi hj (Array.getElem?_eq_getElem hlt)).1⟩
        rw [hz]; simp [World.cell?, hh, hlt]
    · cases hp
  · rename_i e z rows i0 r hk
    injection hp with hp; injection hp with h1 hp; injection hp with h2 h3; subst h1 h2
    obtain ⟨rfl, _⟩ := hob
    obtain ⟨o, ho, hz, hn, hlen, hcap, hmax, hi, hr, g, arr, hg, hB, hh, hs, _, hrel⟩ := h.blks k _ (he k _ hk)
    refine ⟨o, g, ho, hg, fun j c hj => ?_⟩
    have hjz : j < z := by rw [← hr]; exact (List.getElem?_eq_some_iff.1 hj).1
    have hlt : i * z + j < arr.size := by
      rw [hs]
      have : (i + 1) * z ≤ o.cap * z := Nat.mul_le_mul_right _ (by omega)
      rw [Nat.add_mul] at this; omega
    refine ⟨arr[i * z + j], ?_, (hrel j c _ hj (Array.getElem?_eq_getElem hlt)).1⟩
    rw [hz]; simp [World.cell?, hh, hlt]
  · cases hp

/-- Whole arrays, and slices' blocks seen as arrays. -/
def wholeCells (env : Env) (k : Nat) : Option (List AV) := match env k with
  | some (.slc _ _ rows) => some rows.flatten
  | _ => none

def vLoad (P : Program) (t : TypeId) (x : Operand) (ρ : Operand → AV) (env : Env) (π : List PI) : Option (Eff × List PI) :=
  match ρ x with
  | .ptr k i off => match placeCells env k i π with
    | some (ob, cells, π') => match rdCells P t cells off with
      | some c => some ({ ob := ob, v := c }, π')
      | none => none
    | none => none
  | .ia row => match rdCells P t row 0 with
    | some c => some ({ v := c }, π)
    | none => none
  | _ => none
theorem vLoad_ok {P : Program} {o : Oper} {t : TypeId} {x : Operand} {σ : VS} {env : Env} {π π' : List PI} {E : Eff} (ho : o.op = .load t x) (he : EnvOK env σ) (h : vLoad P t x (evV σ.t) env π = some (E, π')) (hob : All E.ob) : OpS P o σ E := by
  unfold vLoad at h
  split at h
  · rename_i k i off hx
    split at h
    · rename_i ob cells π2 hp
      split at h
      · rename_i c hrd
        injection h with h; injection h with h1 h2; subst h1
        refine opS_val fun S w0 μ ac w hst => ?_
        obtain ⟨oi, g, hk, hg, hcell⟩ := placeCells_ok hst he hp hob
        have ex := hst.eval x; rw [hx] at ex
        obtain ⟨v, hrun, hrel⟩ := rdCells_ok (b := g) (base := i * oi.z) hrd hcell
        refine ⟨v, ?_, hrel⟩
        have : ac.eval x = .pointer (some ⟨g, i * oi.z + off, none⟩) := by
          generalize ac.eval x = u at ex
          cases ex with
          | pure hp => cases hp
          | ptr h1 h2 => rw [hk] at h1; injection h1 with h1; subst h1; rw [hg] at h2; injection h2 with h2; subst h2; rfl
          | deadP _ hn => rw [hk] at hn; cases hn
        simp only [execOp, ho, this, Instr.loadAt, Instr.sureAddr, Sem.run_bind, Sem.run_pure, Result.andThen_ok, hrun]
      · cases h
    · cases h
  · rename_i row hx
    split at h
    · rename_i c hrd
      injection h with h; injection h with h1 h2; subst h1
      refine opS_val fun S w0 μ ac w hst => ?_
      have ex := hst.eval x; rw [hx] at ex
      generalize hu : ac.eval x = u at ex
      cases ex with
      | pure hp => cases hp
      | @ia _ b off cv hX hb h1 h2 =>
        obtain ⟨v, hrun, hrel⟩ := rdCells_ok (b := b) (base := off) (μ := μ) hrd (fun j c hj => ⟨cv j, h1 j c hj, .pure (h2 j c hj)⟩)
        refine ⟨v, ?_, hrel⟩
        rw [Nat.add_zero] at hrun
        simp only [execOp, ho, hu, Instr.loadAt, Instr.sureAddr, Sem.run_bind, Sem.run_pure, Result.andThen_ok, hrun]
    · cases h
  · cases h
end Go.Proofs.YtdmkhinckljddaaGreat
namespace Go.Proofs.YtdmkhinckljddaaGreat
open Go.RowKit

def splice (cells : List AV) (off : Nat) (l : List AV) : List AV := cells.take off ++ l ++ cells.drop (off + l.length)
theorem splice_get (cells : List AV) (off : Nat) (l : List AV) (h : off + l.length ≤ cells.length) (j : Nat) : (splice cells off l)[j]? = if off ≤ j ∧ j < off + l.length then l[j - off]? else cells[j]? := by
  unfold splice
  by_cases h1 : j < off
  · rw [if_neg (by omega), List.append_assoc, List.getElem?_append_left (by simp; omega), List.getElem?_take, if_pos h1]
  · by_cases h2 : j < off + l.length
    · rw [if_pos ⟨by omega, h2⟩, List.getElem?_append_left (by simp; omega), List.getElem?_append_right (by simp; omega)]
      congr 1; simp; omega
    · rw [if_neg (by omega), List.getElem?_append_right (by simp; omega), List.getElem?_drop]
      congr 1; simp; omega
theorem splice_len (cells : List AV) (off : Nat) (l : List AV) (h : off + l.length ≤ cells.length) : (splice cells off l).length = cells.length := by
  simp [splice]; omega

theorem ptr_eval {μ : Nat → Option OI} {X : Ex} {w : World} {k i off : Nat} {u : Value} {o : OI} {g : Nat} (h : Rel μ X w (.ptr k i off) u) (hk : μ k = some o) (hg : o.g = some g) : u = .pointer (some ⟨g, i * o.z + off, none⟩) := by
  cases h with
  | pure hp => cases hp
  | ptr h1 h2 => rw [hk] at h1; injection h1 with h1; subst h1; rw [hg] at h2; injection h2 with h2; subst h2; rfl
  | deadP _ hn => rw [hk] at hn; cases hn

def vStore (P : Program) (t : TypeId) (x y : Operand) (ρ : Operand → AV) (env : Env) (π : List PI) : Option (Eff × List PI) :=
  match ρ x with
  | .ptr k i off => match cellsE env (ρ y) with
    | some l => if szP P t == some l.length then
        match env k with
        | some (.var cells) => match i with
          | 0 => if Nat.ble (off + l.length) cells.length then some ({ v := .any, upd := some (k, .var (splice cells off l)) }, π) else none
          | _ => none
        | some (.slc e z rows) => match l.all AV.pur with
          | true => match π with
            | .row r :: π' => if Nat.ble (off + l.length) r.length then some ({ ob := [rows[i]? = some r], v := .any, upd := some (k, .slc e z (rows.set i (splice r off l))) }, π') else none
            | .nat _ :: π' => if off == 0 && l.length == z then some ({ ob := [i < rows.length], v := .any, upd := some (k, .slc e z (rows.set i l)) }, π') else none
            | _ => none
          | false => match π with
            | .nat _ :: π' => if off == 0 && l.length == z then some ({ ob := [i < rows.length], v := .any, upd := some (k, .foc e z rows i l) }, π') else none
            | _ => none
        | _ => none
      else none
    | none => none
  | _ => none

theorem run_storeAt {P : Program} {t : TypeId} {w : World} {g off : Nat} {T : TypeId} {arr : Array Value} {v : Value} (hg : w.heap[g]? = some (.cells arr T (0, 0))) (hs : szP P t = some v.cells.size) (hfit : off + v.cells.size ≤ arr.size) (h1 : ∀ u ∈ v.cells.toList, u.oneCell' = true) :
    (Instr.storeAt t (.pointer (some ⟨g, off, none⟩)) v).run P w = .ok () (w.setRow g (arr.toList.take off ++ v.cells.toList ++ arr.toList.drop (off + v.cells.size)).toArray) := by
  have h := run_storeCells_at P g off T v.cells.toList 0 arr w hg (by simpa using hfit) h1
  simp only [Nat.add_zero, Array.length_toList] at h
  simp only [Instr.storeAt, Instr.sureAddr, Sem.run_bind, Sem.run_pure, Result.andThen_ok, storeVar, run_sizeOf hs, ne_eq, not_true, if_false, h]

theorem seg_get {arr : Array Value} {off : Nat} {vs : List Value} (hfit : off + vs.length ≤ arr.size) (j : Nat) : (arr.toList.take off ++ vs ++ arr.toList.drop (off + vs.length)).toArray[j]? = if off ≤ j ∧ j < off + vs.length then vs[j - off]? else arr[j]? := by
  simp only [List.getElem?_toArray]
  by_cases h1 : j < off
  · rw [if_neg (by omega), List.append_assoc, List.getElem?_append_left (by simp; omega), List.getElem?_take, if_pos h1]; simp
  · by_cases h2 : j < off + vs.length
    · rw [if_pos ⟨by omega, h2⟩, List.getElem?_append_left (by simp; omega), List.getElem?_append_right (by simp; omega)]
      congr 1; simp; omega
    · rw [if_neg (by omega), List.getElem?_append_right (by simp; omega), List.getElem?_drop]
      simp only [List.length_append, List.length_take, Array.length_toList, Array.getElem?_toList]
      congr 1; omega
theorem setRow_size (w : World) (g : Nat) (cs : Array Value) : (w.setRow g cs).heap.size = w.heap.size := by simp [World.setRow]

theorem rel_pur {μ : Nat → Option OI} {X : Ex} {w : World} {c : AV} {v : Value} (h : Rel μ X w c v) (hp : c.pur = true) : PRel X w c v := by
  cases h with
  | pure h => exact h
  | any => simp [AV.pur] at hp
  | agg => simp [AV.pur] at hp
  | tup => simp [AV.pur] at hp
  | clo => simp [AV.pur] at hp
  | ia => simp [AV.pur] at hp
  | own => simp [AV.pur] at hp
  | ptr => simp [AV.pur] at hp
  | deadO => simp [AV.pur] at hp
  | deadP => simp [AV.pur] at hp
  | opt => simp [AV.pur] at hp
  | ifc => simp [AV.pur] at hp
  | mth => simp [AV.pur] at hp
  | bnd => simp [AV.pur] at hp
  | mp => simp [AV.pur] at hp
  | deadM => simp [AV.pur] at hp
  | yl => simp [AV.pur] at hp
  | deadY => simp [AV.pur] at hp
  | tr => simp [AV.pur] at hp
  | deadT => simp [AV.pur] at hp
  | tia => simp [AV.pur] at hp
  | deadI => simp [AV.pur] at hp
  | uint => simp [AV.pur] at hp

theorem slc_write {S : Ex} {w0 : Base} {w : World} {μ : Nat → Option OI} {σ : VS} {a : Act} (h : StM S w0 μ σ a w) {k : Nat} {e : TypeId} {z : Nat} {rows : List (List AV)} (hk : look σ.o k = some (.slc e z rows))
    {i off : Nat} {l r' : List AV} {v : Value} (hi : i < rows.length) (hoff : off + l.length ≤ z) (hv1 : v.cells.size = l.length) (hv2 : ∀ (j : Nat) (c : AV) (u : Value), l[j]? = some c → v.cells[j]? = some u → Rel μ (XOf S μ) w c u) (hv3 : ∀ u ∈ v.cells.toList, u.oneCell' = true) (hp : l.all AV.pur = true)
    (hr' : r'.length = z) (hr : ∀ (j : Nat) (c : AV), r'[j]? = some c → if off ≤ j ∧ j < off + l.length then l[j - off]? = some c else ∃ r, rows[i]? = some r ∧ r[j]? = some c) :
    ∃ o g arr T, μ k = some o ∧ o.g = some g ∧ o.z = z ∧ w.heap[g]? = some (.cells arr T (0, 0)) ∧ i * z + off + v.cells.size ≤ arr.size ∧
      StM S w0 μ ⟨σ.t, put1 k (.slc e z (rows.set i r')) σ.o⟩ a (w.setRow g (arr.toList.take (i * z + off) ++ v.cells.toList ++ arr.toList.drop (i * z + off + v.cells.size)).toArray) := by
  obtain ⟨o, ho, hz, hn, hlen, hcap, hmax, hcase⟩ := h.blks k _ hk
  rcases hcase with ⟨_, hr0, _⟩ | ⟨g, arr, hg, hB, hh, hs, hrel⟩
  · rw [hr0] at hi; simp at hi
  · have hfit : i * z + off + v.cells.size ≤ arr.size := by
      rw [hs]
      have : (i + 1) * z ≤ o.cap * z := Nat.mul_le_mul_right _ (by omega)
      rw [Nat.add_mul] at this; omega
    have hfit' : i * z + off + v.cells.toList.length ≤ arr.size := by simpa using hfit
    refine ⟨o, g, arr, e, ho, hg, hz, hh, hfit, ?_⟩
    have hseg := fun j => seg_get (vs := v.cells.toList) hfit' j
    simp only [Array.length_toList] at hseg
    refine h.write k o g ho hg _ (setRow_size _ _ _) (fun b hb => setRow_other w g b _ hb) (h.below.setRow hB _) fun hw => ?_
    refine ⟨hz, by simpa using hn, fun j r hj => ?_, by simpa using hcap, hmax, .inr ⟨g, _, hg, hB, setRow_heap w g arr _ e _ hh, ?_, ?_⟩⟩
    · rw [List.getElem?_set] at hj
      split at hj
      · injection hj with hj; subst hj; exact hr'
      · exact hlen j r hj
    · simp; omega
    · intro i2 r2 j c u hi2 hj hu
      have hi2l : i2 < rows.length := by have := (List.getElem?_eq_some_iff.1 hi2).1; simpa using this
      have hjz : j < z := by
        have := (List.getElem?_eq_some_iff.1 hj).1
        rw [List.getElem?_set] at hi2
        split at hi2
        · injection hi2 with hi2; subst hi2; omega
        · rw [hlen i2 r2 hi2] at this; exact this
      rw [hseg] at hu
      have hne : i2 ≠ i → ¬ (i * z + off ≤ i2 * z + j ∧ i2 * z + j < i * z + off + v.cells.size) := by
        intro hne ⟨h1, h2⟩
        rcases Nat.lt_or_gt_of_ne hne with hlt | hlt
        · have : (i2 + 1) * z ≤ i * z := Nat.mul_le_mul_right _ hlt
          rw [Nat.add_mul] at this; omega
        · have : (i + 1) * z ≤ i2 * z := Nat.mul_le_mul_right _ hlt
          rw [Nat.add_mul] at this; omega
      by_cases hii : i2 = i
      · subst hii
        rw [List.getElem?_set, if_pos rfl, if_pos hi2l] at hi2
        injection hi2 with hi2; subst hi2
        have hrj := hr j c hj
        by_cases hin : off ≤ j ∧ j < off + l.length
        · rw [if_pos hin] at hrj
          rw [if_pos (by omega), show i2 * z + j - (i2 * z + off) = j - off by omega] at hu
          exact ⟨(rel_pur (hv2 _ _ _ hrj (by simpa using hu)) (List.all_eq_true.1 hp c (List.mem_of_getElem? hrj))).step hw, hv3 u (List.mem_of_getElem? hu)⟩
        · rw [if_neg hin] at hrj
          obtain ⟨r, hr1, hr2⟩ := hrj
          rw [if_neg (by omega)] at hu
          exact ⟨(hrel i2 r j c u hr1 hr2 hu).1.step hw, (hrel i2 r j c u hr1 hr2 hu).2⟩
      · rw [List.getElem?_set, if_neg (Ne.symm hii)] at hi2
        rw [if_neg (hne hii)] at hu
        exact ⟨(hrel i2 r2 j c u hi2 hj hu).1.step hw, (hrel i2 r2 j c u hi2 hj hu).2⟩

theorem slc_foc {S : Ex} {w0 : Base} {w : World} {μ : Nat → Option OI} {σ : VS} {a : Act} (h : StM S w0 μ σ a w) {k : Nat} {e : TypeId} {z : Nat} {rows : List (List AV)} (hk : look σ.o k = some (.slc e z rows))
    {i : Nat} {l : List AV} {v : Value} (hi : i < rows.length) (hl : l.length = z) (hv1 : v.cells.size = l.length) (hv2 : ∀ (j : Nat) (c : AV) (u : Value), l[j]? = some c → v.cells[j]? = some u → Rel μ (XOf S μ) w c u) (hv3 : ∀ u ∈ v.cells.toList, u.oneCell' = true) :
    ∃ o g arr T, μ k = some o ∧ o.g = some g ∧ o.z = z ∧ w.heap[g]? = some (.cells arr T (0, 0)) ∧ i * z + 0 + v.cells.size ≤ arr.size ∧
      StM S w0 μ ⟨σ.t, put1 k (.foc e z rows i l) σ.o⟩ a (w.setRow g (arr.toList.take (i * z + 0) ++ v.cells.toList ++ arr.toList.drop (i * z + 0 + v.cells.size)).toArray) := by
  obtain ⟨o, ho, hz, hn, hlen, hcap, hmax, hcase⟩ := h.blks k _ hk
  rcases hcase with ⟨_, hr0, _⟩ | ⟨g, arr, hg, hB, hh, hs, hrel⟩
  · rw [hr0] at hi; simp at hi
  · have hfit : i * z + 0 + v.cells.size ≤ arr.size := by
      rw [hs]
      have : (i + 1) * z ≤ o.cap * z := Nat.mul_le_mul_right _ (by omega)
      rw [Nat.add_mul] at this; omega
    have hfit' : i * z + 0 + v.cells.toList.length ≤ arr.size := by simpa using hfit
    refine ⟨o, g, arr, e, ho, hg, hz, hh, hfit, ?_⟩
    have hseg := fun j => seg_get (vs := v.cells.toList) hfit' j
    simp only [Array.length_toList] at hseg
    refine h.write k o g ho hg _ (setRow_size _ _ _) (fun b hb => setRow_other w g b _ hb) (h.below.setRow hB _) fun hw => ?_
    refine ⟨hz, hn, hlen, hcap, hmax, hi, hl, g, _, hg, hB, setRow_heap w g arr _ e _ hh, ?_, ?_, ?_⟩
    · simp; omega
    · intro i2 r2 j c u hne hi2 hj hu
      have hjz : j < z := by rw [← hlen i2 r2 hi2]; exact (List.getElem?_eq_some_iff.1 hj).1
      have hn : ¬ (i * z + 0 ≤ i2 * z + j ∧ i2 * z + j < i * z + 0 + v.cells.size) := by
        rintro ⟨g1, g2⟩
        rcases Nat.lt_or_gt_of_ne hne with hlt | hgt
        · have : (i2 + 1) * z ≤ i * z := Nat.mul_le_mul_right _ hlt
          rw [Nat.add_mul] at this; omega
        · have : (i + 1) * z ≤ i2 * z := Nat.mul_le_mul_right _ hgt
          rw [Nat.add_mul] at this; omega
      rw [hseg, if_neg hn] at hu
      exact ⟨(hrel i2 r2 j c u hi2 hj hu).1.step hw, (hrel i2 r2 j c u hi2 hj hu).2⟩
    · intro j c u hj hu
      have hjl : j < l.length := (List.getElem?_eq_some_iff.1 hj).1
      rw [hseg, if_pos (by omega)] at hu
      have e1 : i * z + j - (i * z + 0) = j := by omega
      rw [e1] at hu
      exact ⟨(hv2 j c u hj (by simpa using hu)).step hw fun _ _ => .inl rfl, hv3 u (List.mem_of_getElem? hu)⟩
theorem vStore_ok {P : Program} {o : Oper} {t : TypeId} {x y : Operand} {σ : VS} {env : Env} {π π' : List PI} {E : Eff} (ho : o.op = .store t x y) (he : EnvOK env σ) (h : vStore P t x y (evV σ.t) env π = some (E, π')) (hob : All E.ob) : OpS P o σ E := by
  unfold vStore at h
  split at h
  · rename_i k i off hx
    split at h
    · rename_i l hc
      split at h
      · rename_i hsz
        have hsz : szP P t = some l.length := by simpa using hsz
        split at h
        · rename_i cells hk
          split at h
          · split at h
            · rename_i hfit
              have hfit : off + l.length ≤ cells.length := Nat.le_of_ble_eq_true hfit
              injection h with h; injection h with h1 h2; subst h1
              intro S w0 μ ac w hst _ K Q hK
              obtain ⟨hv1, hv2, hv3⟩ := cellsE_ok hst he (hst.eval y) hc
              obtain ⟨oi, hoi, g, arr, T, hg, hB, hh, hs, hz, hrel⟩ := hst.blks k _ (he k _ hk)
              have ex := ptr_eval (by have := hst.eval x; rw [hx] at this; exact this) hoi hg
              rw [Nat.zero_mul, Nat.zero_add] at ex
              have hr := run_storeAt (t := t) (off := off) (v := ac.eval y) hh (by rw [hsz, hv1]) (by omega) hv3
              unfold Oper.wp
              simp only [execOp, ho, ex, Sem.run_bind, hr, Result.andThen_ok]
              refine hK _ _ ⟨μ, ?_⟩
              refine StM.put (σ := ⟨σ.t, put1 k (.var (splice cells off l)) σ.o⟩) ?_ o.dst (.any _)
              refine hst.write k oi g hoi hg _ (setRow_size _ _ _) (fun b hb => setRow_other w g b _ hb) (hst.below.setRow hB _) fun hw => ?_
              have hseg := fun j => seg_get (arr := arr) (off := off) (vs := (ac.eval y).cells.toList) (by simp; omega) j
              simp only [Array.length_toList] at hseg
              refine ⟨g, _, T, hg, hB, setRow_heap w g arr _ T _ hh, ?_, by rw [splice_len _ _ _ hfit]; exact hz, fun j c v hcj hvj => ?_⟩
              · rw [splice_len _ _ _ hfit]; simp; omega
              · rw [splice_get _ _ _ hfit] at hcj
                rw [hseg] at hvj
                by_cases hin : off ≤ j ∧ j < off + l.length
                · rw [if_pos hin] at hcj
                  rw [if_pos (by omega)] at hvj
                  exact (hv2 _ _ _ hcj (by simpa using hvj)).step hw fun _ _ => .inl rfl
                · rw [if_neg hin] at hcj
                  rw [if_neg (by omega)] at hvj
                  exact (hrel j c v hcj hvj).step hw fun _ _ => .inl rfl
            · cases h
          · cases h
        · rename_i e z rows hk
          split at h
          · rename_i hp
            split at h
            · rename_i r π2
              split at h
              · rename_i hfit
                have hfit : off + l.length ≤ r.length := Nat.le_of_ble_eq_true hfit
                injection h with h; injection h with h1 h2; subst h1
                intro S w0 μ ac w hst _ K Q hK
                obtain ⟨hri, _⟩ := hob
                obtain ⟨hv1, hv2, hv3⟩ := cellsE_ok hst he (hst.eval y) hc
                have hil : i < rows.length := (List.getElem?_eq_some_iff.1 hri).1
                have hrz : r.length = z := by
                  obtain ⟨_, _, _, _, hlen, _⟩ := hst.blks k _ (he k _ hk)
                  exact hlen i r hri
                obtain ⟨oi, g, arr, T, hoi, hg, hz, hh, hfit2, hnew⟩ := slc_write (l := l) (off := off) (r' := splice r off l) hst (he k _ hk) hil (by omega) hv1 hv2 hv3 hp (by rw [splice_len _ _ _ hfit, hrz]) (fun j c hj => by
                  rw [splice_get _ _ _ hfit] at hj
                  split
                  · rename_i hin; rw [if_pos hin] at hj; exact hj
                  · rename_i hin; rw [if_neg hin] at hj; exact ⟨r, hri, hj⟩)
                have ex := ptr_eval (by have := hst.eval x; rw [hx] at this; exact this) hoi hg
                rw [hz] at ex
                have hr := run_storeAt (t := t) (off := i * z + off) (v := ac.eval y) hh (by rw [hsz, hv1]) hfit2 hv3
                unfold Oper.wp
                simp only [execOp, ho, ex, Sem.run_bind, hr, Result.andThen_ok]
                refine hK _ _ ⟨μ, ?_⟩
                exact StM.put hnew o.dst (.any _)
              · cases h
            · rename_i n π2
              split at h
              · rename_i hfit
                injection h with h; injection h with h1 h2; subst h1
                simp only [Bool.and_eq_true, beq_iff_eq] at hfit
                obtain ⟨rfl, hlz⟩ := hfit
                intro S w0 μ ac w hst _ K Q hK
                obtain ⟨hil, _⟩ := hob
                obtain ⟨hv1, hv2, hv3⟩ := cellsE_ok hst he (hst.eval y) hc
                obtain ⟨oi, g, arr, T, hoi, hg, hz, hh, hfit2, hnew⟩ := slc_write (l := l) (off := 0) (r' := l) hst (he k _ hk) hil (by omega) hv1 hv2 hv3 hp hlz (fun j c hj => by
                  have := (List.getElem?_eq_some_iff.1 hj).1
                  rw [if_pos (by omega)]; exact hj)
                have ex := ptr_eval (by have := hst.eval x; rw [hx] at this; exact this) hoi hg
                rw [hz] at ex
                have hr := run_storeAt (t := t) (off := i * z + 0) (v := ac.eval y) hh (by rw [hsz, hv1]) hfit2 hv3
                unfold Oper.wp
                simp only [execOp, ho, ex, Sem.run_bind, hr, Result.andThen_ok]
                refine hK _ _ ⟨μ, ?_⟩
                exact StM.put hnew o.dst (.any _)
              · cases h
            · cases h
          · split at h
            · split at h
              · rename_i hfit
                injection h with h; injection h with h1 h2; subst h1
                simp only [Bool.and_eq_true, beq_iff_eq] at hfit
                obtain ⟨rfl, hlz⟩ := hfit
                intro S w0 μ ac w hst _ K Q hK
                obtain ⟨hil, _⟩ := hob
                obtain ⟨hv1, hv2, hv3⟩ := cellsE_ok hst he (hst.eval y) hc
                obtain ⟨oi, g, arr, T, hoi, hg, hz, hh, hfit2, hnew⟩ := slc_foc (l := l) hst (he k _ hk) hil hlz hv1 hv2 hv3
                have ex := ptr_eval (by have := hst.eval x; rw [hx] at this; exact this) hoi hg
                rw [hz] at ex
                have hr := run_storeAt (t := t) (off := i * z + 0) (v := ac.eval y) hh (by rw [hsz, hv1]) hfit2 hv3
                unfold Oper.wp
                simp only [execOp, ho, ex, Sem.run_bind, hr, Result.andThen_ok]
                refine hK _ _ ⟨μ, ?_⟩
                exact StM.put hnew o.dst (.any _)
              · cases h
            · cases h
        · cases h
      · cases h
    · cases h
  · cases h
end Go.Proofs.YtdmkhinckljddaaGreat
namespace Go.Proofs.YtdmkhinckljddaaGreat
open Go.RowKit

theorem rel_ptr {S : Ex} {w0 : Base} {w : World} {μ : Nat → Option OI} {σ : VS} {a : Act} {env : Env} (h : StM S w0 μ σ a w) (he : EnvOK env σ) {k i off : Nat} {u : Value} (hr : Rel μ (XOf S μ) w (.ptr k i off) u) (hl : (env k).isSome = true) :
    ∃ o g, μ k = some o ∧ o.g = some g ∧ u = .pointer (some ⟨g, i * o.z + off, none⟩) := by
  obtain ⟨b, hb⟩ := Option.isSome_iff_exists.1 hl
  obtain ⟨o, ho, _⟩ := h.blks k b (he k b hb)
  cases hr with
  | pure hp => cases hp
  | ptr h1 h2 => exact ⟨_, _, h1, h2, rfl⟩
  | deadP _ hn => rw [ho] at hn; cases hn

/-- The field's place and size. -/
def fieldOf (P : Program) (s : TypeId) (f : Nat) : Option (Nat × TypeId × Nat) := match P.underlying s with
  | some (.struct fields) => match fields.toList[f]? with
    | some fd => match szP P fd.type with
      | some n => some (fd.offset, fd.type, n)
      | none => none
    | none => none
  | _ => none
theorem fieldOf_ok {P : Program} {s : TypeId} {f off n : Nat} {t : TypeId} (h : fieldOf P s f = some (off, t, n)) : ∃ fields fd, P.underlying s = some (.struct fields) ∧ fields[f]? = some fd ∧ fd.offset = off ∧ fd.type = t ∧ szP P t = some n := by
  unfold fieldOf at h
  split at h
  · rename_i fields hu
    split at h
    · rename_i fd hf
      split at h
      · rename_i m hm
        injection h with h; injection h with h1 h; injection h with h2 h3; subst h1 h2 h3
        exact ⟨fields, fd, hu, by simpa using hf, rfl, rfl, hm⟩
      · cases h
    · cases h
  · cases h

def vFieldAddr (P : Program) (s : TypeId) (x : Operand) (f : Nat) (ρ : Operand → AV) (env : Env) (π : List PI) : Option (Eff × List PI) :=
  match fieldOf P s f with
  | some (off, _, _ + 1) => match ρ x with
    | .ptr k i o => if (env k).isSome then some ({ v := .ptr k i (o + off) }, π) else none
    | .ia row => some ({ v := .ia (row.drop off) }, π)
    | _ => none
  | _ => none
theorem add_zero_none (b o n : Nat) : (⟨b, o, none⟩ : Addr).add n = ⟨b, o + n, none⟩ := Addr.add_mid b o n
theorem vFieldAddr_ok {P : Program} {o : Oper} {s : TypeId} {x : Operand} {f : Nat} {σ : VS} {env : Env} {π π' : List PI} {E : Eff} (ho : o.op = .fieldAddr s x f) (he : EnvOK env σ) (h : vFieldAddr P s x f (evV σ.t) env π = some (E, π')) : OpS P o σ E := by
  unfold vFieldAddr at h
  split at h
  · rename_i off t n hf
    obtain ⟨fields, fd, hu, hfd, rfl, rfl, hsz⟩ := fieldOf_ok hf
    have hrun : ∀ b q (w : World), (Instr.fieldAt s (.pointer (some ⟨b, q, none⟩)) f).run P w = .ok (.pointer (some ⟨b, q + fd.offset, none⟩)) w := by
      intro b q w
      simp only [Instr.fieldAt, Sem.run_bind, run_underlying hu, Result.andThen_ok, hfd, Instr.sureAddr, Sem.run_pure, fieldPlace, run_sizeOf hsz, Nat.succ_ne_zero, if_false, add_zero_none]
    split at h
    · rename_i k i q hx
      split at h
      · rename_i hl
        injection h with h; injection h with h1 h2; subst h1
        refine opS_val fun S w0 μ ac w hst => ?_
        obtain ⟨oi, g, hk, hg, hu'⟩ := rel_ptr hst he (by have := hst.eval x; rw [hx] at this; exact this) hl
        refine ⟨_, ?_, Rel.ptr hk hg⟩
        simp only [execOp, ho, hu', Sem.run_bind, hrun, Result.andThen_ok, Sem.run_pure, Nat.add_assoc]
      · cases h
    · rename_i row hx
      injection h with h; injection h with h1 h2; subst h1
      refine opS_val fun S w0 μ ac w hst => ?_
      have ex := hst.eval x; rw [hx] at ex
      generalize hu' : ac.eval x = u at ex
      cases ex with
      | pure hp => cases hp
      | @ia _ b q cv hX hb h1 h2 =>
        refine ⟨.pointer (some ⟨b, q + fd.offset, none⟩), ?_, .ia (fun j => cv (fd.offset + j)) hX hb (fun j c hj => ?_) (fun j c hj => ?_)⟩
        · simp only [execOp, ho, hu', Sem.run_bind, hrun, Result.andThen_ok, Sem.run_pure]
        · rw [Nat.add_assoc]; exact h1 _ _ (by rw [List.getElem?_drop] at hj; exact hj)
        · exact h2 _ _ (by rw [List.getElem?_drop] at hj; exact hj)
    · cases h
  · cases h

def elemOfSl (P : Program) (t : TypeId) : Option (TypeId × Nat) := match P.underlying t with
  | some (.slice e) => match szP P e with
    | some n => some (e, n)
    | none => none
  | _ => none
theorem elemOfSl_ok {P : Program} {t e : TypeId} {n : Nat} (h : elemOfSl P t = some (e, n)) : P.underlying t = some (.slice e) ∧ szP P e = some n := by
  unfold elemOfSl at h
  split at h
  · rename_i e' hu
    split at h
    · rename_i m hm
      injection h with h; injection h with h1 h2; subst h1 h2; exact ⟨hu, hm⟩
    · cases h
  · cases h
def elemOfArr (P : Program) (t : TypeId) : Option (Nat × TypeId × Nat) := match P.underlying t with
  | some (.array len e) => match szP P e with
    | some n => some (len, e, n)
    | none => none
  | _ => none
theorem elemOfArr_ok {P : Program} {t e : TypeId} {len n : Nat} (h : elemOfArr P t = some (len, e, n)) : P.underlying t = some (.array len e) ∧ szP P e = some n := by
  unfold elemOfArr at h
  split at h
  · rename_i l' e' hu
    split at h
    · rename_i m hm
      injection h with h; injection h with h1 h; injection h with h2 h3; subst h1 h2 h3; exact ⟨hu, hm⟩
    · cases h
  · cases h

def vIndexAddr (P : Program) (t : TypeId) (x ix : Operand) (ρ : Operand → AV) (env : Env) (π : List PI) : Option (Eff × List PI) :=
  match ρ ix with
  | .lit (.int _ n) => match ρ x with
    | .sl z rows => match π with
      | .row r :: π' => match elemOfSl P t with
        | some (_, m) => if m == z then some ({ ob := [0 ≤ n, rows[n.toNat]? = some r], v := .ia r }, π') else none
        | none => none
      | _ => none
    | .own k => match env k with
      | some (.slc _ z rows) => match elemOfSl P t with
        | some (_, m) => if m == z then some ({ ob := [0 ≤ n, n < rows.length], v := .ptr k n.toNat 0 }, π) else none
        | none => none
      | some (.foc _ z rows _ _) => match elemOfSl P t with
        | some (_, m) => if m == z then some ({ ob := [0 ≤ n, n < rows.length], v := .ptr k n.toNat 0 }, π) else none
        | none => none
      | _ => none
    | .ptr k i off => match env k with
      | some (.slc _ z _) => match elemOfArr P t, i, off with
        | some (len, _, m), 0, 0 => if m == z && Nat.blt 1 len then some ({ ob := [0 ≤ n, n < len], v := .ptr k n.toNat 0 }, π) else none
        | _, _, _ => none
      | _ => none
    | _ => none
  | _ => none
theorem vIndexAddr_ok {P : Program} {o : Oper} {t : TypeId} {x ix : Operand} {σ : VS} {env : Env} {π π' : List PI} {E : Eff} (ho : o.op = .indexAddr t x ix) (he : EnvOK env σ) (h : vIndexAddr P t x ix (evV σ.t) env π = some (E, π')) (hob : All E.ob) : OpS P o σ E := by
  unfold vIndexAddr at h
  split at h
  · rename_i kk n hix
    split at h
    · rename_i z rows hx
      split at h
      · rename_i r π2
        split at h
        · rename_i e m hel
          split at h
          · rename_i hmz
            have hmz : m = z := by simpa using hmz
            subst hmz
            injection h with h; injection h with h1 h2; subst h1
            obtain ⟨h0, hr, _⟩ := hob
            obtain ⟨hu, hsz⟩ := elemOfSl_ok hel
            refine opS_val fun S w0 μ ac w hst => ?_
            have ei := hst.eval ix; rw [hix] at ei; have ei := rel_lit ei
            have ex := hst.eval x; rw [hx] at ex
            generalize hu' : ac.eval x = u at ex
            cases ex with
            | pure hp => cases hp with
              | nil => simp at hr
              | @sl _ _ b off cap cv hX hb hc hm hz h1 h2 h3 =>
                have hlt : n.toNat < rows.length := (List.getElem?_eq_some_iff.1 hr).1
                refine ⟨.pointer (some ⟨b, off + n.toNat * m, none⟩), ?_, .ia (cv n.toNat) (hX (ne_of_get hr)) (hb (ne_of_get hr)) (fun j c hj => h1 _ _ _ _ hr hj) (fun j c hj => h2 _ _ _ _ hr hj)⟩
                have hin : 0 ≤ n ∧ n < (rows.length : Int) := ⟨h0, by omega⟩
                simp only [execOp, ho, hu', ei, Instr.indexAt, asIntOf, Sem.run_bind, Sem.run_pure, Result.andThen_ok, run_underlying hu, run_sizeOf hsz, if_pos hin, add_zero_none]
          · cases h
        · cases h
      · cases h
    · rename_i k hx
      split at h
      · rename_i e' z rows hk
        split at h
        · rename_i e m hel
          split at h
          · rename_i hmz
            have hmz : m = z := by simpa using hmz
            subst hmz
            injection h with h; injection h with h1 h2; subst h1
            obtain ⟨h0, hr, _⟩ := hob
            obtain ⟨hu, hsz⟩ := elemOfSl_ok hel
            refine opS_val fun S w0 μ ac w hst => ?_
            have ei := hst.eval ix; rw [hix] at ei; have ei := rel_lit ei
            have ex := hst.eval x; rw [hx] at ex
            obtain ⟨oi, hoi, hz, hn, hlen, hcap, hmax, hcase⟩ := hst.blks k _ (he k _ hk)
            rcases hcase with ⟨_, hr0, _⟩ | ⟨g, arr, hg, hB, hh, hs, hrel⟩
            · subst hr0; simp at hr; omega
            · generalize hu' : ac.eval x = u at ex
              cases ex with
              | pure hp => cases hp
              | deadO _ hn => rw [hoi] at hn; cases hn
              | own h1 =>
                rw [hoi] at h1; injection h1 with h1; subst h1
                refine ⟨.pointer (some ⟨g, n.toNat * oi.z + 0, none⟩), ?_, .ptr hoi hg⟩
                have hin : 0 ≤ n ∧ n < (oi.n : Int) := ⟨h0, by omega⟩
                simp only [execOp, ho, hu', ei, hg, Option.map_some, Instr.indexAt, asIntOf, Sem.run_bind, Sem.run_pure, Result.andThen_ok, run_underlying hu, run_sizeOf hsz, if_pos hin, add_zero_none]
                rw [hz]; simp
          · cases h
        · cases h
      · rename_i e' z rows i0 r0 hk
        split at h
        · rename_i e m hel
          split at h
          · rename_i hmz
            have hmz : m = z := by simpa using hmz
            subst hmz
            injection h with h; injection h with h1 h2; subst h1
            obtain ⟨h0, hr, _⟩ := hob
            obtain ⟨hu, hsz⟩ := elemOfSl_ok hel
            refine opS_val fun S w0 μ ac w hst => ?_
            have ei := hst.eval ix; rw [hix] at ei; have ei := rel_lit ei
            have ex := hst.eval x; rw [hx] at ex
            obtain ⟨oi, hoi, hz, hn, hlen, hcap, hmax, hi0, hr0, g, arr, hg, hB, hh, hs, hrel⟩ := hst.blks k _ (he k _ hk)
            generalize hu' : ac.eval x = u at ex
            cases ex with
            | pure hp => cases hp
            | deadO _ hn => rw [hoi] at hn; cases hn
            | own h1 =>
              rw [hoi] at h1; injection h1 with h1; subst h1
              refine ⟨.pointer (some ⟨g, n.toNat * oi.z + 0, none⟩), ?_, .ptr hoi hg⟩
              have hin : 0 ≤ n ∧ n < (oi.n : Int) := ⟨h0, by omega⟩
              simp only [execOp, ho, hu', ei, hg, Option.map_some, Instr.indexAt, asIntOf, Sem.run_bind, Sem.run_pure, Result.andThen_ok, run_underlying hu, run_sizeOf hsz, if_pos hin, add_zero_none]
              rw [hz]; simp
          · cases h
        · cases h
      · cases h
    · rename_i k i off hx
      split at h
      · rename_i e' z rows hk
        split at h
        · rename_i len e m hel
          split at h
          · rename_i hmz
            simp only [Bool.and_eq_true, beq_iff_eq] at hmz
            obtain ⟨rfl, hl1⟩ := hmz
            have hl1 : 1 < len := by have := Nat.le_of_ble_eq_true hl1; omega
            injection h with h; injection h with h1 h2; subst h1
            obtain ⟨h0, hr, _⟩ := hob
            obtain ⟨hu, hsz⟩ := elemOfArr_ok hel
            refine opS_val fun S w0 μ ac w hst => ?_
            have ei := hst.eval ix; rw [hix] at ei; have ei := rel_lit ei
            obtain ⟨oi, g, hoi, hg, hu'⟩ := rel_ptr hst he (by have := hst.eval x; rw [hx] at this; exact this) (by rw [hk]; rfl)
            obtain ⟨oi', hoi', hz, _⟩ := hst.blks k _ (he k _ hk)
            rw [hoi] at hoi'; injection hoi' with hoi'; subst hoi'
            refine ⟨.pointer (some ⟨g, n.toNat * oi.z + 0, none⟩), ?_, .ptr hoi hg⟩
            have hin : 0 ≤ n ∧ n < (len : Int) := ⟨h0, hr⟩
            have htiny : ¬ len ≤ 1 := by omega
            simp only [execOp, ho, hu', ei, Instr.indexAt, asIntOf, Sem.run_bind, Sem.run_pure, Result.andThen_ok, run_underlying hu, run_sizeOf hsz, Instr.sureAddr, if_pos hin, add_zero_none]
            rw [hz]; simp
          · cases h
        · cases h
      · cases h
    · cases h
  · cases h

def vField (P : Program) (s : TypeId) (x : Operand) (f : Nat) (ρ : Operand → AV) (π : List PI) : Option (Eff × List PI) :=
  match fieldOf P s f with
  | some (off, t, _) => match ρ x with
    | .agg l => match rdCells P t l off with
      | some c => some ({ v := c }, π)
      | none => none
    | _ => none
  | none => none
theorem vField_ok {P : Program} {o : Oper} {s : TypeId} {x : Operand} {f : Nat} {σ : VS} {π π' : List PI} {E : Eff} (ho : o.op = .field s x f) (h : vField P s x f (evV σ.t) π = some (E, π')) : OpS P o σ E := by
  unfold vField at h
  split at h
  · rename_i off t n hf
    obtain ⟨fields, fd, hu, hfd, rfl, rfl, hsz⟩ := fieldOf_ok hf
    split at h
    · rename_i l hx
      split at h
      · rename_i c hrd
        injection h with h; injection h with h1 h2; subst h1
        refine opS_val fun S w0 μ ac w hst => ?_
        have ex := hst.eval x; rw [hx] at ex
        generalize hu' : ac.eval x = u at ex
        cases ex with
        | pure hp => cases hp
        | @agg _ vs hl hh =>
          have hpart : ∃ v, (part fd.type vs.toArray fd.offset).run P w = .ok v w ∧ Rel μ (XOf S μ) w c v := by
            unfold rdCells at hrd
            split at hrd
            · rename_i ha
              rw [hsz] at hrd
              dsimp only at hrd
              split at hrd
              · rename_i hlen
                injection hrd with hrd; subst hrd
                have hlen' : ((l.drop fd.offset).take n).length = n := by simpa using hlen
                refine ⟨.agg ((vs.drop fd.offset).take n).toArray, ?_, .agg (by simp at hlen' ⊢; omega) fun i c v hc hv => ?_⟩
                · simp only [part, Sem.run_bind, run_isAgg ha, Result.andThen_ok, if_true, run_sizeOf hsz, Sem.run_pure]
                  simp
                · rw [List.getElem?_take] at hc hv
                  split at hc
                  · rw [if_pos ‹_›] at hv
                    rw [List.getElem?_drop] at hc hv
                    exact hh _ _ _ hc hv
                  · cases hc
              · cases hrd
            · rename_i ha
              have hj : fd.offset < vs.length := by rw [hl]; exact (List.getElem?_eq_some_iff.1 hrd).1
              refine ⟨vs[fd.offset], ?_, hh _ _ _ hrd (List.getElem?_eq_getElem hj)⟩
              simp only [part, Sem.run_bind, run_isAgg ha, Result.andThen_ok, Bool.false_eq_true, if_false]
              simp [hj]
            · cases hrd
          obtain ⟨v, hv, hrel⟩ := hpart
          refine ⟨v, ?_, hrel⟩
          simp only [execOp, ho, hu', Instr.field, Sem.run_bind, run_underlying hu, Result.andThen_ok, hfd, asAgg, Sem.run_pure, hv]
      · cases h
    · cases h
  · cases h

def vExtract (x : Operand) (i : Nat) (ρ : Operand → AV) (π : List PI) : Option (Eff × List PI) :=
  match ρ x with
  | .tup l => match l[i]? with
    | some c => some ({ v := c }, π)
    | none => none
  | _ => none
theorem vExtract_ok {P : Program} {o : Oper} {x : Operand} {i : Nat} {σ : VS} {π π' : List PI} {E : Eff} (ho : o.op = .extract x i) (h : vExtract x i (evV σ.t) π = some (E, π')) : OpS P o σ E := by
  unfold vExtract at h
  split at h
  · rename_i l hx
    split at h
    · rename_i c hc
      injection h with h; injection h with h1 h2; subst h1
      refine opS_val fun S w0 μ ac w hst => ?_
      have ex := hst.eval x; rw [hx] at ex
      generalize hu' : ac.eval x = u at ex
      cases ex with
      | pure hp => cases hp
      | @tup _ vs hl hh =>
        have hj : i < vs.length := by rw [hl]; exact (List.getElem?_eq_some_iff.1 hc).1
        refine ⟨vs[i], ?_, hh _ _ _ hc (List.getElem?_eq_getElem hj)⟩
        simp [execOp, ho, hu', Instr.extract, hj]
    · cases h
  · cases h

/-- Moves, and checks against nil of what is none. -/
def vMove (x : Operand) (ρ : Operand → AV) (π : List PI) : Option (Eff × List PI) := match π with
  | .code _ σ' :: π' => match σ'.t with
    | [c] => some ({ ob := [Weak (ρ x) c], v := c }, π')
    | _ => none
  | π => some ({ v := ρ x }, π)
theorem vMove_ok {P : Program} {o : Oper} {x : Operand} {σ : VS} {π π' : List PI} {E : Eff} (ho : o.op = .move x ∨ o.op = .assign x) (h : vMove x (evV σ.t) π = some (E, π')) (hob : All E.ob) : OpS P o σ E := by
  unfold vMove at h
  split at h
  · split at h
    · injection h with h; injection h with h1 h2; subst h1
      refine opS_val fun S w0 μ ac w hst => ⟨ac.eval x, ?_, hob.1 _ _ _ _ (hst.eval x)⟩
      rcases ho with ho | ho <;> simp [execOp, ho]
    · cases h
  · injection h with h; injection h with h1 h2; subst h1
    refine opS_val fun S w0 μ ac w hst => ⟨ac.eval x, ?_, hst.eval x⟩
    rcases ho with ho | ho <;> simp [execOp, ho]
/-- The type's method of this name is not reached through a nil pointer. -/
def NilNo (P : Program) (t : TypeId) (name : String) : Prop := ∀ (v : Value) (w : World), (nilAhead (P.types.size + Made.depth) t v name).run P w = .ok (some false) w
def vNil (P : Program) (x : Operand) (ρ : Operand → AV) (env : Env) (π : List PI) : Option (Eff × List PI) := match ρ x with
  | .ptr k i o => if (env k).isSome then some ({ v := .ptr k i o }, π) else none
  | .ia row => some ({ v := .ia row }, π)
  | .clo f l => some ({ v := .clo f l }, π)
  | .mth n (.ifc t a) => some ({ ob := [NilNo P t n], v := .mth n (.ifc t a) }, π)
  | _ => none
theorem vNil_ok {P : Program} {o : Oper} {x : Operand} {σ : VS} {env : Env} {π π' : List PI} {E : Eff} (ho : o.op = .nilCheck x) (he : EnvOK env σ) (h : vNil P x (evV σ.t) env π = some (E, π')) (hob : All E.ob) : OpS P o σ E := by
  unfold vNil at h
  split at h
  · rename_i k i q hx
    split at h
    · rename_i hl
      injection h with h; injection h with h1 h2; subst h1
      refine opS_val fun S w0 μ ac w hst => ?_
      have ex := hst.eval x; rw [hx] at ex
      obtain ⟨oi, g, hk, hg, hu'⟩ := rel_ptr hst he ex hl
      rw [hu'] at ex
      exact ⟨_, by simp [execOp, ho, hu'], ex⟩
    · cases h
  · rename_i row hx
    injection h with h; injection h with h1 h2; subst h1
    refine opS_val fun S w0 μ ac w hst => ?_
    have ex := hst.eval x; rw [hx] at ex
    refine ⟨_, ?_, ex⟩
    generalize hu' : ac.eval x = u at ex
    cases ex with
    | pure hp => cases hp
    | ia => simp [execOp, ho, hu']
  · rename_i f l hx
    injection h with h; injection h with h1 h2; subst h1
    refine opS_val fun S w0 μ ac w hst => ?_
    have ex := hst.eval x; rw [hx] at ex
    refine ⟨_, ?_, ex⟩
    generalize hu' : ac.eval x = u at ex
    cases ex with
    | pure hp => cases hp
    | clo => simp [execOp, ho, hu']
  · rename_i n t b hx
    injection h with h; injection h with h1 h2; subst h1
    refine opS_val fun S w0 μ ac w hst => ?_
    have ex := hst.eval x; rw [hx] at ex
    refine ⟨_, ?_, ex⟩
    have hn := hob.1
    generalize hu' : ac.eval x = u at ex
    cases ex with
    | pure hp => cases hp
    | mth hb =>
      cases hb with
      | pure hp => cases hp
      | @ifc _ _ z hz =>
        have := hn z w
        simp [execOp, ho, hu', Sem.run_bind, program, Sem.run, this, Result.andThen]
  · cases h
/-- A place of the call's own beside nil. -/
def isNilP : AV → Bool
  | .lit (.pointer none) => true
  | _ => false
theorem isNilP_eq {c : AV} (h : isNilP c = true) : c = .lit (.pointer none) := by
  unfold isNilP at h; split at h
  · rfl
  · cases h
def vPtrNil (P : Program) (op : BinOp) (t : TypeId) (k : Nat) (y : AV) (env : Env) (π : List PI) : Option (Eff × List PI) := match P.underlying t with
  | some (.pointer _) => match (env k).isSome && isNilP y with
    | true => match op with
      | .eql => some ({ v := .lit (.bool false) }, π)
      | .neq => some ({ v := .lit (.bool true) }, π)
      | _ => none
    | false => none
  | _ => none
theorem ptrNilV {P : Program} (w : World) (t e : TypeId) (ad : Addr) (h : P.underlying t = some (.pointer e)) :
    (binOp .eql t (.pointer (some ad)) (.pointer none)).run P w = .ok (.bool false) w ∧ (binOp .neq t (.pointer (some ad)) (.pointer none)).run P w = .ok (.bool true) w := by
  have he : (Op.equal t (.pointer (some ad)) (.pointer none)).run P w = .ok false w := by
    have key : ∀ d, (Op.equalIn (d + 1) t (.pointer (some ad)) (.pointer none)).run P w = .ok false w := by
      intro d; simp [Op.equalIn, run_underlying h]
    exact key 9999
  constructor
  · simp only [binOp]; simp [he]
  · simp only [binOp]; simp [he]
theorem vPtrNil_ok {P : Program} {o : Oper} {op : BinOp} {t u : TypeId} {x y : Operand} {σ : VS} {env : Env} {π π' : List PI} {E : Eff} {k i off : Nat} (ho : o.op = .binOp op t x y u) (he : EnvOK env σ) (hx : evV σ.t x = .ptr k i off) (h : vPtrNil P op t k (evV σ.t y) env π = some (E, π')) : OpS P o σ E := by
  unfold vPtrNil at h
  split at h
  · rename_i e hu
    split at h
    · rename_i hb
      simp only [Bool.and_eq_true] at hb
      obtain ⟨hl, hy⟩ := hb
      have key : ∀ S w0 μ ac w, StM S w0 μ σ ac w → ∃ ad, ac.eval x = .pointer (some ad) ∧ ac.eval y = .pointer none := by
        intro S w0 μ ac w hst
        have ex := hst.eval x; rw [hx] at ex
        have ey := hst.eval y; rw [isNilP_eq hy] at ey
        obtain ⟨oi, g, hk, hg, hu'⟩ := rel_ptr hst he ex hl
        exact ⟨_, hu', rel_lit ey⟩
      split at h
      · injection h with h; injection h with h1 h2; subst h1
        refine opS_val fun S w0 μ ac w hst => ⟨.bool false, ?_, .pure (.lit _)⟩
        obtain ⟨ad, e1, e2⟩ := key S w0 μ ac w hst
        simp only [execOp, ho, e1, e2]
        rw [Sem.run_bind]
        have hg : (eqGuard .eql t x y (.pointer (some ad)) (.pointer none)).run P w = .ok () w := rfl
        rw [Sem.run_bind, hg, Result.andThen_ok, (ptrNilV w t e ad hu).1]; rfl
      · injection h with h; injection h with h1 h2; subst h1
        refine opS_val fun S w0 μ ac w hst => ⟨.bool true, ?_, .pure (.lit _)⟩
        obtain ⟨ad, e1, e2⟩ := key S w0 μ ac w hst
        simp only [execOp, ho, e1, e2]
        rw [Sem.run_bind]
        have hg : (eqGuard .neq t x y (.pointer (some ad)) (.pointer none)).run P w = .ok () w := rfl
        rw [Sem.run_bind, hg, Result.andThen_ok, (ptrNilV w t e ad hu).2]; rfl
      · cases h
    · cases h
  · cases h
def vPick (c x y : Operand) (ρ : Operand → AV) (π : List PI) : Option (Eff × List PI) := match ρ c with
  | .lit (.bool b) => match π with
    | .br p :: π' => some ({ ob := [b = p], v := if p then ρ x else ρ y }, π')
    | _ => none
  | _ => none
theorem vPick_ok {P : Program} {o : Oper} {c x y : Operand} {σ : VS} {π π' : List PI} {E : Eff} (ho : o.op = .pick c x y) (h : vPick c x y (evV σ.t) π = some (E, π')) (hob : All E.ob) : OpS P o σ E := by
  unfold vPick at h
  split at h
  · rename_i b hc
    split at h
    · rename_i p π2
      injection h with h; injection h with h1 h2; subst h1
      obtain ⟨hb, _⟩ := hob
      refine opS_val fun S w0 μ ac w hst => ?_
      have ec := hst.eval c; rw [hc] at ec; have ec := rel_lit ec
      refine ⟨if p then ac.eval x else ac.eval y, by simp [execOp, ho, ec, asBool, hb], ?_⟩
      cases p
      · exact hst.eval y
      · exact hst.eval x
    · cases h
  · cases h

def vUn (P : Program) (o : Oper) (op : UnOp) (x : Operand) (ρ : Operand → AV) (π : List PI) : Option (Eff × List PI) := match op with
  | .neg => match ρ x with
    | .lit (.int k n) => vNum k [] (k.wrap (0 - n)) π
    | _ => none
  | _ => vPure P o ρ π
theorem vUn_ok {P : Program} {o : Oper} {op : UnOp} {t : TypeId} {x : Operand} {σ : VS} {π π' : List PI} {E : Eff} (ho : o.op = .unOp op t x) (h : vUn P o op x (evV σ.t) π = some (E, π')) (hob : All E.ob) : OpS P o σ E := by
  unfold vUn at h
  split at h
  · split at h
    · rename_i k n hx
      refine vNum_ok h hob fun _ S w0 μ ac w hst => ?_
      have ex := hst.eval x; rw [hx] at ex; have ex := rel_lit ex
      simp [execOp, ho, ex, Op.unary, Op.intArith]
    · cases h
  · exact vPure_ok h
def vConv (P : Program) (o : Oper) (s d : TypeId) (x : Operand) (ρ : Operand → AV) (π : List PI) : Option (Eff × List PI) := match ρ x with
  | .lit (.int _ n) => match P.underlying s, P.underlying d with
    | some _, some (.int k) => vNum k [] (k.wrap n) π
    | _, _ => none
  | _ => vTold P o ρ π
theorem vConv_ok {P : Program} {o : Oper} {s d : TypeId} {x : Operand} {σ : VS} {π π' : List PI} {E : Eff} (ho : o.op = .convert s d x) (h : vConv P o s d x (evV σ.t) π = some (E, π')) (hob : All E.ob) : OpS P o σ E := by
  unfold vConv at h
  split at h
  · rename_i kk n hx
    split at h
    · rename_i ds k hs hd
      refine vNum_ok h hob fun _ S w0 μ ac w hst => ?_
      have ex := hst.eval x; rw [hx] at ex; have ex := rel_lit ex
      simp only [execOp, ho, ex, convert, Sem.run_bind, run_underlying hs, run_underlying hd, Result.andThen_ok, Conv.intToInt, Sem.run_pure]
    · cases h
  · exact vTold_ok h hob
end Go.Proofs.YtdmkhinckljddaaGreat
namespace Go.Proofs.YtdmkhinckljddaaGreat
open Go.RowKit

/-- Cells and what they are. -/
def RelC (μ : Nat → Option OI) (X : Ex) (w : World) (l : List AV) (arr : Array Value) : Prop := arr.size = l.length ∧ ∀ (j : Nat) (c : AV) (v : Value), l[j]? = some c → arr[j]? = some v → Rel μ X w c v

theorem foldl_put (off : Nat) : ∀ (vs : List Value) (s : Nat) (arr : Array Value), off + s + vs.length ≤ arr.size →
    ((vs.zipIdx s).foldl (fun cs p => cs.setIfInBounds (off + p.2) p.1) arr).size = arr.size ∧ ∀ j, ((vs.zipIdx s).foldl (fun cs p => cs.setIfInBounds (off + p.2) p.1) arr)[j]? = if off + s ≤ j ∧ j < off + s + vs.length then vs[j - (off + s)]? else arr[j]?
  | [], s, arr, _ => ⟨rfl, fun j => by rw [if_neg (by rintro ⟨h1, h2⟩; simp at h2; omega)]; rfl⟩
  | v :: vs, s, arr, h => by
    simp only [List.length_cons] at h
    obtain ⟨h1, h2⟩ := foldl_put off vs (s + 1) (arr.setIfInBounds (off + s) v) (by simp; omega)
    rw [List.zipIdx_cons, List.foldl_cons]
    refine ⟨by rw [h1]; simp, fun j => ?_⟩
    rw [h2]
    by_cases e : j = off + s
    · subst e
      have hlt : off + s < arr.size := by omega
      rw [if_neg (by omega), if_pos ⟨Nat.le_refl _, by simp⟩]
      simp [hlt]
    · by_cases hin : off + (s + 1) ≤ j ∧ j < off + (s + 1) + vs.length
      · rw [if_pos hin, if_pos ⟨by omega, by simp; omega⟩]
        rw [show j - (off + s) = (j - (off + (s + 1))) + 1 by omega, List.getElem?_cons_succ]
      · rw [if_neg hin, if_neg (by simp; omega), Array.getElem?_setIfInBounds, if_neg (by omega)]

def fillV (place : Nat → Option (Nat × Nat)) : List AV → List (Nat × List AV) → Option (List AV)
  | cells, [] => some cells
  | cells, (i, l) :: rest => match place i with
    | some (off, size) => if l.length == size && Nat.ble (off + l.length) cells.length then fillV place (splice cells off l) rest else none
    | none => none
theorem fillV_ok {μ : Nat → Option OI} {X : Ex} {w : World} {place : Nat → Option (Nat × Nat)} : ∀ {parts : List (Nat × List AV)} {vparts : List (Nat × Value)} {cells out : List AV} {arr : Array Value},
    fillV place cells parts = some out → vparts.map (·.1) = parts.map (·.1) → (∀ (j : Nat) (p : Nat × List AV) (q : Nat × Value), parts[j]? = some p → vparts[j]? = some q → RelC μ X w p.2 q.2.cells) → RelC μ X w cells arr →
    ∃ arr', Instr.fill place arr vparts = some arr' ∧ RelC μ X w out arr'
  | [], vparts, cells, out, arr, h, hl, _, hr => by
    simp only [fillV] at h; injection h with h; subst h
    have : vparts = [] := by simpa using hl
    subst this
    exact ⟨arr, rfl, hr⟩
  | (i, l) :: rest, [], cells, out, arr, h, hl, _, hr => by simp at hl
  | (i, l) :: rest, (i', v) :: vrest, cells, out, arr, h, hl, hp, hr => by
    simp only [List.map_cons, List.cons.injEq] at hl
    obtain ⟨rfl, hl⟩ := hl
    rw [fillV] at h
    split at h
    · rename_i off size hpl
      split at h
      · rename_i hc
        simp only [Bool.and_eq_true, beq_iff_eq] at hc
        obtain ⟨hc1, hc2⟩ := hc
        have hc2 := Nat.le_of_ble_eq_true hc2
        obtain ⟨hs, hrel⟩ := hp 0 _ _ rfl rfl
        dsimp only at hs hrel
        have hf := foldl_put off v.cells.toList 0 arr (by simp only [Array.length_toList]; rw [hr.1]; omega)
        have hfold : (v.cells.zipIdx.foldl (fun cs (c, j) => cs.setIfInBounds (off + j) c) arr) = ((v.cells.toList.zipIdx 0).foldl (fun cs p => cs.setIfInBounds (off + p.2) p.1) arr) := by
          rw [← Array.foldl_toList, Array.toList_zipIdx]
        have hr2 : RelC μ X w (splice cells off l) (v.cells.zipIdx.foldl (fun cs (c, j) => cs.setIfInBounds (off + j) c) arr) := by
          rw [hfold]
          refine ⟨by rw [hf.1, splice_len _ _ _ hc2]; exact hr.1, fun j c u hc hu => ?_⟩
          rw [splice_get _ _ _ hc2] at hc
          rw [hf.2] at hu
          simp only [Nat.add_zero, Array.length_toList] at hu
          by_cases hin : off ≤ j ∧ j < off + l.length
          · rw [if_pos hin] at hc; rw [if_pos (by omega)] at hu
            exact hrel _ _ _ hc (by simpa using hu)
          · rw [if_neg hin] at hc; rw [if_neg (by omega)] at hu
            exact hr.2 _ _ _ hc hu
        obtain ⟨arr', h1, h2⟩ := fillV_ok (vparts := vrest) h hl (fun j p q hp' hq => hp (j + 1) p q (by simpa using hp') (by simpa using hq)) hr2
        refine ⟨arr', ?_, h2⟩
        rw [Instr.fill, hpl]
        dsimp only
        rw [if_neg (by simp only [Bool.or_eq_true, decide_eq_true_eq, not_or]; rw [hr.1]; exact ⟨by omega, by omega⟩)]
        exact h1
      · cases h
    · cases h

def partsV (env : Env) (ρ : Operand → AV) : List (Nat × Operand) → Option (List (Nat × List AV))
  | [] => some []
  | (i, x) :: l => match cellsE env (ρ x), partsV env ρ l with
    | some c, some r => some ((i, c) :: r)
    | _, _ => none
theorem partsV_ok {S : Ex} {w0 : Base} {w : World} {μ : Nat → Option OI} {σ : VS} {a : Act} {env : Env} (h : StM S w0 μ σ a w) (he : EnvOK env σ) : ∀ {l : List (Nat × Operand)} {r : List (Nat × List AV)}, partsV env (evV σ.t) l = some r →
    (l.map fun p => (p.1, a.eval p.2)).map (·.1) = r.map (·.1) ∧ (∀ (j : Nat) (p : Nat × List AV) (q : Nat × Value), r[j]? = some p → (l.map fun p => (p.1, a.eval p.2))[j]? = some q → RelC μ (XOf S μ) w p.2 q.2.cells ∧ ∀ u ∈ q.2.cells.toList, u.oneCell' = true)
  | [], r, hr => by simp only [partsV] at hr; injection hr with hr; subst hr; exact ⟨rfl, fun j p q hp => by simp at hp⟩
  | (i, x) :: l, r, hr => by
    rw [partsV] at hr
    split at hr
    · rename_i c r' h1 h2
      injection hr with hr; subst hr
      obtain ⟨e1, e2⟩ := partsV_ok h he h2
      obtain ⟨c1, c2, c3⟩ := cellsE_ok h he (h.eval x) h1
      refine ⟨by simpa using e1, fun j p q hp hq => ?_⟩
      cases j with
      | zero => simp at hp hq; subst hp hq; exact ⟨⟨c1, c2⟩, c3⟩
      | succ j => exact e2 j p q (by simpa using hp) (by simpa using hq)
    · cases hr

def vBuild (P : Program) (t : TypeId) (parts : Array (Nat × Operand)) (ρ : Operand → AV) (env : Env) (π : List PI) : Option (Eff × List PI) :=
  match pureVal P (zeroValue t) with
  | some z => match P.underlying t with
    | some (.struct fields) => match pureVal P (fields.mapM fun f => do pure (f.offset, ← sizeOf f.type)), partsV env ρ parts.toList with
      | some places, some ps => match fillV (places[·]?) (z.cells.toList.map .lit) ps with
        | some out => some ({ v := .agg out }, π)
        | none => none
      | _, _ => none
    | some (.array _ e) => match szP P e, partsV env ρ parts.toList with
      | some m, some ps => match fillV (fun i => some (i * m, m)) (z.cells.toList.map .lit) ps with
        | some out => some ({ v := .agg out }, π)
        | none => none
      | _, _ => none
    | _ => none
  | none => none
theorem vBuild_ok {P : Program} {o : Oper} {t : TypeId} {parts : Array (Nat × Operand)} {σ : VS} {env : Env} {π π' : List PI} {E : Eff} (ho : o.op = .build t parts) (he : EnvOK env σ) (h : vBuild P t parts (evV σ.t) env π = some (E, π')) : OpS P o σ E := by
  unfold vBuild at h
  split at h
  · rename_i z hz
    split at h
    · rename_i fields hu
      split at h
      · rename_i places ps hpl hps
        split at h
        · rename_i out hf
          injection h with h; injection h with h1 h2; subst h1
          refine opS_val fun S w0 μ ac w hst => ?_
          obtain ⟨e1, e2⟩ := partsV_ok hst he hps
          obtain ⟨arr', f1, f2, f3⟩ := fillV_ok (μ := μ) (X := XOf S μ) (w := w) (arr := z.cells) hf e1 (fun j p q hp hq => (e2 j p q hp hq).1) ⟨by simp, fun j c v hc hv => by
            rw [List.getElem?_map] at hc
            simp only [Array.getElem?_toList, hv, Option.map_some, Option.some.injEq] at hc
            subst hc; exact .pure (.lit _)⟩
          refine ⟨.agg arr', ?_, ?_⟩
          · have hp : ((parts.map fun (i, x) => (i, ac.eval x)).toList) = parts.toList.map fun p => (p.1, ac.eval p.2) := by simp
            simp only [execOp, ho, Instr.build, Sem.run_bind, pureVal_run w hz, Result.andThen_ok, run_underlying hu, pureVal_run w hpl, hp, f1, Sem.run_pure]
          · have : arr' = arr'.toList.toArray := by simp
            rw [this]
            exact .agg (by simpa using f2) fun i c v hc hv => f3 i c v hc (by simpa using hv)
        · cases h
      · cases h
    · rename_i len e hu
      split at h
      · rename_i m ps hm hps
        split at h
        · rename_i out hf
          injection h with h; injection h with h1 h2; subst h1
          refine opS_val fun S w0 μ ac w hst => ?_
          obtain ⟨e1, e2⟩ := partsV_ok hst he hps
          obtain ⟨arr', f1, f2, f3⟩ := fillV_ok (μ := μ) (X := XOf S μ) (w := w) (arr := z.cells) hf e1 (fun j p q hp hq => (e2 j p q hp hq).1) ⟨by simp, fun j c v hc hv => by
            rw [List.getElem?_map] at hc
            simp only [Array.getElem?_toList, hv, Option.map_some, Option.some.injEq] at hc
            subst hc; exact .pure (.lit _)⟩
          refine ⟨.agg arr', ?_, ?_⟩
          · have hp : ((parts.map fun (i, x) => (i, ac.eval x)).toList) = parts.toList.map fun p => (p.1, ac.eval p.2) := by simp
            simp only [execOp, ho, Instr.build, Sem.run_bind, pureVal_run w hz, Result.andThen_ok, run_underlying hu, run_sizeOf hm, hp, f1, Sem.run_pure]
          · have : arr' = arr'.toList.toArray := by simp
            rw [this]
            exact .agg (by simpa using f2) fun i c v hc hv => f3 i c v hc (by simpa using hv)
        · cases h
      · cases h
    · cases h
  · cases h

/-! ### New blocks -/
def chunk (z n : Nat) (cells : List AV) : List (List AV) := (List.range n).map fun i => (cells.drop (i * z)).take z
def newBlk (P : Program) (t : TypeId) (cells : List AV) : Option Blk := match P.underlying t with
  | some (.array n e) => match szP P e with
    | some z => if cells.length == n * z && cells.all AV.pur && Nat.ble n 1000000 then some (.slc t z (chunk z n cells)) else none
    | none => none
  | some _ => some (.var cells)
  | none => none
def newOI (g : Nat) : Blk → OI
  | .var cells => ⟨some g, cells.length, 1, 1, none⟩
  | .slc _ z rows => ⟨some g, z, rows.length, rows.length, none⟩
  | .obj _ => ⟨some g, 0, 0, 0, none⟩
  | .lp _ _ _ => ⟨some g, 0, 0, 0, none⟩
  | .foc _ _ _ _ _ => ⟨some g, 0, 0, 0, none⟩
  | .reg _ => ⟨some g, 0, 0, 0, none⟩
theorem chunk_get {z n : Nat} {cells : List AV} {i : Nat} {r : List AV} (h : (chunk z n cells)[i]? = some r) : i < n ∧ r = (cells.drop (i * z)).take z := by
  unfold chunk at h
  rw [List.getElem?_map, Option.map_eq_some_iff] at h
  obtain ⟨k, hk, rfl⟩ := h
  obtain ⟨h1, h2⟩ := List.getElem?_eq_some_iff.1 hk
  simp at h1 h2
  exact ⟨h1, by rw [← h2]⟩
end Go.Proofs.YtdmkhinckljddaaGreat
namespace Go.Proofs.YtdmkhinckljddaaGreat
open Go.RowKit
theorem vflat_len {z : Nat} : ∀ {rows : List (List AV)}, (∀ (i : Nat) (r : List AV), rows[i]? = some r → r.length = z) → rows.flatten.length = rows.length * z
  | [], _ => by simp
  | r :: rows, h => by
    have h0 := h 0 r rfl
    have ih := vflat_len (rows := rows) fun i r hi => h (i + 1) r (by simpa using hi)
    simp only [List.flatten_cons, List.length_append, ih, h0, List.length_cons, Nat.add_mul]; omega
theorem vflat_get {z : Nat} : ∀ {rows : List (List AV)} {i : Nat} {r : List AV} {j : Nat} {c : AV}, (∀ (i : Nat) (r : List AV), rows[i]? = some r → r.length = z) → rows[i]? = some r → r[j]? = some c → rows.flatten[i * z + j]? = some c
  | [], _, _, _, _, _, hi, _ => by simp at hi
  | r0 :: rows, 0, r, j, c, h, hi, hj => by
    simp at hi; subst hi
    have := (List.getElem?_eq_some_iff.1 hj).1
    rw [List.flatten_cons, Nat.zero_mul, Nat.zero_add, List.getElem?_append_left this]; exact hj
  | r0 :: rows, i + 1, r, j, c, h, hi, hj => by
    have h0 := h 0 r0 rfl
    have ih := vflat_get (rows := rows) (i := i) (fun i r hi => h (i + 1) r (by simpa using hi)) (by simpa using hi) hj
    rw [List.flatten_cons, List.getElem?_append_right (by rw [h0, Nat.add_mul]; omega), h0, show (i + 1) * z + j - z = i * z + j by rw [Nat.add_mul]; omega]; exact ih

/-- A whole array. -/
theorem run_whole {P : Program} {S : Ex} {w0 : Base} {w : World} {μ : Nat → Option OI} {σ : VS} {a : Act} (h : StM S w0 μ σ a w) {k : Nat} {e : TypeId} {z : Nat} {rows : List (List AV)} (hk : look σ.o k = some (.slc e z rows)) {t et : TypeId} {n : Nat}
    (ha : elemOfArr P t = some (n, et, z)) (hn : rows.length = n) (hs : szP P t = some (n * z)) {v : Value} (hv : Rel μ (XOf S μ) w (.ptr k 0 0) v) : ∃ g x, v = .pointer (some ⟨g, 0, none⟩) ∧ (loadVar t ⟨g, 0, none⟩).run P w = .ok x w ∧ Rel μ (XOf S μ) w (.agg rows.flatten) x := by
  obtain ⟨hu, hse⟩ := elemOfArr_ok ha
  obtain ⟨o, ho, hz, hon, hlen, hcap, hmax, hcase⟩ := h.blks k _ hk
  have hfl := vflat_len hlen
  have hagg : aggP P t = some true := by unfold aggP; rw [hu]
  rcases hcase with ⟨hg, hr0, hc0⟩ | ⟨g, cs, hg, hB, hh, hsz, hrel⟩
  · cases hv with
    | pure hp => cases hp
    | ptr h1 h2 => rw [ho] at h1; injection h1 with h1; subst h1; rw [hg] at h2; cases h2
    | deadP _ hd => rw [ho] at hd; cases hd
  · have hv := ptr_eval hv ho hg
    have hfit : n * z ≤ cs.size := by rw [hsz, ← hn]; exact Nat.mul_le_mul_right _ hcap
    refine ⟨g, .agg (cs.toList.take (n * z)).toArray, by rw [hv]; simp, ?_, .agg (by rw [hfl, hn]; simp; omega) fun q c v hc hv => ?_⟩
    · have hl : (loadCells ⟨g, 0, none⟩ (cs.toList.take (n * z)).length).run P w = .ok (cs.toList.take (n * z)).toArray w :=
        run_loadCells_list (P := P) w ⟨g, 0, none⟩ _ fun j v hv => by
          rw [List.getElem?_take] at hv
          split at hv
          · rw [add_zero_none, Nat.zero_add]; simp [World.cell?, hh]; simpa using hv
          · cases hv
      rw [show (cs.toList.take (n * z)).length = n * z by simp; omega] at hl
      simp only [loadVar, Sem.run_bind, run_isAgg hagg, Result.andThen_ok, if_true, run_sizeOf hs, hl]; rfl
    · have hq : q < rows.length * z := by rw [← hfl]; exact (List.getElem?_eq_some_iff.1 hc).1
      have hz0 : 0 < z := Nat.pos_of_ne_zero (by rintro rfl; simp at hq)
      have hlt : q / z < rows.length := by rw [Nat.div_lt_iff_lt_mul hz0]; exact hq
      have hr := List.getElem?_eq_getElem hlt
      have hmod : q % z < rows[q / z].length := by rw [hlen _ _ hr]; exact Nat.mod_lt _ hz0
      have hrj := List.getElem?_eq_getElem hmod
      have hfg := vflat_get hlen hr hrj
      have e1 : q / z * z + q % z = q := by rw [Nat.mul_comm, Nat.div_add_mod]
      rw [e1, hc] at hfg; injection hfg with hfg
      rw [List.getElem?_take] at hv
      split at hv
      · have := (hrel _ _ _ _ v hr hrj (by rw [e1]; simpa using hv)).1
        rw [← hfg] at this; exact .pure this
      · cases hv

def vLoadA (P : Program) (t : TypeId) (x : Operand) (ρ : Operand → AV) (env : Env) (π : List PI) : Option (Eff × List PI) := match ρ x with
  | .ptr k 0 0 => match env k with
    | some (.slc _ z rows) => match elemOfArr P t with
      | some (n, _, m) => if m == z && rows.length == n && szP P t == some (n * z) then some ({ v := .agg rows.flatten }, π) else none
      | none => none
    | _ => none
  | _ => none
theorem vLoadA_ok {P : Program} {o : Oper} {t : TypeId} {x : Operand} {σ : VS} {env : Env} {π π' : List PI} {E : Eff} (ho : o.op = .load t x) (he : EnvOK env σ) (h : vLoadA P t x (evV σ.t) env π = some (E, π')) : OpS P o σ E := by
  unfold vLoadA at h
  split at h
  · rename_i k hx
    split at h
    · rename_i e z rows hk
      split at h
      · rename_i n et m ha
        split at h
        · rename_i hc
          simp only [Bool.and_eq_true, beq_iff_eq] at hc
          obtain ⟨⟨rfl, hn⟩, hs⟩ := hc
          injection h with h; injection h with h1 h2; subst h1
          refine opS_val fun S w0 μ ac w hst => ?_
          have ex := hst.eval x; rw [hx] at ex
          obtain ⟨g, xv, hxe, hxr, hrel⟩ := run_whole hst (he k _ hk) ha hn hs ex
          refine ⟨xv, ?_, hrel⟩
          simp only [execOp, ho, hxe, Instr.loadAt, Instr.sureAddr, Sem.run_bind, Sem.run_pure, Result.andThen_ok, hxr]
        · cases h
      · cases h
    · cases h
  · cases h
def vStoreA (P : Program) (t : TypeId) (x y : Operand) (ρ : Operand → AV) (env : Env) (π : List PI) : Option (Eff × List PI) := match ρ x with
  | .ptr k 0 0 => match env k with
    | some (.slc e z rows) => match elemOfArr P t with
      | some (n, _, m) => match cellsE env (ρ y) with
        | some l => if m == z && rows.length == n && l.length == n * z && szP P t == some l.length && l.all AV.pur then some ({ v := .any, upd := some (k, .slc e z (chunk z n l)) }, π) else none
        | none => none
      | none => none
    | _ => none
  | _ => none
theorem vStoreA_ok {P : Program} {o : Oper} {t : TypeId} {x y : Operand} {σ : VS} {env : Env} {π π' : List PI} {E : Eff} (ho : o.op = .store t x y) (he : EnvOK env σ) (h : vStoreA P t x y (evV σ.t) env π = some (E, π')) : OpS P o σ E := by
  unfold vStoreA at h
  split at h
  · rename_i k hx
    split at h
    · rename_i e z rows hk
      split at h
      · rename_i n et m ha
        split at h
        · rename_i l hl
          split at h
          · rename_i hc
            simp only [Bool.and_eq_true, beq_iff_eq] at hc
            obtain ⟨⟨⟨⟨rfl, hn⟩, hll⟩, hs⟩, hp⟩ := hc
            injection h with h; injection h with h1 h2; subst h1
            intro S w0 μ ac w hst _ K Q hK
            obtain ⟨hv1, hv2, hv3⟩ := cellsE_ok hst he (hst.eval y) hl
            obtain ⟨oi, hoi, hz, hon, hlen, hcap, hmax, hcase⟩ := hst.blks k _ (he k _ hk)
            have ex := hst.eval x; rw [hx] at ex
            rcases hcase with ⟨hg, hr0, hc0⟩ | ⟨g, arr, hg, hB, hh, hsz, hrel⟩
            · generalize ac.eval x = u at ex
              cases ex with
              | pure hp => cases hp
              | ptr h1 h2 => rw [hoi] at h1; injection h1 with h1; subst h1; rw [hg] at h2; cases h2
              | deadP _ hd => rw [hoi] at hd; cases hd
            · have ex := ptr_eval ex hoi hg
              have hfit : 0 + (ac.eval y).cells.size ≤ arr.size := by
                rw [hsz, hv1, hll, ← hn, Nat.zero_add]; exact Nat.mul_le_mul_right _ hcap
              have hr := run_storeAt (t := t) (off := 0) (v := ac.eval y) hh (by rw [hs, hv1]) hfit hv3
              unfold Oper.wp
              simp only [Nat.zero_mul, Nat.zero_add] at ex
              simp only [execOp, ho, ex, Sem.run_bind, hr, Result.andThen_ok]
              refine hK _ _ ⟨μ, ?_⟩
              refine StM.put (σ := ⟨σ.t, put1 k (.slc e m (chunk m n l)) σ.o⟩) ?_ o.dst (.any _)
              have hclen : (chunk m n l).length = n := by simp [chunk]
              refine hst.write k oi g hoi hg _ (setRow_size _ _ _) (fun b hb => setRow_other w g b _ hb) (hst.below.setRow hB _) fun hw => ?_
              have hseg := fun j => seg_get (arr := arr) (off := 0) (vs := (ac.eval y).cells.toList) (by simpa using hfit) j
              simp only [Array.length_toList] at hseg
              refine ⟨hz, by rw [hclen, ← hn]; exact hon, fun i r hi => ?_, by rw [hclen, ← hn]; exact hcap, hmax, .inr ⟨g, _, hg, hB, setRow_heap w g arr _ e _ hh, ?_, ?_⟩⟩
              · obtain ⟨h1, rfl⟩ := chunk_get hi
                have : (i + 1) * m ≤ n * m := Nat.mul_le_mul_right _ h1
                rw [Nat.add_mul] at this
                simp [hll]; omega
              · rw [← hsz]; simp; omega
              · intro i r j c u hi hj hu
                obtain ⟨h1, rfl⟩ := chunk_get hi
                rw [List.getElem?_take] at hj
                split at hj
                · rename_i hjm
                  rw [List.getElem?_drop] at hj
                  have hq : i * m + j < l.length := (List.getElem?_eq_some_iff.1 hj).1
                  rw [hseg, if_pos ⟨Nat.zero_le _, by omega⟩, Nat.sub_zero] at hu
                  exact ⟨(rel_pur (hv2 _ _ _ hj (by simpa using hu)) (List.all_eq_true.1 hp c (List.mem_of_getElem? hj))).step hw, hv3 u (List.mem_of_getElem? hu)⟩
                · cases hj
          · cases h
        · cases h
      · cases h
    · cases h
  · cases h
end Go.Proofs.YtdmkhinckljddaaGreat
namespace Go.Proofs.YtdmkhinckljddaaGreat
open Go.RowKit

theorem newBlk_ok {P : Program} {μ : Nat → Option OI} {X : Ex} {w : World} {t : TypeId} {cells : List AV} {b : Blk} {arr : Array Value} (h : newBlk P t cells = some b) (hr : RelC μ X w cells arr) (h1 : ∀ u ∈ arr.toList, u.oneCell' = true) (g : Nat) : BlkNew μ X w (newOI g b) arr t b := by
  unfold newBlk at h
  split at h
  · rename_i n e hu
    split at h
    · rename_i z hz
      split at h
      · rename_i hc
        simp only [Bool.and_eq_true, beq_iff_eq] at hc
        obtain ⟨⟨hc1, hc2⟩, hc3⟩ := hc
        have hc3 := Nat.le_of_ble_eq_true hc3
        injection h with h; subst h
        have hlen : (chunk z n cells).length = n := by simp [chunk]
        have hrl : ∀ (i : Nat) (r : List AV), (chunk z n cells)[i]? = some r → i < n ∧ r.length = z := by
          intro i r hi
          obtain ⟨h1, rfl⟩ := chunk_get hi
          refine ⟨h1, ?_⟩
          have : (i + 1) * z ≤ n * z := Nat.mul_le_mul_right _ h1
          rw [Nat.add_mul] at this
          simp [hc1]; omega
        refine ⟨rfl, rfl, rfl, fun i r hi => (hrl i r hi).2, Nat.le_refl _, by show (chunk z n cells).length ≤ maxLen; rw [hlen]; unfold maxLen; omega, by show arr.size = (chunk z n cells).length * z; rw [hlen, hr.1, hc1], fun i r j c v hi hj hv => ?_⟩
        obtain ⟨_, rfl⟩ := chunk_get hi
        rw [List.getElem?_take] at hj
        split at hj
        · rw [List.getElem?_drop] at hj
          exact ⟨rel_pur (hr.2 _ _ _ hj hv) (List.all_eq_true.1 hc2 c (List.mem_of_getElem? hj)), h1 v (List.mem_of_getElem? (by simpa using hv))⟩
        · cases hj
      · cases h
    · cases h
  · rename_i d hd hu
    injection h with h; subst h
    exact ⟨hr.1, rfl, hr.2⟩
  · cases h
theorem newOI_g (g : Nat) (b : Blk) : (newOI g b).g = some g ∧ (newOI g b).r = none := by cases b <;> exact ⟨rfl, rfl⟩

def vAlloc (P : Program) (t : TypeId) (dst : Option Tmp) (π : List PI) : Option (Eff × List PI) := match dst with
  | some d => match pureVal P (zeroValue t) with
    | some z => match cellsE (fun _ => none) (ofVal z) with
      | some cells => match newBlk P t cells with
        | some b => if b.ment d then none else some ({ v := .ptr d 0 0, new := some b }, π)
        | none => none
      | none => none
    | none => none
  | none => none
def vBox (P : Program) (t : TypeId) (x : Operand) (dst : Option Tmp) (ρ : Operand → AV) (env : Env) (π : List PI) : Option (Eff × List PI) := match dst with
  | some d => match cellsE env (ρ x) with
    | some cells => match newBlk P t cells with
      | some b => if b.ment d then none else some ({ v := .ptr d 0 0, new := some b }, π)
      | none => none
    | none => none
  | none => none
theorem vAlloc_ok {P : Program} {o : Oper} {t : TypeId} {σ : VS} {π π' : List PI} {E : Eff} (ho : o.op = .alloc t) (h : vAlloc P t o.dst π = some (E, π')) : OpS P o σ E := by
  unfold vAlloc at h
  split at h
  · rename_i d hd
    split at h
    · rename_i z hz
      split at h
      · rename_i cells hc
        split at h
        · rename_i b hb
          split at h
          · cases h
          · rename_i hm
            injection h with h; injection h with h1 h2; subst h1
            refine opS_new hd (by simpa using hm) fun S w0 μ ac w hst => ?_
            obtain ⟨c1, c2, c3⟩ := cellsE_ok hst (env := fun _ => none) (fun k b h => by cases h) (Rel.ofVal z) hc
            refine ⟨_, z.cells, t, newOI w.heap.size b, ?_, newOI_g _ _, .inl ⟨rfl, rfl⟩, newBlk_ok hb ⟨c1, c2⟩ c3 _⟩
            simp only [execOp, ho, Instr.alloc, Sem.run_bind, pureVal_run w hz, Result.andThen_ok, newVar, newRow, newObj, Sem.run_pure]
            rfl
        · cases h
      · cases h
    · cases h
  · cases h
theorem vBox_ok {P : Program} {o : Oper} {t : TypeId} {x : Operand} {σ : VS} {env : Env} {π π' : List PI} {E : Eff} (ho : o.op = .box t x) (he : EnvOK env σ) (h : vBox P t x o.dst (evV σ.t) env π = some (E, π')) : OpS P o σ E := by
  unfold vBox at h
  split at h
  · rename_i d hd
    split at h
    · rename_i cells hc
      split at h
      · rename_i b hb
        split at h
        · cases h
        · rename_i hm
          injection h with h; injection h with h1 h2; subst h1
          refine opS_new hd (by simpa using hm) fun S w0 μ ac w hst => ?_
          obtain ⟨c1, c2, c3⟩ := cellsE_ok hst he (hst.eval x) hc
          refine ⟨_, (ac.eval x).cells, t, newOI w.heap.size b, ?_, newOI_g _ _, .inl ⟨rfl, rfl⟩, newBlk_ok hb ⟨c1, c2⟩ c3 _⟩
          simp only [execOp, ho, Instr.box, Sem.run_bind, newVar, newRow, newObj, Sem.run_pure]
          rfl
      · cases h
    · cases h
  · cases h

def vBuildSlice (P : Program) (t : TypeId) (len : Nat) (parts : Array (Nat × Operand)) (dst : Option Tmp) (ρ : Operand → AV) (env : Env) (π : List PI) : Option (Eff × List PI) := match dst with
  | some d => match elemOfSl P t with
    | some (e, z) => match pureVal P (zeroValue e), partsV env ρ parts.toList with
      | some _, some ps => match fillV (fun i => some (i * z, z)) (List.replicate (len * z) .any) ps with
        | some out => if out.all AV.pur && Nat.ble (len * z) 1000000 && Nat.ble len 1000000 then (match π with
          | .frz _ :: π' => some ({ v := .sl z (chunk z len out) }, π')
          | _ => some ({ v := .own d, new := some (.slc e z (chunk z len out)) }, π)) else none
        | none => none
      | _, _ => none
    | none => none
  | none => none
/-- A new block that nobody writes. -/
theorem opS_newSl {P : Program} {o : Oper} {σ : VS} {ob : List Prop} {e : TypeId} {z : Nat} {rows : List (List AV)}
    (h : ∀ S w0 μ a w, StM S w0 μ σ a w → ∃ cs oi, (execOp a.eval o).run P w = .ok (.value (.slice (some ⟨w.heap.size, 0, none⟩) oi.n oi.cap)) (w.alloc (.cells cs e)) ∧ BlkNew μ (XOf S μ) w oi cs e (.slc e z rows)) :
    OpS P o σ { ob := ob, v := .sl z rows } := by
  intro S w0 μ a w hst hcl K Q hK
  obtain ⟨cs, oi, hr, hB⟩ := h S w0 μ a w hst
  unfold Oper.wp; rw [hr]
  have hbel : Below w.heap.size w (w.alloc (.cells cs e)) := (Below.refl _ _).alloc (Nat.le_refl _) _
  have hl := hst.later hbel
  refine hK _ _ ⟨μ, hl.put o.dst ?_⟩
  obtain ⟨h1, h2, h3, h4, h5, h6, h7, h8⟩ := hB
  have hheap : (w.alloc (.cells cs e)).heap[w.heap.size]? = some (.cells cs e (0, 0)) := heap_alloc_new w _
  have hX : ¬ XOf S μ w.heap.size := fun hx => by have := hst.xlt hx; omega
  have hw : Wd (XOf S μ) (XOf S μ) w (w.alloc (.cells cs e)) := ⟨hbel.size, fun b hlt _ => hbel.block b hlt, fun _ _ h => h, fun _ h => h⟩
  rw [h3]
  have hlt : ∀ (i : Nat) (r : List AV) (j : Nat) (c : AV), rows[i]? = some r → r[j]? = some c → i * z + j < cs.size := by
    intro i r j c hi hj
    have hjz : j < z := by rw [← h4 i r hi]; exact (List.getElem?_eq_some_iff.1 hj).1
    have hil : i < rows.length := (List.getElem?_eq_some_iff.1 hi).1
    rw [h7]
    have : (i + 1) * z ≤ oi.cap * z := Nat.mul_le_mul_right _ (by omega)
    rw [Nat.add_mul] at this; omega
  have hgt : ∀ (i : Nat) (r : List AV) (j : Nat) (c : AV), rows[i]? = some r → r[j]? = some c → cs[i * z + j]? = some ((cs[i * z + j]?).getD undef) := by
    intro i r j c hi hj
    rw [Array.getElem?_eq_getElem (hlt i r j c hi hj)]; rfl
  exact .pure (.sl (fun i j => (cs[i * z + j]?).getD undef) (fun _ => hX) (fun _ => (Array.getElem?_eq_some_iff.1 hheap).1) h5 h6 h4
    (fun i r j c hi hj => by rw [Nat.zero_add]; simp only [World.cell?, hheap, Option.isSome_none, Bool.false_eq_true, if_false]; exact hgt i r j c hi hj)
    (fun i r j c hi hj => (h8 _ _ _ _ _ hi hj (hgt i r j c hi hj)).1.step hw) (fun i r j c hi hj => (h8 _ _ _ _ _ hi hj (hgt i r j c hi hj)).2))
theorem buildSlice_core {P : Program} {o : Oper} {t e : TypeId} {len z : Nat} {parts : Array (Nat × Operand)} {σ : VS} {env : Env} {zv : Value} {ps : List (Nat × List AV)} {out : List AV} (ho : o.op = .buildSlice t len parts) (he : EnvOK env σ) (hu : P.underlying t = some (.slice e)) (hsz : szP P e = some z)
    (hz : pureVal P (zeroValue e) = some zv) (hps : partsV env (evV σ.t) parts.toList = some ps) (hf : fillV (fun i => some (i * z, z)) (List.replicate (len * z) .any) ps = some out) (hp : out.all AV.pur = true) (hble : len * z ≤ 1000000) (hble2 : len ≤ 1000000)
    (S : Ex) (w0 : Base) (μ : Nat → Option OI) (ac : Act) (w : World) (hst : StM S w0 μ σ ac w) :
    ∃ arr', (execOp ac.eval o).run P w = .ok (.value (.slice (some ⟨w.heap.size, 0, none⟩) len len)) (w.alloc (.cells arr' e)) ∧ BlkNew μ (XOf S μ) w ⟨some w.heap.size, z, len, len, none⟩ arr' e (.slc e z (chunk z len out)) := by
  obtain ⟨e1, e2⟩ := partsV_ok hst he hps
  have key : ∀ (zc : Array Value), ∃ arr', Instr.fill (fun i => some (i * z, z)) ((Array.range (len * z)).map (zc[· % zc.size]!)) (parts.toList.map fun p => (p.1, ac.eval p.2)) = some arr' ∧ RelC μ (XOf S μ) w out arr' := by
    intro zc
    exact fillV_ok (μ := μ) (X := XOf S μ) (w := w) hf e1 (fun j p q hp hq => (e2 j p q hp hq).1) ⟨by simp, fun j c v hc hv => by
      rw [List.getElem?_replicate] at hc
      split at hc
      · injection hc with hc; subst hc; exact .any _
      · cases hc⟩
  obtain ⟨arr', f1, f2, f3⟩ := key (if len * z = 0 then #[] else zv.cells)
  have hout : out.length = len * z := by
    have hs := f2
    have : ∀ (ps : List (Nat × List AV)) (cells out : List AV), fillV (fun i => some (i * z, z)) cells ps = some out → out.length = cells.length := by
      intro ps
      induction ps with
      | nil => intro cells out h; simp only [fillV] at h; injection h with h; rw [h]
      | cons p ps ih =>
        intro cells out h
        obtain ⟨i, l⟩ := p
        simp only [fillV] at h
        split at h
        · rename_i hc
          simp only [Bool.and_eq_true, beq_iff_eq] at hc
          rw [ih _ _ h, splice_len _ _ _ (Nat.le_of_ble_eq_true hc.2)]
        · cases h
    rw [this _ _ _ hf]; simp
  have hlen : (chunk z len out).length = len := by simp [chunk]
  refine ⟨arr', ?_, rfl, rfl, hlen.symm, fun i r hi => ?_, by rw [hlen]; exact Nat.le_refl _, by show len ≤ maxLen; unfold maxLen; omega, by rw [f2, hout], fun i r j c v hi hj hv => ?_⟩
  · have hp' : ((parts.map fun (i, x) => (i, ac.eval x)).toList) = parts.toList.map fun p => (p.1, ac.eval p.2) := by simp
    have hnl : ¬ len * z > 2 ^ 24 := by omega
    simp only [execOp, ho, Instr.buildSlice, Sem.run_bind, run_underlying hu, Result.andThen_ok, run_sizeOf hsz, if_neg hnl, Sem.run_pure]
    by_cases h0 : len * z = 0
    · rw [if_pos h0] at f1
      simp only [if_pos h0, Sem.run_pure, Result.andThen_ok, hp', f1, newRow, newObj, Sem.run_bind]
      rfl
    · rw [if_neg h0] at f1
      simp only [if_neg h0, Sem.run_bind, pureVal_run w hz, Sem.run_pure, Result.andThen_ok, hp', f1, newRow, newObj]
      rfl
  · obtain ⟨h1, rfl⟩ := chunk_get hi
    have : (i + 1) * z ≤ len * z := Nat.mul_le_mul_right _ h1
    rw [Nat.add_mul] at this
    simp [hout]; omega
  · obtain ⟨_, rfl⟩ := chunk_get hi
    rw [List.getElem?_take] at hj
    split at hj
    · rw [List.getElem?_drop] at hj
      have hpu := List.all_eq_true.1 hp c (List.mem_of_getElem? hj)
      have hr := rel_pur (f3 _ _ _ hj hv) hpu
      refine ⟨hr, ?_⟩
      cases hr with
      | lit => exact hpu
      | nil => rfl
      | sl => rfl
      | fs h => cases h <;> rfl
    · cases hj
theorem vBuildSlice_ok {P : Program} {o : Oper} {t : TypeId} {len : Nat} {parts : Array (Nat × Operand)} {σ : VS} {env : Env} {π π' : List PI} {E : Eff} (ho : o.op = .buildSlice t len parts) (he : EnvOK env σ) (h : vBuildSlice P t len parts o.dst (evV σ.t) env π = some (E, π')) : OpS P o σ E := by
  unfold vBuildSlice at h
  split at h
  · rename_i d hd
    split at h
    · rename_i e z hel
      obtain ⟨hu, hsz⟩ := elemOfSl_ok hel
      split at h
      · rename_i zv ps hz hps
        split at h
        · rename_i out hf
          split at h
          · rename_i hcond
            simp only [Bool.and_eq_true] at hcond
            obtain ⟨⟨hp, hble⟩, hble2⟩ := hcond
            have hble := Nat.le_of_ble_eq_true hble
            have hble2 := Nat.le_of_ble_eq_true hble2
            have core := buildSlice_core ho he hu hsz hz hps hf hp hble hble2
            split at h
            · injection h with h; injection h with h1 h2; subst h1
              refine opS_newSl (e := e) fun S w0 μ ac w hst => ?_
              obtain ⟨arr', r1, r2⟩ := core S w0 μ ac w hst
              exact ⟨arr', _, r1, r2⟩
            · injection h with h; injection h with h1 h2; subst h1
              refine opS_new hd rfl fun S w0 μ ac w hst => ?_
              obtain ⟨arr', r1, r2⟩ := core S w0 μ ac w hst
              exact ⟨_, arr', e, _, r1, ⟨rfl, rfl⟩, .inr ⟨rfl, rfl⟩, r2⟩
          · cases h
        · cases h
      · cases h
    · cases h
  · cases h

def vMake (P : Program) (t : TypeId) (l c : Operand) (dst : Option Tmp) (ρ : Operand → AV) (π : List PI) : Option (Eff × List PI) := match dst with
  | some d => match elemOfSl P t with
    | some (e, z) => match P.info? e with
      | some i => match i.zero with
        | some zv => if zv.cells.size == z && zv.cells.toList.all (·.oneCell') && !(z == 0) then match ρ l, ρ c with
          | .lit (.int _ ln), .lit (.int _ cn) => match π with
            | .nats n m :: π' => some ({ ob := [ln = (n : Int), cn = (m : Int), n ≤ m, i.bytes * m ≤ 281474976710656, m ≤ 9223372036854775807], v := .own d, new := some (.slc e z (List.replicate n (zv.cells.toList.map .lit))) }, π')
            | _ => none
          | _, _ => none
          else none
        | none => none
      | none => none
    | none => none
  | none => none
theorem vMake_ok {P : Program} {o : Oper} {t : TypeId} {l c : Operand} {σ : VS} {π π' : List PI} {E : Eff} (ho : o.op = .makeSlice t l c) (h : vMake P t l c o.dst (evV σ.t) π = some (E, π')) (hob : All E.ob) : OpS P o σ E := by
  unfold vMake at h
  split at h
  · rename_i d hd
    split at h
    · rename_i e z hel
      obtain ⟨hu, hsz⟩ := elemOfSl_ok hel
      split at h
      · rename_i i hi
        split at h
        · rename_i zv hz
          split at h
          · rename_i hcond
            simp only [Bool.and_eq_true, beq_iff_eq, Bool.not_eq_true', beq_eq_false_iff_ne] at hcond
            obtain ⟨⟨hzs, hz1⟩, hz0⟩ := hcond
            split at h
            · rename_i kl ln kc cn hl hc
              split at h
              · rename_i n m π2
                injection h with h; injection h with h1 h2; subst h1
                obtain ⟨e1, e2, hnm, hby, hmx, _⟩ := hob
                refine opS_new hd rfl fun S w0 μ ac w hst => ?_
                have el := hst.eval l; rw [hl] at el; have el := rel_lit el
                have ec := hst.eval c; rw [hc] at ec; have ec := rel_lit ec
                have hisz : i.size = z := by
                  unfold szP at hsz; rw [hi] at hsz; simpa using hsz
                have hbm : (i.bytes : Int) * (m : Int) ≤ 281474976710656 := by
                  have h : ((i.bytes * m : Nat) : Int) ≤ 281474976710656 := by omega
                  rwa [Int.natCast_mul] at h
                have hr := run_make (P := P) w t e i zv hu hi hz kl kc n m (by omega) (by omega) hbm (by omega)
                simp only [Int.toNat_natCast] at hr
                refine ⟨_, madeCells zv.cells (m * i.size), e, ⟨some w.heap.size, z, n, m, none⟩, by simp only [execOp, ho, el, ec, e1, e2, Sem.run_bind, hr, Result.andThen_ok, Sem.run_pure], ⟨rfl, rfl⟩, .inr ⟨rfl, rfl⟩, rfl, rfl, by simp, fun j r hj => ?_, by simpa using hnm, by show m ≤ maxLen; unfold maxLen; omega, by rw [size_madeCells, hisz], fun i2 r j c v hi2 hj hv => ?_⟩
                · rw [List.getElem?_replicate] at hj
                  split at hj
                  · injection hj with hj; subst hj; simpa using hzs
                  · cases hj
                · rw [List.getElem?_replicate] at hi2
                  split at hi2
                  · rename_i hin
                    injection hi2 with hi2; subst hi2
                    rw [List.getElem?_map, Option.map_eq_some_iff] at hj
                    obtain ⟨u, hu2, rfl⟩ := hj
                    have hjz : j < z := by
                      have := (List.getElem?_eq_some_iff.1 hu2).1; simp at this; omega
                    have hlt : i2 * z + j < m * i.size := by
                      have : (i2 + 1) * z ≤ m * z := Nat.mul_le_mul_right _ (by omega)
                      rw [Nat.add_mul] at this; rw [hisz]; omega
                    have hmod : (i2 * z + j) % zv.cells.size = j := by rw [hzs, Nat.mul_comm, Nat.mul_add_mod]; exact Nat.mod_eq_of_lt hjz
                    have hv' : v = u := by
                      have h2u : zv.cells[j]? = some u := by simpa using hu2
                      have hget : (madeCells zv.cells (m * i.size))[i2 * z + j]? = some (zv.cells[j]!) := by
                        have : (madeCells zv.cells (m * i.size))[i2 * z + j]? = some (zv.cells[(i2 * z + j) % zv.cells.size]!) := by
                          unfold madeCells; simp [hlt]
                        rw [this, hmod]
                      rw [hget] at hv
                      injection hv with hv
                      obtain ⟨hb2, he2⟩ := Array.getElem?_eq_some_iff.1 h2u
                      exact hv.symm.trans ((getElem!_pos zv.cells j hb2).trans he2)
                    subst hv'
                    exact ⟨.lit _, List.all_eq_true.1 hz1 v (List.mem_of_getElem? hu2)⟩
                  · cases hi2
              · cases h
            · cases h
          · cases h
        · cases h
      · cases h
    · cases h
  · cases h

def vSlice (P : Program) (t : TypeId) (x : Operand) (lo hi mx : Option Operand) (ρ : Operand → AV) (π : List PI) : Option (Eff × List PI) := match elemOfSl P t with
  | some (_, m) => match ρ x, mx with
    | .sl z rows, none => match π with
      | .nats a b :: π' => if m == z then match (match lo with | some l => (match ρ l with | .lit (.int _ n) => some (n = (a : Int)) | _ => none) | none => some (a = 0)), (match hi with | some h => (match ρ h with | .lit (.int _ n) => some (n = (b : Int)) | _ => none) | none => some (b = rows.length)) with
        | some p, some q => some ({ ob := [p, q, a ≤ b, b ≤ rows.length], v := .sl z ((rows.drop a).take (b - a)) }, π')
        | _, _ => none
        else none
      | _ => none
    | _, _ => none
  | none => none
theorem vSlice_ok {P : Program} {o : Oper} {t : TypeId} {x : Operand} {lo hi mx : Option Operand} {σ : VS} {π π' : List PI} {E : Eff} (ho : o.op = .slice t x lo hi mx) (h : vSlice P t x lo hi mx (evV σ.t) π = some (E, π')) (hob : All E.ob) : OpS P o σ E := by
  unfold vSlice at h
  split at h
  · rename_i e m hel
    obtain ⟨hu, hsz⟩ := elemOfSl_ok hel
    split at h
    · rename_i z rows hx
      split at h
      · rename_i a b π2
        split at h
        · rename_i hmz
          have hmz : m = z := by simpa using hmz
          subst hmz
          split at h
          · rename_i p q hlo hhi
            injection h with h; injection h with h1 h2; subst h1
            obtain ⟨hp, hq, hab, hbl, _⟩ := hob
            refine opS_val fun S w0 μ ac w hst => ?_
            have ex := hst.eval x; rw [hx] at ex
            have hloV : lo = none ∧ a = 0 ∨ ∃ l kk, lo = some l ∧ ac.eval l = .int kk (a : Int) := by
              cases lo with
              | none => simp only [Option.some.injEq] at hlo; subst hlo; exact .inl ⟨rfl, hp⟩
              | some l =>
                dsimp only at hlo
                split at hlo
                · rename_i kk n hl
                  injection hlo with hlo; subst hlo
                  have el := hst.eval l; rw [hl] at el; have el := rel_lit el
                  exact .inr ⟨l, kk, rfl, by rw [el, hp]⟩
                · cases hlo
            have hhiV : hi = none ∧ b = rows.length ∨ ∃ l kk, hi = some l ∧ ac.eval l = .int kk (b : Int) := by
              cases hi with
              | none => simp only [Option.some.injEq] at hhi; subst hhi; exact .inl ⟨rfl, hq⟩
              | some l =>
                dsimp only at hhi
                split at hhi
                · rename_i kk n hl
                  injection hhi with hhi; subst hhi
                  have el := hst.eval l; rw [hl] at el; have el := rel_lit el
                  exact .inr ⟨l, kk, rfl, by rw [el, hq]⟩
                · cases hhi
            have hbd : ∀ cap, rows.length ≤ cap → (Instr.sliceBounds true rows.length cap (lo.map ac.eval) (hi.map ac.eval) none).run P w = .ok (a, b, cap) w := by
              intro cap hcap
              have hbc : b ≤ cap := by omega
              rcases hloV with ⟨rfl, ha⟩ | ⟨l, kk, rfl, el⟩ <;> rcases hhiV with ⟨rfl, hb⟩ | ⟨l2, kk2, rfl, el2⟩
              · simp [Instr.sliceBounds, ha, hb]
              · simp [Instr.sliceBounds, ha, el2, Instr.sliceBound, asIntOf, hbc]
              · simp [Instr.sliceBounds, ← hb, el, Instr.sliceBound, asIntOf, hab]
              · simp [Instr.sliceBounds, el, el2, Instr.sliceBound, asIntOf, hab, hbc]
            generalize hu' : ac.eval x = u at ex
            cases ex with
            | pure hp' => cases hp' with
              | @nil _ aa cap hm h0 =>
                have hb0 := hbd cap (by simp)
                simp only [List.length_nil] at hb0 hbl
                have : b = 0 := by omega
                have : a = 0 := by omega
                subst a b
                refine ⟨.slice aa 0 cap, ?_, .pure (by simpa using PRel.nil m hm h0)⟩
                simp only [execOp, ho, hu', Instr.sliceAt, Instr.slice, Sem.run_bind, run_underlying hu, Result.andThen_ok, Option.map_none, hb0, run_sizeOf hsz, Sem.run_pure, Nat.zero_mul, Nat.sub_zero]
                by_cases hc0 : cap = 0
                · rw [if_pos hc0]
                · rw [if_neg hc0]
                  cases aa with
                  | none => exact absurd (h0 rfl) hc0
                  | some ad => simp [Addr.add]
              | @sl _ _ bb off cap cv hX hb hc hm hz h1 h2 h3 =>
                have hb1 := hbd cap hc
                have hget : ∀ (i : Nat) (r : List AV), ((rows.drop a).take (b - a))[i]? = some r → rows[a + i]? = some r ∧ i < b - a := by
                  intro i r hi
                  rw [List.getElem?_take] at hi
                  split at hi
                  · rw [List.getElem?_drop] at hi; exact ⟨hi, ‹_›⟩
                  · cases hi
                have hlen : ((rows.drop a).take (b - a)).length = b - a := by simp; omega
                have hnn : (rows.drop a).take (b - a) ≠ [] → rows ≠ [] := by rintro hne rfl; simp at hne
                refine ⟨.slice (if cap = a then some ⟨bb, off, none⟩ else some ⟨bb, off + a * m, none⟩) (b - a) (cap - a), ?_, ?_⟩
                · simp only [execOp, ho, hu', Instr.sliceAt, Instr.slice, Sem.run_bind, run_underlying hu, Result.andThen_ok, Option.map_none, hb1, run_sizeOf hsz, Sem.run_pure, Option.map_some, add_zero_none]
                · by_cases hca : cap = a
                  · have : b - a = 0 := by omega
                    rw [if_pos hca]
                    have hnil : (rows.drop a).take (b - a) = [] := by rw [this]; rfl
                    have key := PRel.sl (X := XOf S μ) (w := w) (z := m) (rows := (rows.drop a).take (b - a)) (b := bb) (off := off) (cap := cap - a) (fun i j => cv (a + i) j) (fun hne => hX (hnn hne)) (fun hne => hb (hnn hne)) (by omega) (by omega) (fun i r hi => hz _ _ (hget i r hi).1)
                      (fun i r j c hi hj => by rw [hnil] at hi; simp at hi) (fun i r j c hi hj => h2 _ _ _ _ (hget i r hi).1 hj) (fun i r j c hi hj => h3 _ _ _ _ (hget i r hi).1 hj)
                    rw [hlen] at key; exact .pure key
                  · rw [if_neg hca]
                    have key := PRel.sl (X := XOf S μ) (w := w) (z := m) (rows := (rows.drop a).take (b - a)) (b := bb) (off := off + a * m) (cap := cap - a) (fun i j => cv (a + i) j) (fun hne => hX (hnn hne)) (fun hne => hb (hnn hne)) (by omega) (by omega) (fun i r hi => hz _ _ (hget i r hi).1)
                      (fun i r j c hi hj => by have := h1 _ _ _ _ (hget i r hi).1 hj; rw [Nat.add_mul] at this; rw [show off + a * m + i * m + j = off + (a * m + i * m) + j by omega]; exact this)
                      (fun i r j c hi hj => h2 _ _ _ _ (hget i r hi).1 hj) (fun i r j c hi hj => h3 _ _ _ _ (hget i r hi).1 hj)
                    rw [hlen] at key; exact .pure key
          · cases h
        · cases h
      · cases h
    · cases h
  · cases h
/-- A slice of the call's own, cut behind its first elements: it stays the call's own. -/
def vSliceO (P : Program) (t : TypeId) (k : Nat) (lo hi mx : Option Operand) (dst : Option Tmp) (ρ : Operand → AV) (env : Env) (π : List PI) : Option (Eff × List PI) := match dst, lo, hi, mx, π with
  | some d, none, some hh, none, .nats _ b :: π' => match elemOfSl P t with
    | some (_, m) => match env k, ρ hh with
      | some (.slc e z rows), .lit (.int _ n) => match z == m && Nat.blt k pinB with
        | true => some ({ ob := [n = (b : Int), b ≤ rows.length], v := .own d, new := some (.slc e z (rows.take b)), kill := some k }, π')
        | false => none
      | _, _ => none
    | none => none
  | _, _, _, _, _ => none
theorem vSliceO_ok {P : Program} {o : Oper} {t : TypeId} {x : Operand} {lo hi mx : Option Operand} {σ : VS} {env : Env} {k : Nat} {π π' : List PI} {E : Eff} (ho : o.op = .slice t x lo hi mx) (he : EnvOK env σ) (hx : evV σ.t x = .own k)
    (h : vSliceO P t k lo hi mx o.dst (evV σ.t) env π = some (E, π')) (hob : All E.ob) : OpS P o σ E := by
  unfold vSliceO at h
  split at h
  · rename_i d hh q b π2 hd
    split at h
    · rename_i el m hel
      obtain ⟨hu, hsz⟩ := elemOfSl_ok hel
      split at h
      · rename_i e z rows ik n hk hn
        split at h
        · rename_i hc
          simp only [Bool.and_eq_true, beq_iff_eq, Nat.blt_eq] at hc
          obtain ⟨hzm, hkp⟩ := hc
          subst hzm
          injection h with h; injection h with h1 h2; subst h1
          obtain ⟨hnb, hbl, _⟩ := hob
          intro S w0 μ ac w hst hcl K Q hK
          obtain ⟨d', hd', hclean⟩ := hcl rfl
          rw [hd] at hd'; injection hd' with hd'; subst hd'
          obtain ⟨oi, hoi, hz', hnn, hlen, hcap, hmax, hcase⟩ := hst.blks k _ (he k _ hk)
          have ex := hst.eval x; rw [hx] at ex
          have eh := hst.eval hh; rw [hn] at eh; have eh := rel_lit eh
          generalize hsv : ac.eval x = sv at ex
          cases ex with
          | pure hp => cases hp
          | deadO _ hd2 => rw [hoi] at hd2; cases hd2
          | own h1 =>
            rw [hoi] at h1; injection h1 with h1; subst h1
            have hbc : b ≤ oi.cap := by omega
            have hbd : (Instr.sliceBounds true oi.n oi.cap none (some (ac.eval hh)) none).run P w = .ok (0, b, oi.cap) w := by
              rw [eh, hnb]
              simp [Instr.sliceBounds, Instr.sliceBound, asIntOf, hbc]
            have hrun : (execOp ac.eval o).run P w = .ok (.value (.slice (oi.g.map fun g => ⟨g, 0, none⟩) b oi.cap)) w := by
              simp only [execOp, ho, hsv, Instr.sliceAt, Instr.slice, Sem.run_bind, run_underlying hu, Result.andThen_ok, Option.map_none, Option.map_some, hbd, run_sizeOf hsz, Sem.run_pure, Nat.zero_mul, Nat.sub_zero]
              by_cases hc0 : oi.cap = 0
              · rw [if_pos hc0]
              · rw [if_neg hc0]
                cases hg : oi.g with
                | none =>
                  rcases hcase with ⟨_, _, h0⟩ | ⟨g, cs, h0, _⟩
                  · exact absurd h0 hc0
                  · rw [hg] at h0; cases h0
                | some g => simp [Addr.add]
            unfold Oper.wp
            rw [hrun, Oper.upon_value]
            have hf := hst.fresh (w' := w) d (some k) hclean ⟨oi.g, z, b, oi.cap, none⟩ (.slc e z (rows.take b)) (Nat.le_refl _) (fun _ _ _ => rfl) hst.below (fun kk hkk => by injection hkk with hkk; subst hkk; exact hkp) (fun g hg => .inr ⟨k, oi, rfl, hoi, hg⟩) ?_
            · refine hK _ _ ⟨fun j => if j = d then some ⟨oi.g, z, b, oi.cap, none⟩ else if some k = some j then none else μ j, ?_⟩
              rw [hd]
              exact hf.put (some d) (c := .own d) (v := .slice (oi.g.map fun g => ⟨g, 0, none⟩) b oi.cap) (Rel.own (o := ⟨oi.g, z, b, oi.cap, none⟩) (by simp))
            · intro μ' hμ' hw
              have hget : ∀ (i : Nat) (r : List AV), (rows.take b)[i]? = some r → rows[i]? = some r := by
                intro i r hi
                rw [List.getElem?_take] at hi
                split at hi
                · exact hi
                · cases hi
              refine ⟨rfl, by simp; omega, fun i r hi => hlen i r (hget i r hi), by simp; omega, hmax, ?_⟩
              rcases hcase with ⟨g1, g2, g3⟩ | ⟨g, cs, g1, g2, g3, g4, g5⟩
              · exact .inl ⟨g1, by rw [g2]; simp, g3⟩
              · exact .inr ⟨g, cs, g1, g2, g3, g4, fun i r j c v hi hj hv => ⟨(g5 i r j c v (hget i r hi) hj hv).1.step hw, (g5 i r j c v (hget i r hi) hj hv).2⟩⟩
        · cases h
      · cases h
    · cases h
  · cases h
end Go.Proofs.YtdmkhinckljddaaGreat
namespace Go.Proofs.YtdmkhinckljddaaGreat
open Go.RowKit

theorem run_append_all {P : Program} (w : World) (B : Nat) (hBw : B ≤ w.heap.size) (t ty e : TypeId) (i : TypeInfo) (zv : Value) (z : Nat) (ht : P.underlying t = some (.slice e)) (hi : P.info? e = some i) (hz : i.zero = some zv) (hsz : i.size = z) (hzs : zv.cells.size = z)
    (og : Option Nat) (n cap : Nat) (xs : List Value) (hxl : xs.length = n * z) (hnc : n ≤ cap) (hcm : cap ≤ maxLen)
    (hs : (og = none ∧ n = 0 ∧ cap = 0) ∨ ∃ g cur, og = some g ∧ B ≤ g ∧ w.heap[g]? = some (.cells cur e (0, 0)) ∧ cur.size = cap * z ∧ cur.toList.take (n * z) = xs)
    (ox : Option Addr) (m c : Nat) (news : List Value) (hl : news.length = m * z) (h1 : ∀ u ∈ news, u.oneCell' = true) (hx : (ox = none ∧ m = 0) ∨ ∃ ad, ox = some ad ∧ ∀ j u, news[j]? = some u → w.cell? (ad.add j) = some u)
    (h63 : n + m ≤ 9223372036854775807) (hbytes : (n + m) * i.bytes ≤ 140737488355328) :
    ∃ w' og' cap', (Builtin.append_ #[t, t] ty #[.slice (og.map fun g => ⟨g, 0, none⟩) n cap, .slice ox m c]).run P w = .ok (.slice (og'.map fun g => ⟨g, 0, none⟩) (n + m) cap') w' ∧
      w.heap.size ≤ w'.heap.size ∧ (∀ b, b < w.heap.size → og ≠ some b → w'.heap[b]? = w.heap[b]?) ∧ Below B w w' ∧ (∀ g, og' = some g → w.heap.size ≤ g ∨ og = some g) ∧ n + m ≤ cap' ∧ cap' ≤ maxLen ∧
      ((og' = none ∧ n + m = 0 ∧ cap' = 0) ∨ ∃ g cs, og' = some g ∧ B ≤ g ∧ w'.heap[g]? = some (.cells cs e (0, 0)) ∧ cs.size = cap' * z ∧ ∀ q u, cs[q]? = some u → q < (n + m) * z → (xs ++ news)[q]? = some u) := by
  subst hsz
  rcases hx with ⟨rfl, rfl⟩ | ⟨ad, rfl, hnews⟩
  · have hn : news = [] := List.eq_nil_of_length_eq_zero (by simpa using hl)
    subst hn
    have hr : (Builtin.append_ #[t, t] ty #[.slice (og.map fun g => ⟨g, 0, none⟩) n cap, .slice none 0 c]).run P w = .ok (.slice (og.map fun g => ⟨g, 0, none⟩) n cap) w := by
      cases og <;> simp [Builtin.append_, run_underlying ht, sizeOf, typeInfo, hi, Builtin.lenOf, hnc, Builtin.firstCells, storeCells]
    refine ⟨w, og, cap, hr, Nat.le_refl _, fun _ _ _ => rfl, Below.refl _ _, fun g hg => .inr hg, hnc, hcm, ?_⟩
    rcases hs with ⟨h1, h2, h3⟩ | ⟨g, cur, h1, h2, h3, h4, h5⟩
    · exact .inl ⟨h1, h2, h3⟩
    · refine .inr ⟨g, cur, h1, h2, h3, h4, fun q u hq hlt => ?_⟩
      rw [List.append_nil, ← h5, List.getElem?_take, if_pos (by simpa using hlt)]; simpa using hq
  · have grown : ∀ old, old < n + m → (∀ b, b < w.heap.size → (w.drew.alloc (.cells (xs.toArray ++ news.toArray ++ Builtin.zeroCells zv.cells (grownCap w (n + m) old e - (n + m))) e)).heap[b]? = w.heap[b]?) ∧
        Below B w (w.drew.alloc (.cells (xs.toArray ++ news.toArray ++ Builtin.zeroCells zv.cells (grownCap w (n + m) old e - (n + m))) e)) ∧ n + m ≤ grownCap w (n + m) old e ∧ grownCap w (n + m) old e ≤ maxLen ∧
        ∃ cs, (w.drew.alloc (.cells (xs.toArray ++ news.toArray ++ Builtin.zeroCells zv.cells (grownCap w (n + m) old e - (n + m))) e)).heap[w.heap.size]? = some (.cells cs e (0, 0)) ∧ cs.size = grownCap w (n + m) old e * i.size ∧ ∀ q u, cs[q]? = some u → q < (n + m) * i.size → (xs ++ news)[q]? = some u := by
      intro old ho
      have hge := grownCap_ge w (n + m) old e
      have hcm : grownCap w (n + m) old e ≤ maxLen := grownCap_le_maxLen w (n + m) old e (by unfold maxLen; omega)
      refine ⟨fun b hb => Below.heap_alloc w.drew _ b hb, ((Below.refl _ _).drew).alloc hBw _, hge, hcm, _, heap_alloc_new w.drew _, ?_, fun q u hq hlt => ?_⟩
      · simp only [Array.size_append, List.size_toArray, size_zeroCells, hzs, hxl, hl, ← Nat.add_mul]
        congr 1; omega
      · have hq' : (xs.toArray ++ news.toArray)[q]? = some u := by
          rw [Array.getElem?_append_left (by simp [hxl, hl, ← Nat.add_mul]; exact hlt)] at hq; exact hq
        rw [List.append_toArray] at hq'
        simpa using hq'
    rcases hs with ⟨rfl, rfl, rfl⟩ | ⟨g, cur, rfl, hBg, hg, hcs, htake⟩
    · have hx0 : xs = [] := List.eq_nil_of_length_eq_zero (by simpa using hxl)
      subst hx0
      by_cases hm : m = 0
      · subst hm
        have hn : news = [] := List.eq_nil_of_length_eq_zero (by simpa using hl)
        subst hn
        refine ⟨w, none, 0, ?_, Nat.le_refl _, fun _ _ _ => rfl, Below.refl _ _, (fun g hg => by cases hg), Nat.le_refl _, hcm, .inl ⟨rfl, rfl, rfl⟩⟩
        simp [Builtin.append_, run_underlying ht, sizeOf, typeInfo, hi, Builtin.lenOf, Builtin.firstCells, loadCells, loadCellsFrom]
      · have hr := run_append_nil (P := P) w t ty e i zv ht hi hz ad m c news hl hnews (by omega) (by omega) (by have hb := hbytes; simp only [Nat.zero_add] at hb; omega)
        obtain ⟨g1, g2, g3, g4, cs, g5, g6, g7⟩ := grown 0 (by omega)
        simp only [Nat.zero_add, List.nil_append, Array.empty_append] at g1 g2 g3 g4 g5 g6 g7 ⊢
        exact ⟨_, some w.heap.size, _, hr, g2.size, fun b hb _ => g1 b hb, g2, fun g hg => by injection hg with hg; left; omega, g3, g4, .inr ⟨_, cs, rfl, hBw, g5, g6, g7⟩⟩
    · by_cases hroom : n + m ≤ cap
      · have hfit : n * i.size + news.length ≤ cur.size := by rw [hl, hcs, ← Nat.add_mul]; exact Nat.mul_le_mul_right _ hroom
        have hr := run_append_room (P := P) w t ty e i ht hi g n cap cur hg ad m c news hl hnews h1 hroom hfit
        refine ⟨_, some g, cap, hr, by simp [World.setRow], fun b _ hb => setRow_other w g b _ (fun e => hb (by rw [e])), below_setRow (Below.refl _ _) hBg _, fun g' hg' => .inr hg', hroom, hcm, .inr ⟨g, _, rfl, hBg, setRow_heap w g cur _ e _ hg, ?_, fun q u hq hlt => ?_⟩⟩
        · simp only [List.size_toArray, List.length_append, List.length_take, List.length_drop, Array.length_toList]; omega
        · rw [htake] at hq
          simp only [List.getElem?_toArray] at hq
          rwa [List.append_assoc, ← List.append_assoc, List.getElem?_append_left (by simp [hxl, hl, ← Nat.add_mul]; exact hlt)] at hq
      · have holds : ∀ j u, xs[j]? = some u → w.cell? ((⟨g, 0, none⟩ : Addr).add j) = some u := by
          intro j u hu
          rw [add_zero_none, Nat.zero_add]
          rw [← htake, List.getElem?_take] at hu
          split at hu
          · simp [World.cell?, hg]; simpa using hu
          · cases hu
        have hr := run_append_grow (P := P) w t ty e i zv ht hi hz ⟨g, 0, none⟩ n cap xs hxl holds ad m c news hl hnews (by omega) (by omega) (growslice_fits (by omega) hbytes)
        obtain ⟨g1, g2, g3, g4, cs, g5, g6, g7⟩ := grown cap (by omega)
        exact ⟨_, some w.heap.size, _, hr, g2.size, fun b hb _ => g1 b hb, g2, fun g hg => by injection hg with hg; left; omega, g3, g4, .inr ⟨_, cs, rfl, hBw, g5, g6, g7⟩⟩

/-- A slice as rows that can be read. -/
def rowsOf (env : Env) : AV → Option (Nat × List (List AV))
  | .sl z rows => some (z, rows)
  | .own k => match env k with
    | some (.slc _ z rows) => some (z, rows)
    | _ => none
  | _ => none
theorem rowsOf_ok {S : Ex} {w0 : Base} {w : World} {μ : Nat → Option OI} {σ : VS} {a : Act} {env : Env} (h : StM S w0 μ σ a w) (he : EnvOK env σ) {x : AV} {u : Value} {z : Nat} {rows : List (List AV)} (hr : Rel μ (XOf S μ) w x u) (hx : rowsOf env x = some (z, rows)) :
    ∃ (ox : Option Addr) (c : Nat) (news : List Value), u = .slice ox rows.length c ∧ rows.length ≤ c ∧ news.length = rows.length * z ∧ (∀ v ∈ news, v.oneCell' = true) ∧ (∀ (i : Nat) (r : List AV), rows[i]? = some r → r.length = z) ∧
      ((ox = none ∧ rows.length = 0 ∧ c = 0) ∨ ∃ ad, ox = some ad ∧ ∀ j v, news[j]? = some v → w.cell? (ad.add j) = some v) ∧
      ∀ (i : Nat) (r : List AV) (j : Nat) (c : AV) (v : Value), rows[i]? = some r → r[j]? = some c → news[i * z + j]? = some v → PRel (XOf S μ) w c v := by
  cases x with
  | sl z' rows' =>
    simp only [rowsOf, Option.some.injEq, Prod.mk.injEq] at hx
    obtain ⟨h1, h2⟩ := hx; subst h1 h2
    cases hr with
    | pure hp => cases hp with
      | @nil _ a cap hm h0 =>
        refine ⟨a, cap, [], rfl, by simp, by simp, by simp, by simp, ?_, by simp⟩
        cases a with
        | none => exact .inl ⟨rfl, rfl, h0 rfl⟩
        | some ad => exact .inr ⟨ad, rfl, by simp⟩
      | @sl _ _ b off cap cv hX hb hc hm hz h1 h2 h3 =>
        have hq : ∀ q, q < rows'.length * z' → ∃ r c, rows'[q / z']? = some r ∧ r[q % z']? = some c := by
          intro q hq
          have hz0 : 0 < z' := Nat.pos_of_ne_zero (by rintro rfl; simp at hq)
          have hlt : q / z' < rows'.length := by rw [Nat.div_lt_iff_lt_mul hz0]; exact hq
          have hr := List.getElem?_eq_getElem hlt
          have hlen := hz _ _ hr
          have hmod : q % z' < rows'[q / z'].length := by rw [hlen]; exact Nat.mod_lt _ hz0
          exact ⟨_, _, hr, List.getElem?_eq_getElem hmod⟩
        refine ⟨some ⟨b, off, none⟩, cap, (List.range (rows'.length * z')).map fun q => cv (q / z') (q % z'), rfl, hc, by simp, ?_, hz, .inr ⟨_, rfl, ?_⟩, ?_⟩
        · intro v hv
          rw [List.mem_map] at hv
          obtain ⟨q, hq', rfl⟩ := hv
          obtain ⟨r, c, hr, hc'⟩ := hq q (List.mem_range.1 hq')
          exact h3 _ _ _ _ hr hc'
        · intro j v hv
          rw [List.getElem?_map, Option.map_eq_some_iff] at hv
          obtain ⟨q, hq', rfl⟩ := hv
          obtain ⟨hlt, he'⟩ := List.getElem?_eq_some_iff.1 hq'
          simp only [List.getElem_range] at he'; subst he'
          simp only [List.length_range] at hlt
          obtain ⟨r, c, hr, hc'⟩ := hq j hlt
          have := h1 _ _ _ _ hr hc'
          rw [add_zero_none]
          rw [Nat.add_assoc, Nat.mul_comm, Nat.div_add_mod] at this; exact this
        · intro i r j c v hi hj hv
          rw [List.getElem?_map, Option.map_eq_some_iff] at hv
          obtain ⟨q, hq', rfl⟩ := hv
          obtain ⟨hlt, he'⟩ := List.getElem?_eq_some_iff.1 hq'
          simp only [List.getElem_range] at he'; subst he'
          have hjz : j < z' := by rw [← hz i r hi]; exact (List.getElem?_eq_some_iff.1 hj).1
          have hz0 : 0 < z' := by omega
          have e1 : (i * z' + j) / z' = i := by rw [Nat.mul_comm, Nat.mul_add_div hz0, Nat.div_eq_of_lt hjz, Nat.add_zero]
          have e2 : (i * z' + j) % z' = j := by rw [Nat.mul_comm, Nat.mul_add_mod]; exact Nat.mod_eq_of_lt hjz
          rw [e1, e2]; exact h2 _ _ _ _ hi hj
  | own k =>
    rw [rowsOf] at hx
    split at hx
    · rename_i e z' rows' hk
      simp only [Option.some.injEq, Prod.mk.injEq] at hx
      obtain ⟨h1, h2⟩ := hx; subst h1 h2
      obtain ⟨o, ho, hz, hn, hlen, hcap, hmax, hcase⟩ := h.blks k _ (he k _ hk)
      cases hr with
      | pure hp => cases hp
      | deadO _ hd => rw [ho] at hd; cases hd
      | own h1 =>
        rw [ho] at h1; injection h1 with h1; subst h1
        rcases hcase with ⟨hg, hr0, hc0⟩ | ⟨g, cs, hg, hB, hh, hs, hrel⟩
        · subst hr0
          exact ⟨none, 0, [], by rw [hg, hn, hc0]; rfl, by simp, by simp, by simp, by simp, .inl ⟨rfl, rfl, rfl⟩, by simp⟩
        · have hfit : rows'.length * z' ≤ cs.size := by rw [hs]; exact Nat.mul_le_mul_right _ hcap
          refine ⟨some ⟨g, 0, none⟩, o.cap, cs.toList.take (rows'.length * z'), by rw [hg, hn]; rfl, hcap, by simp; omega, ?_, hlen, .inr ⟨_, rfl, ?_⟩, ?_⟩
          · intro v hv
            obtain ⟨q, hq⟩ := List.getElem?_of_mem hv
            rw [List.getElem?_take] at hq
            split at hq
            · rename_i hlt
              have hz0 : 0 < z' := Nat.pos_of_ne_zero (by rintro rfl; simp at hlt)
              have hlt2 : q / z' < rows'.length := by rw [Nat.div_lt_iff_lt_mul hz0]; exact hlt
              have hr := List.getElem?_eq_getElem hlt2
              have hl := hlen _ _ hr
              have hmod : q % z' < rows'[q / z'].length := by rw [hl]; exact Nat.mod_lt _ hz0
              exact (hrel _ _ _ _ v hr (List.getElem?_eq_getElem hmod) (by rw [Nat.mul_comm, Nat.div_add_mod]; simpa using hq)).2
            · cases hq
          · intro j v hv
            rw [List.getElem?_take] at hv
            split at hv
            · rw [add_zero_none, Nat.zero_add]; simp [World.cell?, hh]; simpa using hv
            · cases hv
          · intro i r j c v hi hj hv
            rw [List.getElem?_take] at hv
            split at hv
            · exact (hrel _ _ _ _ v hi hj (by simpa using hv)).1
            · cases hv
    · cases hx
  | _ => simp [rowsOf] at hx
end Go.Proofs.YtdmkhinckljddaaGreat
namespace Go.Proofs.YtdmkhinckljddaaGreat
open Go.RowKit

def vAppend (P : Program) (s x : Operand) (t t' : TypeId) (dst : Option Tmp) (ρ : Operand → AV) (env : Env) (π : List PI) : Option (Eff × List PI) := match dst with
  | some d => if t == t' then match elemOfSl P t with
    | some (e, z) => match P.info? e with
      | some i => match i.zero with
        | some zv => if zv.cells.size == z then match rowsOf env (ρ x) with
          | some (z2, r2) => if z2 == z then match ρ s with
            | .own k => match env k with
              | some (.slc e' z' rows) => if e' == e && z' == z && Nat.blt k pinB then some ({ ob := [(rows.length + r2.length) * i.bytes ≤ 140737488355328, rows.length + r2.length ≤ 9223372036854775807], v := .own d, new := some (.slc e z (rows ++ r2)), kill := some k }, π) else none
              | _ => none
            | .lit (.slice none 0 0) => some ({ ob := [r2.length * i.bytes ≤ 140737488355328, r2.length ≤ 9223372036854775807], v := .own d, new := some (.slc e z r2) }, π)
            | _ => none
            else none
          | none => none
          else none
        | none => none
      | none => none
    | none => none
    else none
  | none => none

theorem append_core {P : Program} {o : Oper} {s x : Operand} {t : TypeId} {σ : VS} {env : Env} (ho : o.op = .call { callee := .builtin .append, args := #[s, x], argTypes := #[t, t] }) (he : EnvOK env σ) {d : Nat} (hd : o.dst = some d) {e : TypeId} {z : Nat} {i : TypeInfo} {zv : Value}
    (hu : P.underlying t = some (.slice e)) (hi : P.info? e = some i) (hz : i.zero = some zv) (hisz : i.size = z) (hzs : zv.cells.size = z) {r2 rows : List (List AV)} (hx : rowsOf env (evV σ.t x) = some (z, r2)) {kk : Option Nat} {ob : List Prop}
    (hkp : ∀ k, kk = some k → k < pinB) (hs : (kk = none ∧ evV σ.t s = .lit (.slice none 0 0) ∧ rows = []) ∨ ∃ k, kk = some k ∧ evV σ.t s = .own k ∧ env k = some (.slc e z rows)) (hb : (rows.length + r2.length) * i.bytes ≤ 140737488355328) (h63 : rows.length + r2.length ≤ 9223372036854775807) :
    OpS P o σ { ob := ob, v := .own d, new := some (.slc e z (rows ++ r2)), kill := kk } := by
  intro S w0 μ ac w hst hcl K Q hK
  obtain ⟨d', hd', hclean⟩ := hcl rfl
  rw [hd] at hd'; injection hd' with hd'; subst hd'
  obtain ⟨ox, c2, news, ex, hc2, hnl, hn1, hrl2, hcase2, hrel2⟩ := rowsOf_ok hst he (hst.eval x) hx
  have first : ∃ (og : Option Nat) (cap : Nat) (xs : List Value), ac.eval s = .slice (og.map fun g => ⟨g, 0, none⟩) rows.length cap ∧ xs.length = rows.length * z ∧ rows.length ≤ cap ∧ cap ≤ maxLen ∧
      (∀ (i : Nat) (r : List AV), rows[i]? = some r → r.length = z) ∧ (∀ b, og = some b → ∃ k ok, kk = some k ∧ μ k = some ok ∧ ok.g = some b) ∧
      ((og = none ∧ rows.length = 0 ∧ cap = 0) ∨ ∃ g cur, og = some g ∧ w0.mine g ∧ w.heap[g]? = some (.cells cur e (0, 0)) ∧ cur.size = cap * z ∧ cur.toList.take (rows.length * z) = xs) ∧
      ∀ (i : Nat) (r : List AV) (j : Nat) (c : AV) (v : Value), rows[i]? = some r → r[j]? = some c → xs[i * z + j]? = some v → PRel (XOf S μ) w c v ∧ v.oneCell' = true := by
    rcases hs with ⟨hk0, hs, hr0⟩ | ⟨k, hk0, hs, hk⟩
    · have es := hst.eval s; rw [hs] at es; have es := rel_lit es
      subst hr0
      exact ⟨none, 0, [], es, by simp, by simp, by unfold maxLen; omega, by simp, by simp, .inl ⟨rfl, rfl, rfl⟩, by simp⟩
    · obtain ⟨oi, hoi, hz', hn, hlen, hcap, hmax, hcase⟩ := hst.blks k _ (he k _ hk)
      have es := hst.eval s; rw [hs] at es
      generalize hsv : ac.eval s = sv at es
      cases es with
      | pure hp => cases hp
      | deadO _ hd => rw [hoi] at hd; cases hd
      | own h1 =>
        rw [hoi] at h1; injection h1 with h1; subst h1
        rcases hcase with ⟨hg, hr0, hc0⟩ | ⟨g, cs, hg, hB, hh, hsz, hrel⟩
        · subst hr0
          exact ⟨none, 0, [], by rw [hg, hn, hc0], by simp, by simp, by unfold maxLen; omega, by simp, by simp, .inl ⟨rfl, rfl, rfl⟩, by simp⟩
        · have hfit : rows.length * z ≤ cs.size := by rw [hsz]; exact Nat.mul_le_mul_right _ hcap
          refine ⟨some g, oi.cap, cs.toList.take (rows.length * z), by rw [hg, hn], by simp; omega, hcap, hmax, hlen, fun b hb => ⟨k, oi, hk0, hoi, by rw [hg]; exact hb⟩, .inr ⟨g, cs, rfl, hB, hh, hsz, rfl⟩, fun i r j c v hi hj hv => ?_⟩
          rw [List.getElem?_take] at hv
          split at hv
          · exact hrel _ _ _ _ v hi hj (by simpa using hv)
          · cases hv
  obtain ⟨og, cap, xs, es, hxl, hnc, hcm, hlen1, hog, hcase1, hrel1⟩ := first
  obtain ⟨w', og', cap', hr, hsz, hbl, hbel, hg', hnc', hcm', hcase'⟩ := run_append_all (P := P) w 0 (Nat.zero_le _) t o.type e i zv z hu hi hz hisz hzs og rows.length cap xs hxl hnc hcm (hcase1.imp id fun ⟨g, cur, a, _, b⟩ => ⟨g, cur, a, Nat.zero_le _, b⟩) ox r2.length c2 news hnl hn1
    (by rcases hcase2 with ⟨h1, h2, _⟩ | h; exact .inl ⟨h1, h2⟩; exact .inr h) h63 hb
  unfold Oper.wp execOp
  simp only [ho, resolve, invoke, builtin, Sem.run_bind, Sem.run_pure, Result.andThen_ok, List.map_toArray, List.map_cons, List.map_nil, es, ex, hr]
  have hf := hst.fresh (w' := w') d kk hclean ⟨og', z, rows.length + r2.length, cap', none⟩ (.slc e z (rows ++ r2)) hsz ?_ (hst.below.upd hbel fun b hlt hm => hbl b hlt fun hob => by obtain ⟨k, ok, h1, h2, h3⟩ := hog b hob; exact hm (hst.lt h2 (.inl h3)).1) hkp ?_ ?_
  · refine hK _ _ ⟨fun j => if j = d then some ⟨og', z, rows.length + r2.length, cap', none⟩ else if kk = some j then none else μ j, ?_⟩
    rw [hd]
    have hput := hf.put (some d) (c := .own d) (v := .slice (og'.map fun g => ⟨g, 0, none⟩) (rows.length + r2.length) cap') (Rel.own (o := ⟨og', z, rows.length + r2.length, cap', none⟩) (by simp))
    cases kk with
    | none => exact hput
    | some k => exact hput
  · intro b hb hne
    refine hbl b hb fun hob => ?_
    obtain ⟨k, ok, h1, h2, h3⟩ := hog b hob
    exact hne k ok h1 h2 h3
  · intro g hg
    rcases hg' g hg with h | h
    · exact .inl h
    · obtain ⟨k, ok, h1, h2, h3⟩ := hog g h; exact .inr ⟨k, ok, h1, h2, h3⟩
  · intro μ' hμ' hw
    refine ⟨rfl, by simp, fun i r hi => ?_, by simpa using hnc', hcm', ?_⟩
    · rw [List.getElem?_append] at hi
      split at hi
      · exact hlen1 i r hi
      · exact hrl2 _ r hi
    · rcases hcase' with ⟨h1, h2, h3⟩ | ⟨g, cs, h1, h2, h3, h4, h5⟩
      · refine .inl ⟨h1, ?_, h3⟩
        have e1 : rows = [] := List.eq_nil_of_length_eq_zero (by omega)
        have e2 : r2 = [] := List.eq_nil_of_length_eq_zero (by omega)
        rw [e1, e2]; rfl
      · have hmine : w0.mine g := by
          rcases hg' g h1 with h | h
          · exact .inl (Nat.le_trans hst.below.size h)
          · obtain ⟨k, ok, q1, q2, q3⟩ := hog g h; exact (hst.lt q2 (.inl q3)).1
        refine .inr ⟨g, cs, h1, hmine, h3, h4, fun i r j c v hi hj hv => ?_⟩
        have hjz : j < z := by
          have hl : r.length = z := by
            rw [List.getElem?_append] at hi
            split at hi
            · exact hlen1 i r hi
            · exact hrl2 _ r hi
          rw [← hl]; exact (List.getElem?_eq_some_iff.1 hj).1
        have hil : i < rows.length + r2.length := by have := (List.getElem?_eq_some_iff.1 hi).1; simpa using this
        have hlt : i * z + j < (rows.length + r2.length) * z := by
          have : (i + 1) * z ≤ (rows.length + r2.length) * z := Nat.mul_le_mul_right _ hil
          rw [Nat.add_mul] at this; omega
        have hv' := h5 _ _ hv hlt
        rw [List.getElem?_append] at hi
        split at hi
        · rename_i hir
          have hlt' : i * z + j < xs.length := by
            rw [hxl]
            have : (i + 1) * z ≤ rows.length * z := Nat.mul_le_mul_right _ hir
            rw [Nat.add_mul] at this; omega
          rw [List.getElem?_append_left hlt'] at hv'
          exact ⟨(hrel1 _ _ _ _ v hi hj hv').1.step hw, (hrel1 _ _ _ _ v hi hj hv').2⟩
        · rename_i hir
          have hge : xs.length ≤ i * z + j := by
            rw [hxl]
            have : rows.length * z ≤ i * z := Nat.mul_le_mul_right _ (by omega)
            omega
          rw [List.getElem?_append_right hge] at hv'
          have : i * z + j - xs.length = (i - rows.length) * z + j := by rw [hxl, Nat.sub_mul]; have : rows.length * z ≤ i * z := Nat.mul_le_mul_right _ (by omega); omega
          rw [this] at hv'
          exact ⟨(hrel2 _ _ _ _ v hi hj hv').step hw, hn1 v (List.mem_of_getElem? hv')⟩

theorem vAppend_ok {P : Program} {o : Oper} {s x : Operand} {t t' : TypeId} {σ : VS} {env : Env} {π π' : List PI} {E : Eff} (ho : o.op = .call { callee := .builtin .append, args := #[s, x], argTypes := #[t, t'] }) (he : EnvOK env σ)
    (h : vAppend P s x t t' o.dst (evV σ.t) env π = some (E, π')) (hob : All E.ob) : OpS P o σ E := by
  unfold vAppend at h
  split at h
  · rename_i d hd
    split at h
    · rename_i htt
      have htt : t = t' := by simpa using htt
      subst htt
      split at h
      · rename_i e z hel
        obtain ⟨hu, hsz⟩ := elemOfSl_ok hel
        split at h
        · rename_i i hi
          have hisz : i.size = z := by unfold szP at hsz; rw [hi] at hsz; simpa using hsz
          split at h
          · rename_i zv hz
            split at h
            · rename_i hzs
              have hzs : zv.cells.size = z := by simpa using hzs
              split at h
              · rename_i z2 r2 hx
                split at h
                · rename_i hz2
                  have hz2 : z2 = z := by simpa using hz2
                  subst hz2
                  split at h
                  · rename_i k hs
                    split at h
                    · rename_i e' z' rows hk
                      split at h
                      · rename_i hc
                        simp only [Bool.and_eq_true, beq_iff_eq] at hc
                        obtain ⟨⟨rfl, rfl⟩, hkb⟩ := hc
                        injection h with h; injection h with h1 h2; subst h1
                        obtain ⟨hb, h63, _⟩ := hob
                        exact append_core ho he hd hu hi hz hisz hzs hx (fun k' hk' => by injection hk' with hk'; subst hk'; rwa [Nat.blt_eq] at hkb) (.inr ⟨k, rfl, hs, hk⟩) hb h63
                      · cases h
                    · cases h
                  · rename_i hs
                    injection h with h; injection h with h1 h2; subst h1
                    obtain ⟨hb, h63, _⟩ := hob
                    have := append_core (rows := []) (kk := none) (ob := [r2.length * i.bytes ≤ 140737488355328, r2.length ≤ 9223372036854775807]) ho he hd hu hi hz hisz hzs hx (fun _ h => by cases h) (.inl ⟨rfl, hs, rfl⟩) (by simpa using hb) (by simpa using h63)
                    simpa using this
                  · cases h
                · cases h
              · cases h
            · cases h
          · cases h
        · cases h
      · cases h
    · cases h
  · cases h

def vLen (P : Program) (o : Oper) (x : Operand) (t : TypeId) (ρ : Operand → AV) (env : Env) (π : List PI) : Option (Eff × List PI) := match rowsOf env (ρ x) with
  | some (_, rows) => match P.underlying t with
    | some (.slice _) => some ({ v := .lit (.int .i64 rows.length) }, π)
    | _ => none
  | none => vPure P o ρ π
theorem vLen_ok {P : Program} {o : Oper} {x : Operand} {t : TypeId} {σ : VS} {env : Env} {π π' : List PI} {E : Eff} (ho : o.op = .call { callee := .builtin .len, args := #[x], argTypes := #[t] }) (he : EnvOK env σ)
    (h : vLen P o x t (evV σ.t) env π = some (E, π')) : OpS P o σ E := by
  unfold vLen at h
  split at h
  · rename_i z rows hx
    split at h
    · rename_i e hu
      injection h with h; injection h with h1 h2; subst h1
      refine opS_val fun S w0 μ ac w hst => ?_
      obtain ⟨ox, c, news, ex, _⟩ := rowsOf_ok hst he (hst.eval x) hx
      refine ⟨.int .i64 rows.length, ?_, .pure (.lit _)⟩
      simp [execOp, ho, resolve, invoke, builtin, ex, Builtin.len_, run_underlying hu, goInt]
    · cases h
  · exact vPure_ok h

def vFunc (fn : Fn) (first captured : Array Operand) (ρ : Operand → AV) (π : List PI) : Option (Eff × List PI) := match fn, first.toList.map ρ with
  | .func f, [] => some ({ v := .clo f (captured.toList.map ρ) }, π)
  | .func f, [a] => match captured.toList with
    | [] => some ({ v := .bnd f a }, π)
    | _ => none
  | .method n, [a] => match captured.toList with
    | [] => some ({ v := .mth n a }, π)
    | _ => none
  | _, _ => none
theorem vFunc_ok {P : Program} {o : Oper} {fn : Fn} {first captured : Array Operand} {σ : VS} {π π' : List PI} {E : Eff} (ho : o.op = .makeFunc fn first captured) (h : vFunc fn first captured (evV σ.t) π = some (E, π')) : OpS P o σ E := by
  unfold vFunc at h
  split at h
  · rename_i f hf
    have hf : first = #[] := by simpa using hf
    subst hf
    injection h with h; injection h with h1 h2; subst h1
    refine opS_val fun S w0 μ ac w hst => ⟨.func (.func f) #[] (captured.map ac.eval), by simp [execOp, ho, Instr.makeFunc], ?_⟩
    have : captured.map ac.eval = (captured.toList.map ac.eval).toArray := by rw [← Array.toList_map]
    rw [this]
    refine .clo (by simp) fun i c v hc hv => ?_
    rw [List.getElem?_map, Option.map_eq_some_iff] at hc hv
    obtain ⟨x, hx, rfl⟩ := hc
    obtain ⟨x', hx', rfl⟩ := hv
    rw [hx] at hx'; injection hx' with hx'; subst hx'
    exact hst.eval x
  · rename_i n a hf
    split at h
    · rename_i hc
      injection h with h; injection h with h1 h2; subst h1
      obtain ⟨x, hx, ha⟩ : ∃ x, first.toList = [x] ∧ evV σ.t x = a := by
        cases hl : first.toList with
        | nil => rw [hl] at hf; cases hf
        | cons x l =>
          rw [hl] at hf
          cases l with
          | nil => exact ⟨x, rfl, by simpa using hf⟩
          | cons y l => simp at hf
      have hx : first = #[x] := by
        have := congrArg List.toArray hx
        simpa using this
      have hc : captured = #[] := by simpa using hc
      subst hx hc ha
      exact opS_val fun S w0 μ ac w hst => ⟨.func (.func n) #[ac.eval x] #[], by simp [execOp, ho, Instr.makeFunc], .bnd (hst.eval x)⟩
    · cases h
  · rename_i n a hf
    split at h
    · rename_i hc
      injection h with h; injection h with h1 h2; subst h1
      obtain ⟨x, hx, ha⟩ : ∃ x, first.toList = [x] ∧ evV σ.t x = a := by
        cases hl : first.toList with
        | nil => rw [hl] at hf; cases hf
        | cons x l =>
          rw [hl] at hf
          cases l with
          | nil => exact ⟨x, rfl, by simpa using hf⟩
          | cons y l => simp at hf
      have hx : first = #[x] := by
        have := congrArg List.toArray hx
        simpa using this
      have hc : captured = #[] := by simpa using hc
      subst hx hc ha
      exact opS_val fun S w0 μ ac w hst => ⟨.func (.method n) #[ac.eval x] #[], by simp [execOp, ho, Instr.makeFunc], .mth (hst.eval x)⟩
    · cases h
  · cases h
end Go.Proofs.YtdmkhinckljddaaGreat
namespace Go.Proofs.YtdmkhinckljddaaGreat
open Go.RowKit

/-! ### Maps from whole numbers to whole numbers -/
def mes : List (Int × Int) → Nat → List MapEntry
  | [], _ => []
  | (k, v) :: l, c => ⟨.int .i64 k, .int .i64 v, c⟩ :: mes l (c + 1)
/-- A map, its entries as they came. -/
def mobj (l : List (Int × Int)) : Obj := .map (mes l 0).toArray l.length
def findI : List (Int × Int) → Int → Option (Nat × Int)
  | [], _ => none
  | (k, v) :: l, n => if n == k then some (0, v) else match findI l n with
    | some (j, v) => some (j + 1, v)
    | none => none
def lookI (l : List (Int × Int)) (n : Int) : Int := match findI l n with
  | some (_, v) => v
  | none => 0
def putI : List (Int × Int) → Int → Int → List (Int × Int)
  | [], n, x => [(n, x)]
  | (k, v) :: l, n, x => if n == k then (n, x) :: l else (k, v) :: putI l n x
theorem findNow_mes (n : Int) : ∀ (l : List (Int × Int)) (c i : Nat), Instr.findNow (.int .i64) (.int .i64 n) (mes l c) i = some (match findI l n with | some (j, v) => some (i + j, .int .i64 v) | none => none)
  | [], _, _ => rfl
  | (k, v) :: l, c, i => by
    have hs : Instr.sameNow (.int .i64) (.int .i64 n) (.int .i64 k) = some (n == k) := by simp [Instr.sameNow]
    rw [mes, Instr.findNow, hs, findI]
    cases h : n == k with
    | true => simp
    | false =>
      simp only [findNow_mes n l (c + 1) (i + 1), Bool.false_eq_true, if_false]
      cases findI l n with
      | none => rfl
      | some q => obtain ⟨j, u⟩ := q; simp only [Option.some.injEq, Prod.mk.injEq, and_true]; omega
theorem mes_put_none {n : Int} (x : Int) : ∀ {l : List (Int × Int)} (c : Nat), findI l n = none → mes (putI l n x) c = mes l c ++ [⟨.int .i64 n, .int .i64 x, c + l.length⟩] ∧ (putI l n x).length = l.length + 1
  | [], _, _ => ⟨rfl, rfl⟩
  | (k, v) :: l, c, h => by
    rw [findI] at h
    split at h
    · cases h
    · rename_i hk
      have h0 : findI l n = none := by
        split at h
        · cases h
        · assumption
      obtain ⟨e1, e2⟩ := mes_put_none x (c + 1) h0
      rw [putI, if_neg hk]
      refine ⟨?_, by simp [e2]⟩
      rw [mes, e1, mes, List.cons_append, List.length_cons]
      congr 4; omega
theorem mes_put_some {n : Int} (x : Int) : ∀ {l : List (Int × Int)} (c : Nat) {j : Nat} {v : Int}, findI l n = some (j, v) → mes (putI l n x) c = (mes l c).modify j (fun e => { e with key := .int .i64 n, val := .int .i64 x }) ∧ (putI l n x).length = l.length ∧ (∃ e, (mes l c)[j]? = some e ∧ e.key = .int .i64 n)
  | [], _, _, _, h => by cases h
  | (k, v) :: l, c, j, u, h => by
    rw [findI] at h
    split at h
    · rename_i hk
      injection h with h; injection h with h1 h2; subst h1
      rw [putI, if_pos hk]
      refine ⟨rfl, rfl, _, rfl, ?_⟩
      have : n = k := by simpa using hk
      rw [this]
    · rename_i hk
      split at h
      · rename_i j' u' h0
        injection h with h; injection h with h1 h2; subst h1
        obtain ⟨e1, e2, e, e3, e4⟩ := mes_put_some x (c + 1) h0
        rw [putI, if_neg hk]
        exact ⟨by rw [mes, e1, mes]; rfl, by simp [e2], e, by rw [mes]; simpa using e3, e4⟩
      · cases h
def isIntT (P : Program) (t : TypeId) : Bool := match P.underlying t with
  | some (.int .i64) => true
  | _ => false
theorem isIntT_eq {P : Program} {t : TypeId} (h : isIntT P t = true) : P.underlying t = some (.int .i64) := by
  unfold isIntT at h; split at h
  · assumption
  · cases h
/-- The type is that of such maps. -/
def isMapT (P : Program) (t : TypeId) : Bool := match P.underlying t with
  | some (.map k e) => isIntT P k && isIntT P e && (match pureVal P (zeroValue e) with | some (.int .i64 z) => z == 0 | _ => false)
  | _ => false
theorem isMapT_eq {P : Program} {t : TypeId} (h : isMapT P t = true) : ∃ k e, P.underlying t = some (.map k e) ∧ P.underlying k = some (.int .i64) ∧ pureVal P (zeroValue e) = some (.int .i64 0) := by
  unfold isMapT at h
  split at h
  · rename_i k e hu
    simp only [Bool.and_eq_true] at h
    obtain ⟨⟨h1, _⟩, h3⟩ := h
    split at h3
    · rename_i z hz
      have : z = 0 := by simpa using h3
      subst this
      exact ⟨k, e, hu, isIntT_eq h1, hz⟩
    · cases h3
  · cases h
def vMakeMap (r : Option Operand) (dst : Option Tmp) (π : List PI) : Option (Eff × List PI) := match dst, r with
  | some d, none => some ({ v := .mp d, new := some (.obj (mobj [])) }, π)
  | _, _ => none
theorem vMakeMap_ok {P : Program} {o : Oper} {t : TypeId} {r : Option Operand} {σ : VS} {π π' : List PI} {E : Eff} (ho : o.op = .makeMap t r) (h : vMakeMap r o.dst π = some (E, π')) : OpS P o σ E := by
  unfold vMakeMap at h
  split at h
  · rename_i d hd
    injection h with h; injection h with h1 h2; subst h1
    refine opS_newObj hd fun S w0 μ a w hst => ?_
    simp [execOp, ho, Instr.makeMap, newObj, Sem.run, mobj, mes]
  · cases h
def vLookup (P : Program) (t : TypeId) (x ix : Operand) (ok : Bool) (ρ : Operand → AV) (env : Env) (π : List PI) : Option (Eff × List PI) := match ok, isMapT P t, ρ x, ρ ix with
  | false, true, .mp k, .lit (.int .i64 n) => match env k, π with
    | some (.obj o), .mapl l :: π' => some ({ ob := [o = mobj l], v := .lit (.int .i64 (lookI l n)) }, π')
    | _, _ => none
  | _, _, _, _ => none
theorem mp_eval {S : Ex} {w0 : Base} {w : World} {μ : Nat → Option OI} {σ : VS} {a : Act} {env : Env} (h : StM S w0 μ σ a w) (he : EnvOK env σ) {k : Nat} {u : Value} {x : Obj} (hr : Rel μ (XOf S μ) w (.mp k) u) (hk : env k = some (.obj x)) :
    ∃ o g, μ k = some o ∧ o.g = some g ∧ w0.mine g ∧ u = .map (some g) ∧ w.heap[g]? = some x := by
  obtain ⟨o, ho, g, hg, hm, hh⟩ := h.blks k _ (he k _ hk)
  cases hr with
  | pure hp => cases hp
  | mp h1 h2 =>
    rw [ho] at h1; injection h1 with h1; subst h1
    rw [hg] at h2; injection h2 with h2; subst h2
    exact ⟨o, g, ho, hg, hm, rfl, hh⟩
  | deadM _ hn => rw [ho] at hn; cases hn
theorem vLookup_ok {P : Program} {o : Oper} {t : TypeId} {x ix : Operand} {ok : Bool} {σ : VS} {env : Env} {π π' : List PI} {E : Eff} (ho : o.op = .lookup t x ix ok) (he : EnvOK env σ) (h : vLookup P t x ix ok (evV σ.t) env π = some (E, π')) (hob : All E.ob) : OpS P o σ E := by
  unfold vLookup at h
  split at h
  · rename_i k n hm hx hix
    split at h
    · rename_i ob l π2 hk
      injection h with h; injection h with h1 h2; subst h1
      obtain ⟨h1, _⟩ := hob
      subst h1
      obtain ⟨kt, e, hu, hkt, hz⟩ := isMapT_eq hm
      refine opS_val fun S w0 μ ac w hst => ⟨.int .i64 (lookI l n), ?_, .pure (.lit _)⟩
      obtain ⟨oi, g, _, _, _, hv, hh⟩ := mp_eval hst he (by have := hst.eval x; rw [hx] at this; exact this) hk
      have hi := hst.eval ix; rw [hix] at hi
      have hi := rel_lit hi
      have hfind := MapKept.run_findKey (P := P) (w := w) (kt := kt) hkt (findNow_mes n l 0 0)
      have hck : ∀ em m, (Instr.checkKey em (m + 1) kt (.int .i64 n)).run P w = .ok () w := fun em m => MapKept.run_checkKey hkt (k := .int .i64 n) rfl em m
      have hz' := pureVal_run w hz
      simp only [execOp, ho, hv, hi, Instr.lookup, Sem.run_bind, run_underlying hu, Result.andThen_ok, MapKept.run_getObj_map (show w.heap[g]? = some (.map (mes l 0).toArray l.length) from hh)]
      simp only [Sem.run_pure, Result.andThen_ok, hck _ 9999, hfind]
      unfold lookI
      cases hf : findI l n with
      | none => simp [Sem.run_bind, hz']
      | some q => obtain ⟨j, u⟩ := q; simp
    · cases h
  · cases h
def vMapUpdate (P : Program) (t : TypeId) (x ix y : Operand) (ρ : Operand → AV) (env : Env) (π : List PI) : Option (Eff × List PI) := match isMapT P t, ρ x, ρ ix, ρ y with
  | true, .mp k, .lit (.int .i64 n), .lit (.int .i64 v) => match env k, π with
    | some (.obj o), .mapl l :: π' => some ({ ob := [o = mobj l], v := .any, upd := some (k, .obj (mobj (putI l n v))) }, π')
    | _, _ => none
  | _, _, _, _ => none
theorem vMapUpdate_ok {P : Program} {o : Oper} {t : TypeId} {x ix y : Operand} {σ : VS} {env : Env} {π π' : List PI} {E : Eff} (ho : o.op = .mapUpdate t x ix y ∨ o.op = .insert t x ix y) (he : EnvOK env σ) (h : vMapUpdate P t x ix y (evV σ.t) env π = some (E, π')) (hob : All E.ob) : OpS P o σ E := by
  unfold vMapUpdate at h
  split at h
  · rename_i k n v hm hx hix hy
    split at h
    · rename_i ob l π2 hk
      injection h with h; injection h with h1 h2; subst h1
      obtain ⟨h1, _⟩ := hob
      subst h1
      obtain ⟨kt, e, hu, hkt, hz⟩ := isMapT_eq hm
      intro S w0 μ ac w hst _ K Q hK
      obtain ⟨oi, g, hoi, hg, hmine, hv, hh⟩ := mp_eval hst he (by have := hst.eval x; rw [hx] at this; exact this) hk
      have hi := hst.eval ix; rw [hix] at hi
      have hi := rel_lit hi
      have hyv := hst.eval y; rw [hy] at hyv
      have hyv := rel_lit hyv
      have hh' : w.heap[g]? = some (.map (mes l 0).toArray l.length) := hh
      have hfind := MapKept.run_findKey (P := P) (w := w) (kt := kt) hkt (findNow_mes n l 0 0)
      have hck : ∀ em m, (Instr.checkKey em (m + 1) kt (.int .i64 n)).run P w = .ok () w := fun em m => MapKept.run_checkKey hkt (k := .int .i64 n) rfl em m
      have hrun : (Instr.mapUpdate t (.map (some g)) (.int .i64 n) (.int .i64 v)).run P w = .ok () { w with heap := w.heap.setIfInBounds g (mobj (putI l n v)) } := by
        simp only [Instr.mapUpdate, Sem.run_bind, run_underlying hu, Result.andThen_ok, MapKept.run_getObj_map hh', hck _ 9999, hfind]
        cases hf : findI l n with
        | none =>
          obtain ⟨e1, e2⟩ := mes_put_none v 0 hf
          have : mobj (putI l n v) = .map ((mes l 0).toArray.push ⟨.int .i64 n, .int .i64 v, l.length⟩) (l.length + 1) := by
            simp [mobj, e1, e2]
          rw [this]
          exact MapKept.run_setObj_map _ hh'
        | some q =>
          obtain ⟨j, u⟩ := q
          obtain ⟨e1, e2, en, e3, e4⟩ := mes_put_some v 0 hf
          have h0 : (mes l 0).toArray[0 + j]? = some en := by simpa using e3
          have hks : (Instr.keyThatStays en.key (.int .i64 n)).run P w = .ok (.int .i64 n) w := by
            rw [e4]
            have : Instr.sameBits 10000 (.int .i64 n) (.int .i64 n) = true := by simp [Instr.sameBits]
            simp [Instr.keyThatStays, this]
          have : mobj (putI l n v) = .map ((mes l 0).toArray.modify (0 + j) (fun e => { e with key := .int .i64 n, val := .int .i64 v })) l.length := by
            simp [mobj, e1, e2]
          rw [this]
          simp only [h0, Option.map_some, Option.getD_some, Sem.run_bind, hks, Result.andThen_ok]
          exact MapKept.run_setObj_map _ hh'
      unfold Oper.wp
      have hex : (execOp ac.eval o).run P w = .ok .skip { w with heap := w.heap.setIfInBounds g (mobj (putI l n v)) } := by
        rcases ho with ho | ho <;> simp only [execOp, ho, hv, hi, hyv, Sem.run_bind, hrun, Result.andThen_ok, Sem.run_pure]
      rw [hex]
      show Oper.upon _ _ _ _ _ _
      rw [Oper.upon_skip]
      refine hK _ _ ⟨μ, ?_⟩
      refine StM.put (σ := ⟨σ.t, put1 k (.obj (mobj (putI l n v))) σ.o⟩) ?_ o.dst (.any _)
      have hlt : g < w.heap.size := (Array.getElem?_eq_some_iff.1 hh).1
      have hb0 : Below 0 w { w with heap := w.heap.setIfInBounds g (mobj (putI l n v)) } := ⟨rfl, rfl, rfl, by simp, fun k hk => absurd hk (Nat.not_lt_zero _)⟩
      have hne : ∀ b, b ≠ g → ({ w with heap := w.heap.setIfInBounds g (mobj (putI l n v)) } : World).heap[b]? = w.heap[b]? := fun b hb => by
        simp only [Array.getElem?_setIfInBounds]; rw [if_neg (Ne.symm hb)]
      refine hst.write k oi g hoi hg _ (by simp) hne (hst.below.upd hb0 fun b _ hbm => hne b (by rintro rfl; exact hbm hmine)) fun hw => ⟨g, hg, hmine, ?_⟩
      simp only [Array.getElem?_setIfInBounds, if_true, if_pos hlt]
    · cases h
  · cases h

/-! ### Bytes as a string -/
def isStrT (P : Program) (s d : TypeId) : Bool := match P.underlying s, P.underlying d with
  | some (.slice e), some .string => match P.underlying e with
    | some (.int .u8) => true
    | _ => false
  | _, _ => false
def vConvB (P : Program) (s d : TypeId) (rows : List (List AV)) (z : Nat) (π : List PI) : Option (Eff × List PI) := match isStrT P s d, z, π with
  | true, 1, .il l :: π' => some ({ ob := [rows = l.map fun n => [.lit (.int .u8 n)]], v := .lit (.string (strOfNums l)) }, π')
  | _, _, _ => none
theorem vConvB_ok {P : Program} {o : Oper} {s d : TypeId} {x : Operand} {σ : VS} {env : Env} {rows : List (List AV)} {z : Nat} {π π' : List PI} {E : Eff} (ho : o.op = .convert s d x) (he : EnvOK env σ) (hx : rowsOf env (evV σ.t x) = some (z, rows)) (h : vConvB P s d rows z π = some (E, π')) (hob : All E.ob) : OpS P o σ E := by
  unfold vConvB at h
  split at h
  · rename_i l π2 hs
    injection h with h; injection h with h1 h2; subst h1
    obtain ⟨hrows, _⟩ := hob
    subst hrows
    unfold isStrT at hs
    split at hs
    · rename_i e hs1 hd
      split at hs
      · rename_i he1
        refine opS_val fun S w0 μ ac w hst => ⟨.string (strOfNums l), ?_, .pure (.lit _)⟩
        obtain ⟨ox, c, news, ex, hc, hlen, _, _, hcase, hrel⟩ := rowsOf_ok hst he (hst.eval x) hx
        have hnews : news = l.map (Value.int .u8) := by
          apply List.ext_getElem?
          intro i
          by_cases hi : i < l.length
          · have hi2 : i < news.length := by rw [hlen]; simpa using hi
            have hv := hrel i [.lit (.int .u8 l[i])] 0 (.lit (.int .u8 l[i])) news[i] (by rw [List.getElem?_map, List.getElem?_eq_getElem hi]; rfl) rfl (by rw [Nat.mul_one, Nat.add_zero]; exact List.getElem?_eq_getElem hi2)
            rw [List.getElem?_eq_getElem hi2, List.getElem?_map, List.getElem?_eq_getElem hi]
            generalize news[i] = u at hv
            cases hv; rfl
          · rw [List.getElem?_eq_none (by rw [hlen]; simpa using hi), List.getElem?_eq_none (by simpa using hi)]
        simp only [execOp, ho, ex]
        rw [Sem.run_bind, run_convert_bytes_string w s d e ox _ c hs1 he1 hd]
        rcases hcase with ⟨h1, h2, _⟩ | ⟨ad, h1, h2⟩
        · subst h1
          have : l = [] := by simpa using h2
          subst this; rfl
        · subst h1
          have hl : (loadCells ad (l.map fun n => ([.lit (.int .u8 n)] : List AV)).length).run P w = .ok (l.map (Value.int .u8)).toArray w := by
            have := run_loadCells_list (P := P) w ad (l.map (Value.int .u8)) (fun j v hj => h2 j v (by rw [hnews]; exact hj))
            simpa using this
          rw [run_bytesToString w ad _ c l hl, foldl_push_bytes]
          simp [strOfNums, ByteArray.empty, ByteArray.emptyWithCapacity]
          rfl
      · cases hs
    · cases hs
  · cases h
end Go.Proofs.YtdmkhinckljddaaGreat
namespace Go.Proofs.YtdmkhinckljddaaGreat
open Go.RowKit

/-- append(nil, make(.., n)...): n zeros, n at least one; elements of one cell. -/
def vAppendZ (P : Program) (s x : Operand) (t : TypeId) (t' : TypeId) (dst : Option Tmp) (ρ : Operand → AV) (π : List PI) : Option (Eff × List PI) := match dst, isIntT P t', elemOfSl P t with
  | some d, true, some (e, z) => match P.info? e with
    | some i => match i.zero with
      | some zv => match zv.cells.toList, ρ s, ρ x, π with
        | [u], .lit (.slice none 0 0), .lit (.int _ n), .nat m :: π' => match u.oneCell' && z == 1 && i.size == 1 with
          | true => some ({ ob := [n = (m : Int), 0 < m, m * i.bytes ≤ 140737488355328, m ≤ 9223372036854775807], v := .own d, new := some (.slc e z (List.replicate m [.lit u])) }, π')
          | false => none
        | _, _, _, _ => none
      | none => none
    | none => none
  | _, _, _ => none
theorem vAppendZ_ok {P : Program} {o : Oper} {s x : Operand} {t t' : TypeId} {σ : VS} {π π' : List PI} {E : Eff} (ho : o.op = .call { callee := .builtin .append, args := #[s, x], argTypes := #[t, t'] })
    (h : vAppendZ P s x t t' o.dst (evV σ.t) π = some (E, π')) (hob : All E.ob) : OpS P o σ E := by
  unfold vAppendZ at h
  split at h
  · rename_i d e z hd hit hel
    obtain ⟨hu, hsz⟩ := elemOfSl_ok hel
    have hti := isIntT_eq hit
    split at h
    · rename_i i hi
      split at h
      · rename_i zv hz
        split at h
        · rename_i u kk n m π2 hzc hs hx
          split at h
          · rename_i hc
            simp only [Bool.and_eq_true, beq_iff_eq] at hc
            obtain ⟨⟨hu1, hz1⟩, his⟩ := hc
            subst hz1
            injection h with h; injection h with h1 h2; subst h1
            obtain ⟨hnm, h0, hby, h63, _⟩ := hob
            intro S w0 μ ac w hst hcl K Q hK
            obtain ⟨d', hd', hclean⟩ := hcl rfl
            rw [hd] at hd'; injection hd' with hd'; subst hd'
            have es := hst.eval s; rw [hs] at es; have es := rel_lit es
            have ex := hst.eval x; rw [hx] at ex; have ex := rel_lit ex
            have hr := Lib.run_append_nil_zeros (P := P) w t t' o.type e i zv kk .i64 hu hti hi hz m h0 (by omega) (by omega) (by omega)
            have hzv : zv.cells = #[u] := by apply Array.ext'; simpa using hzc
            unfold Oper.wp execOp
            simp only [ho, resolve, invoke, builtin, Sem.run_bind, Sem.run_pure, Result.andThen_ok, List.map_toArray, List.map_cons, List.map_nil, es, ex, hnm, hr]
            have hbel : Below w.heap.size w (w.drew.alloc (.cells (Builtin.zeroCells zv.cells m ++ Builtin.zeroCells zv.cells (grownCap w m 0 e - m)) e)) := ((Below.refl _ _).drew).alloc (Nat.le_refl _) _
            have hge := grownCap_ge w m 0 e
            have hcm : grownCap w m 0 e ≤ maxLen := grownCap_le_maxLen w m 0 e (by unfold maxLen; omega)
            have hf := hst.fresh (w' := w.drew.alloc (.cells (Builtin.zeroCells zv.cells m ++ Builtin.zeroCells zv.cells (grownCap w m 0 e - m)) e)) d none hclean ⟨some w.heap.size, 1, m, grownCap w m 0 e, none⟩ (.slc e 1 (List.replicate m [.lit u])) hbel.size (fun b hb _ => hbel.block b hb) (hst.below.later hbel) (fun _ h => by cases h) (fun g hg => .inl (by injection hg with hg; omega)) ?_
            · refine hK _ _ ⟨fun j => if j = d then some ⟨some w.heap.size, 1, m, grownCap w m 0 e, none⟩ else if (none : Option Nat) = some j then none else μ j, ?_⟩
              rw [hd]
              exact hf.put (some d) (c := .own d) (v := .slice (some ⟨w.heap.size, 0, none⟩) m (grownCap w m 0 e)) (Rel.own (o := ⟨some w.heap.size, 1, m, grownCap w m 0 e, none⟩) (by simp))
            · intro μ' hμ' hw
              refine ⟨rfl, by simp, fun i' r hi' => ?_, by simpa using hge, hcm, .inr ⟨w.heap.size, _, rfl, .inl hst.below.size, heap_alloc_new w.drew _, ?_, fun i' r j c v hi' hj hv => ?_⟩⟩
              · rw [List.getElem?_replicate] at hi'
                split at hi'
                · injection hi' with hi'; subst hi'; rfl
                · cases hi'
              · rw [Array.size_append, size_zeroCells, size_zeroCells, hzv]; simp; omega
              · rw [List.getElem?_replicate] at hi'
                split at hi'
                · injection hi' with hi'; subst hi'
                  have hall : ∀ y ∈ Builtin.zeroCells zv.cells m ++ Builtin.zeroCells zv.cells (grownCap w m 0 e - m), y = u := by
                    intro y hy
                    rw [Array.mem_append] at hy
                    have one : ∀ q, y ∈ Builtin.zeroCells zv.cells q → y = u := by
                      intro q hq
                      rw [hzv] at hq
                      unfold Builtin.zeroCells at hq
                      rw [Array.mem_map] at hq
                      obtain ⟨i', _, hi'⟩ := hq
                      rw [← hi', show (#[u] : Array Value).size = 1 from rfl, Nat.mod_one]; rfl
                    rcases hy with hy | hy
                    · exact one _ hy
                    · exact one _ hy
                  have hvu := hall v (Array.mem_of_getElem? hv)
                  subst hvu
                  cases j with
                  | zero => simp at hj; subst hj; exact ⟨.lit _, hu1⟩
                  | succ j => simp at hj
                · cases hi'
          · cases h
        · cases h
      · cases h
    · cases h
  · cases h
end Go.Proofs.YtdmkhinckljddaaGreat
namespace Go.Proofs.YtdmkhinckljddaaGreat
open Go.RowKit

/-- A block of the call's own is given up, and its row turns. -/
theorem StM.killW {S : Ex} {w0 : Base} {w w' : World} {μ : Nat → Option OI} {σ : VS} {a : Act} (h : StM S w0 μ σ a w) {k : Nat} {o : OI} {g : Nat} (hk : μ k = some o) (hog : o.g = some g) (hkp : k < pinB)
    (hsz : w'.heap.size = w.heap.size) (hbl : ∀ b, b ≠ g → w'.heap[b]? = w.heap[b]?) (hbelow : Bel w0 w') :
    Wd (XOf S μ) (XOf S (fun j => if j = k then none else μ j)) w w' ∧ ¬ XOf S (fun j => if j = k then none else μ j) g ∧ StM S w0 (fun j => if j = k then none else μ j) ⟨σ.t, drop1 k σ.o⟩ a w' := by
  have hog' : o.has g := .inl hog
  have hout : ∀ b, XOf S (fun j => if j = k then none else μ j) b → XOf S μ b := by
    rintro b (hs | ⟨j, oj, hj, hg⟩)
    · exact .inl hs
    · (try dsimp only at hj); split at hj
      · cases hj
      · exact .inr ⟨j, oj, hj, hg⟩
  have hw : Wd (XOf S μ) (XOf S (fun j => if j = k then none else μ j)) w w' := ⟨by omega, fun b _ hX => hbl b (by rintro rfl; exact hX (.inr ⟨k, o, hk, hog'⟩)), fun b _ hb => hout b hb, fun _ h => h⟩
  have hnm : ∀ j, (if j = k then none else μ j) = μ j ∨ (if j = k then none else μ j) = none := by
    intro j; split
    · exact .inr rfl
    · exact .inl rfl
  refine ⟨hw, ?_, h.defers.step hw, h.size, fun i c v hc hv => (h.tmps i c v hc hv).step hw fun j _ => hnm j, fun j b hj => ?_, fun j oj hj => ?_, fun j1 j2 o1 o2 b h1 h2 g1 g2 => ?_, hbelow, ⟨h.old.lt, fun j oj hj => ?_, h.old.hi, h.old.tab, h.old.fr⟩⟩
  · rintro (hs | ⟨j, oj, hj, hg⟩)
    · exact h.sep hk hog' hs
    · (try dsimp only at hj); split at hj
      · cases hj
      · rename_i hne; exact hne (h.inj j k oj o g hj hk hg hog')
  · (try dsimp only at hj)
    rw [look_drop1] at hj
    (try dsimp only at hj); split at hj
    · cases hj
    · rename_i hne
      obtain ⟨oj, hoj, hB⟩ := h.blks j b hj
      refine ⟨oj, by (try dsimp only); rw [if_neg (Ne.symm hne)]; exact hoj, hB.step hw (fun g2 hg2 => hbl g2 (by rintro rfl; exact hne (h.inj k j o oj g2 hk hoj hog' hg2))) fun q _ => hnm q⟩
  · (try dsimp only at hj); split at hj
    · cases hj
    · rename_i hne
      (try dsimp only)
      rw [look_drop1, if_neg (Ne.symm hne)]; exact h.live j oj hj
  · (try dsimp only at h1); split at h1
    · cases h1
    · (try dsimp only at h2); split at h2
      · cases h2
      · exact h.inj j1 j2 o1 o2 b h1 h2 g1 g2
  · have p1 := h.old.pin j oj hj
    have p2 := h.old.hi j oj hj
    (try dsimp only)
    rw [if_neg (by omega)]; exact p1
theorem run_convert_same {P : Program} (w : World) (t e : TypeId) (g : Nat) (C : Array Value) (n c : Nat) (ht : P.underlying t = some (.slice e)) (he : P.underlying e = some (.int .u8)) (hg : w.heap[g]? = some (.cells C e (0, 0))) :
    (convert t t (.slice (some ⟨g, 0, none⟩) n c)).run P w = .ok (.slice (some ⟨g, 0, none⟩) n c) { w with heap := w.heap.setIfInBounds g (.cells C e (C.size, C.size + 1)) } := by
  have hsh : w.shape? g = some (e, C.size) := by unfold World.shape?; rw [hg]
  have hfr : ∀ (k : Nat), w.freeze ⟨g, k, none⟩ 1 = { w with heap := w.heap.setIfInBounds g (.cells C e (k, k + 1)) } := fun k => by
    unfold World.freeze
    rw [if_neg (by decide)]
    have : ∀ (f : Obj → Obj), f (.cells C e (0, 0)) = .cells C e (k, k + 1) → w.heap.modify g f = w.heap.setIfInBounds g (.cells C e (k, k + 1)) := by
      intro f hf
      have hlt : g < w.heap.size := (Array.getElem?_eq_some_iff.1 hg).1
      apply Array.ext_getElem?
      intro i
      rw [Array.getElem?_modify, Array.getElem?_setIfInBounds]
      by_cases e : g = i
      · subst e; rw [if_pos rfl, if_pos rfl, hg, if_pos hlt]; simp [hf]
      · rw [if_neg e, if_neg e]
    show ({ w with heap := w.heap.modify g _ } : World) = _
    rw [this _ rfl]
  simp [convert, run_underlying ht, run_underlying he, markStringish, hsh]
  exact hfr _
def isU8Sl (P : Program) (t : TypeId) : Bool := match P.underlying t with
  | some (.slice e) => match P.underlying e with
    | some (.int .u8) => true
    | _ => false
  | _ => false
/-- Bytes of a constant string: from here on nobody writes them. -/
def vConvC (P : Program) (t : TypeId) (k : Nat) (env : Env) (π : List PI) : Option (Eff × List PI) := match isU8Sl P t && Nat.blt k pinB, env k with
  | true, some (.slc e z (r :: rows)) => match P.underlying t with
    | some (.slice e') => match e' == e with
      | true => some ({ v := .sl z (r :: rows), kill := some k }, π)
      | false => none
    | _ => none
  | _, _ => none
theorem vConvC_ok {P : Program} {o : Oper} {t : TypeId} {x : Operand} {σ : VS} {env : Env} {k : Nat} {π π' : List PI} {E : Eff} (ho : o.op = .convert t t x) (he : EnvOK env σ) (hx : evV σ.t x = .own k) (h : vConvC P t k env π = some (E, π')) : OpS P o σ E := by
  unfold vConvC at h
  split at h
  · rename_i e z r0 rows0 hc hk
    split at h
    · rename_i e' ht
      split at h
      · rename_i hee
        have hee : e' = e := by simpa using hee
        subst hee
        injection h with h; injection h with h1 h2; subst h1
        simp only [Bool.and_eq_true, Nat.blt_eq] at hc
        obtain ⟨hu8, hkp⟩ := hc
        have hue : P.underlying e' = some (.int .u8) := by
          unfold isU8Sl at hu8
          rw [ht] at hu8
          dsimp only at hu8
          split at hu8
          · assumption
          · cases hu8
        generalize hrows : r0 :: rows0 = rows at hk ⊢
        have hne : rows ≠ [] := by rw [← hrows]; simp
        intro S w0 μ ac w hst hcl K Q hK
        obtain ⟨oi, hoi, hz', hnn, hlen, hcap, hmax, hcase⟩ := hst.blks k _ (he k _ hk)
        have ex := hst.eval x; rw [hx] at ex
        generalize hsv : ac.eval x = sv at ex
        rcases hcase with ⟨_, h0, _⟩ | ⟨g, cs, hg, hB, hh, hsz, hrel⟩
        · exact absurd h0 hne
        cases ex with
        | pure hp => cases hp
        | deadO _ hd2 => rw [hoi] at hd2; cases hd2
        | own h1 =>
          rw [hoi] at h1; injection h1 with h1; subst h1
          have hr := run_convert_same (P := P) w t e' g cs oi.n oi.cap ht hue hh
          have hlt : g < w.heap.size := (Array.getElem?_eq_some_iff.1 hh).1
          obtain ⟨w', hw'⟩ : ∃ w' : World, w' = { w with heap := w.heap.setIfInBounds g (.cells cs e' (cs.size, cs.size + 1)) } := ⟨_, rfl⟩
          rw [← hw'] at hr
          have hsz' : w'.heap.size = w.heap.size := by rw [hw']; simp
          have hbl : ∀ b, b ≠ g → w'.heap[b]? = w.heap[b]? := fun b hb => by rw [hw']; simp [Array.getElem?_setIfInBounds_ne (Ne.symm hb)]
          have hhg : w'.heap[g]? = some (.cells cs e' (cs.size, cs.size + 1)) := by rw [hw']; simp [hlt]
          have hbel : Bel w0 w' := ⟨by rw [hw']; exact hst.below.os, by rw [hw']; exact hst.below.tape, by rw [hw']; exact hst.below.output, by rw [hsz']; exact hst.below.size, fun b hb hnm => (hbl b (by rintro rfl; rcases hB with q | q; omega; exact hnm q)).trans (hst.below.block b hb hnm)⟩
          obtain ⟨hwd, hnx, hs2⟩ := hst.killW hoi hg hkp hsz' hbl hbel
          have hrun : (execOp ac.eval o).run P w = .ok (.value (.slice (some ⟨g, 0, none⟩) oi.n oi.cap)) w' := by
            simp only [execOp, ho, hsv, hg, Option.map_some, Sem.run_bind, hr, Result.andThen_ok, Sem.run_pure]
          unfold Oper.wp
          rw [hrun, Oper.upon_value]
          refine hK _ _ ⟨fun j => if j = k then none else μ j, ?_⟩
          have hlenr : oi.n = rows.length := hnn
          have key : Rel (fun j => if j = k then none else μ j) (XOf S (fun j => if j = k then none else μ j)) w' (.sl z rows) (.slice (some ⟨g, 0, none⟩) rows.length oi.cap) := by
            have bnd : ∀ (i : Nat) (r : List AV) (j : Nat) (c : AV), rows[i]? = some r → r[j]? = some c → i * z + j < cs.size := by
              intro i r j c hi hj
              have hj' : j < z := by rw [← hlen i r hi]; exact (List.getElem?_eq_some_iff.1 hj).1
              have hi' : i < rows.length := (List.getElem?_eq_some_iff.1 hi).1
              have : (i + 1) * z ≤ oi.cap * z := Nat.mul_le_mul_right _ (by omega)
              rw [Nat.add_mul] at this; rw [hsz]; omega
            refine .pure (.sl (fun i j => cs.getD (i * z + j) undef) (fun _ => hnx) (fun _ => by omega) hcap hmax hlen (fun i r j c hi hj => ?_) (fun i r j c hi hj => ?_) (fun i r j c hi hj => ?_))
            · have hb := bnd i r j c hi hj
              simp only [World.cell?, hhg]
              rw [show 0 + i * z + j = i * z + j from by omega]
              simp [hb]
            · have hb := bnd i r j c hi hj
              have := (hrel i r j c cs[i * z + j] hi hj (Array.getElem?_eq_getElem hb)).1.step hwd
              simpa [hb] using this
            · have hb := bnd i r j c hi hj
              have := (hrel i r j c cs[i * z + j] hi hj (Array.getElem?_eq_getElem hb)).2
              simpa [hb] using this
          rw [hlenr]
          exact hs2.put o.dst key
      · cases h
    · cases h
  · cases h
end Go.Proofs.YtdmkhinckljddaaGreat
namespace Go.Proofs.YtdmkhinckljddaaGreat
open Go.RowKit

mutual
/-- Nothing of the call's own is named. -/
def AV.closed : AV → Bool
  | .own _ => false
  | .ptr _ _ _ => false
  | .mp _ => false
  | .yl _ => false
  | .tr _ _ => false
  | .tia _ => false
  | .agg l => AV.closedL l
  | .tup l => AV.closedL l
  | .clo _ l => AV.closedL l
  | .opt _ _ _ a => a.closed
  | .ifc _ a => a.closed
  | .mth _ a => a.closed
  | .bnd _ a => a.closed
  | _ => true
def AV.closedL : List AV → Bool
  | [] => true
  | a :: l => a.closed && AV.closedL l
end
mutual
/-- No address at all. -/
def AV.flat : AV → Bool
  | .lit _ => true
  | .any => true
  | .uint _ => true
  | .agg l => AV.flatL l
  | .tup l => AV.flatL l
  | .opt _ _ _ a => a.flat
  | .ifc _ a => a.flat
  | .mth _ a => a.flat
  | .bnd _ a => a.flat
  | _ => false
def AV.flatL : List AV → Bool
  | [] => true
  | a :: l => a.flat && AV.flatL l
end
theorem AV.closedL_mem : ∀ {l : List AV} {i : Nat} {a : AV}, AV.closedL l = true → l[i]? = some a → a.closed = true
  | [], _, _, _, h => by simp at h
  | b :: l, 0, a, h, ha => by simp at ha; subst ha; simp [AV.closedL] at h; exact h.1
  | b :: l, i + 1, a, h, ha => by simp at ha; simp [AV.closedL] at h; exact AV.closedL_mem h.2 ha
theorem AV.flatL_mem : ∀ {l : List AV} {i : Nat} {a : AV}, AV.flatL l = true → l[i]? = some a → a.flat = true
  | [], _, _, _, h => by simp at h
  | b :: l, 0, a, h, ha => by simp at ha; subst ha; simp [AV.flatL] at h; exact h.1
  | b :: l, i + 1, a, h, ha => by simp at ha; simp [AV.flatL] at h; exact AV.flatL_mem h.2 ha
theorem Rel.closed {μ μ' : Nat → Option OI} {X X' : Ex} {w w' : World} {c : AV} {v : Value} (h : Rel μ X w c v) (hc : c.closed = true) (hw : Wd X X' w w') : Rel μ' X' w' c v := by
  induction h with
  | any v => exact .any v
  | pure h => exact .pure (h.step hw)
  | agg hl h ih => exact .agg hl fun i c v hi hv => ih i c v hi hv (AV.closedL_mem (by simpa [AV.closed] using hc) hi)
  | tup hl h ih => exact .tup hl fun i c v hi hv => ih i c v hi hv (AV.closedL_mem (by simpa [AV.closed] using hc) hi)
  | clo hl h ih => exact .clo hl fun i c v hi hv => ih i c v hi hv (AV.closedL_mem (by simpa [AV.closed] using hc) hi)
  | @ia row b off cv hX hb h1 h2 =>
    refine .ia cv (fun h => hX (hw.out _ hb h)) (Nat.lt_of_lt_of_le hb hw.size) (fun j c hj => ?_) (fun j c hj => (h2 j c hj).step hw)
    rw [World.cell?_of_block (hw.heap _ hb hX)]; exact h1 j c hj
  | own => simp [AV.closed] at hc
  | ptr => simp [AV.closed] at hc
  | deadO => simp [AV.closed] at hc
  | deadP => simp [AV.closed] at hc
  | opt h1 h0 ih => exact .opt (fun h => ih h (by simpa [AV.closed] using hc)) h0
  | ifc h ih => exact .ifc (ih (by simpa [AV.closed] using hc))
  | mth h ih => exact .mth (ih (by simpa [AV.closed] using hc))
  | bnd h ih => exact .bnd (ih (by simpa [AV.closed] using hc))
  | mp => simp [AV.closed] at hc
  | deadM => simp [AV.closed] at hc
  | yl => simp [AV.closed] at hc
  | deadY => simp [AV.closed] at hc
  | tr => simp [AV.closed] at hc
  | deadT => simp [AV.closed] at hc
  | tia => simp [AV.closed] at hc
  | deadI => simp [AV.closed] at hc
  | uint n => exact .uint n
theorem Rel.flat {μ μ' : Nat → Option OI} {X X' : Ex} {w w' : World} {c : AV} {v : Value} (h : Rel μ X w c v) (hc : c.flat = true) : Rel μ' X' w' c v := by
  induction h with
  | any v => exact .any v
  | pure h => cases h with
    | lit => exact .pure (.lit _)
    | nil => simp [AV.flat] at hc
    | sl => simp [AV.flat] at hc
    | fs => simp [AV.flat] at hc
  | agg hl h ih => exact .agg hl fun i c v hi hv => ih i c v hi hv (AV.flatL_mem (by simpa [AV.flat] using hc) hi)
  | tup hl h ih => exact .tup hl fun i c v hi hv => ih i c v hi hv (AV.flatL_mem (by simpa [AV.flat] using hc) hi)
  | clo => simp [AV.flat] at hc
  | ia => simp [AV.flat] at hc
  | own => simp [AV.flat] at hc
  | ptr => simp [AV.flat] at hc
  | deadO => simp [AV.flat] at hc
  | deadP => simp [AV.flat] at hc
  | opt h1 h0 ih => exact .opt (fun h => ih h (by simpa [AV.flat] using hc)) h0
  | ifc h ih => exact .ifc (ih (by simpa [AV.flat] using hc))
  | mth h ih => exact .mth (ih (by simpa [AV.flat] using hc))
  | bnd h ih => exact .bnd (ih (by simpa [AV.flat] using hc))
  | mp => simp [AV.flat] at hc
  | deadM => simp [AV.flat] at hc
  | yl => simp [AV.flat] at hc
  | deadY => simp [AV.flat] at hc
  | tr => simp [AV.flat] at hc
  | deadT => simp [AV.flat] at hc
  | tia => simp [AV.flat] at hc
  | deadI => simp [AV.flat] at hc
  | uint n => exact .uint n

/-- A slice of the call's own, seen as one that nobody writes. -/
theorem own_sl {S : Ex} {w0 : Base} {w : World} {μ : Nat → Option OI} {σ : VS} {a : Act} (h : StM S w0 μ σ a w) {k : Nat} {e : TypeId} {z : Nat} {rows : List (List AV)} (hk : look σ.o k = some (.slc e z rows)) {v : Value} (hr : Rel μ (XOf S μ) w (.own k) v) {X' : Ex}
    (hX : ∀ b, X' b → XOf S μ b) (hF : ∀ b, X'.f b → S.f b) (hg : ∀ o g, μ k = some o → o.g = some g → ¬ X' g) : PRel X' w (.sl z rows) v := by
  have hw : Wd (XOf S μ) X' w w := ⟨Nat.le_refl _, fun _ _ _ => rfl, fun b _ h => hX b h, hF⟩
  obtain ⟨o, ho, hz, hn, hlen, hcap, hmax, hcase⟩ := h.blks k _ hk
  cases hr with
  | pure hp => cases hp
  | deadO _ hd => rw [ho] at hd; cases hd
  | own h1 =>
    rw [ho] at h1; injection h1 with h1; subst h1
    rcases hcase with ⟨hg0, hr0, hc0⟩ | ⟨g, cs, hg1, hB, hh, hs, hrel⟩
    · subst hr0; rw [hg0, hn, hc0]; exact .nil0 z
    · rw [hg1, hn]
      have hlt : ∀ (i : Nat) (r : List AV) (j : Nat) (c : AV), rows[i]? = some r → r[j]? = some c → i * z + j < cs.size := by
        intro i r j c hi hj
        have hjz : j < z := by rw [← hlen i r hi]; exact (List.getElem?_eq_some_iff.1 hj).1
        have hil : i < rows.length := (List.getElem?_eq_some_iff.1 hi).1
        rw [hs]
        have : (i + 1) * z ≤ o.cap * z := Nat.mul_le_mul_right _ (by omega)
        rw [Nat.add_mul] at this; omega
      have hgt : ∀ (i : Nat) (r : List AV) (j : Nat) (c : AV), rows[i]? = some r → r[j]? = some c → cs[i * z + j]? = some ((cs[i * z + j]?).getD undef) := by
        intro i r j c hi hj
        rw [Array.getElem?_eq_getElem (hlt i r j c hi hj)]; rfl
      exact .sl (fun i j => (cs[i * z + j]?).getD undef) (fun _ => hg o g ho hg1) (fun _ => (Array.getElem?_eq_some_iff.1 hh).1) hcap hmax hlen
        (fun i r j c hi hj => by rw [Nat.zero_add]; simp only [World.cell?, hh, Option.isSome_none, Bool.false_eq_true, if_false]; exact hgt i r j c hi hj)
        (fun i r j c hi hj => (hrel _ _ _ _ _ hi hj (hgt i r j c hi hj)).1.step hw) (fun i r j c hi hj => (hrel _ _ _ _ _ hi hj (hgt i r j c hi hj)).2)

structure SetOK (S : Ex) (w : World) : Prop where
  lt : ∀ b, S b → b < w.heap.size
  tab : TabW w
  fr : ∀ b, S.f b → b < w.heap.size
/-- The function f, called with these values, gives that value and writes nothing that was there. -/
def VC (P : Program) (f : Nat) (args : List AV) (r : AV) : Prop :=
  ∀ (S : Ex) (w : World) (xs : List Value), SetOK S w → xs.length = args.length → (∀ (i : Nat) (c : AV) (v : Value), args[i]? = some c → xs[i]? = some v → Rel (fun _ => none) S w c v) →
    Calls P f xs.toArray w fun e w' => ∃ x, e = .returned x ∧ Rel (fun _ => none) S w' r x ∧ Below w.heap.size w w'

def WeakL (l m : List AV) : Prop := l.length = m.length ∧ ∀ (i : Nat) (a b : AV), l[i]? = some a → m[i]? = some b → Weak a b
theorem Weak.refl (a : AV) : Weak a a := fun _ _ _ _ h => h
theorem Weak.nil (z : Nat) : Weak (.lit (.slice none 0 0)) (.sl z []) := fun _ _ _ _ h => by rw [rel_lit h]; exact .pure (.nil0 z)
theorem Weak.any (a : AV) : Weak a .any := fun _ _ _ _ _ => .any _
theorem WeakL.nil : WeakL [] [] := ⟨rfl, fun i a b h => by simp at h⟩
theorem WeakL.cons {a b : AV} {l m : List AV} (h : Weak a b) (hl : WeakL l m) : WeakL (a :: l) (b :: m) := ⟨by simp [hl.1], fun i x y hx hy => by
  cases i with
  | zero => simp at hx hy; subst hx hy; exact h
  | succ i => exact hl.2 i x y (by simpa using hx) (by simpa using hy)⟩
theorem WeakL.refl : ∀ l, WeakL l l
  | [] => .nil
  | a :: l => .cons (.refl a) (WeakL.refl l)
theorem Weak.agg {l m : List AV} (h : WeakL l m) : Weak (.agg l) (.agg m) := fun μ X w v hr => by
  cases hr with
  | pure hp => cases hp
  | agg hl hh =>
    refine .agg (by rw [hl, h.1]) fun i c v hc hv => ?_
    have hlt : i < l.length := by rw [h.1]; exact (List.getElem?_eq_some_iff.1 hc).1
    exact h.2 i _ c (List.getElem?_eq_getElem hlt) hc _ _ _ _ (hh i _ v (List.getElem?_eq_getElem hlt) hv)
theorem Weak.tup {l m : List AV} (h : WeakL l m) : Weak (.tup l) (.tup m) := fun μ X w v hr => by
  cases hr with
  | pure hp => cases hp
  | tup hl hh =>
    refine .tup (by rw [hl, h.1]) fun i c v hc hv => ?_
    have hlt : i < l.length := by rw [h.1]; exact (List.getElem?_eq_some_iff.1 hc).1
    exact h.2 i _ c (List.getElem?_eq_getElem hlt) hc _ _ _ _ (hh i _ v (List.getElem?_eq_getElem hlt) hv)

def callable (P : Program) (f : Nat) : Bool := match P.funcs[f]? with
  | some fn => !(fn.name == "runtime.NumGoroutine") && fn.body.isSome
  | none => false
mutual
/-- What lies in a region as it came, seen as what nobody writes. -/
def AV.untr : AV → AV
  | .tr z rows => .sl z rows
  | .agg l => .agg (AV.untrL l)
  | .tup l => .tup (AV.untrL l)
  | v => v
def AV.untrL : List AV → List AV
  | [] => []
  | a :: l => a.untr :: AV.untrL l
end
theorem AV.untrL_eq : ∀ l, AV.untrL l = l.map AV.untr
  | [] => rfl
  | a :: l => by rw [AV.untrL, AV.untrL_eq l]; rfl
def untrE (env : Env) (a : AV) : AV := match env rk with
  | some (.reg false) => a.untr
  | _ => a
def E0 : Ex := ⟨fun _ => False, fun _ => False⟩
theorem Rel.e0 {S : Ex} {w : World} {μ : Nat → Option OI} {a : AV} {v : Value} (h : Rel μ (XOf S μ) w a v) : Rel μ E0 w a v :=
  h.step ⟨Nat.le_refl _, fun _ _ _ => rfl, fun _ _ h => h.elim, fun _ h => h.elim⟩ fun _ _ => .inl rfl
theorem Rel.untr {S : Ex} {w0 : Base} {w : World} {μ : Nat → Option OI} {σ : VS} {ac : Act} (hst : StM S w0 μ σ ac w) (hk : look σ.o rk = some (.reg false)) {X : Ex} (hX : X = XOf S μ) {a : AV} {v : Value} (h : Rel μ X w a v) : Rel μ E0 w a.untr v := by
  obtain ⟨o, ho, lo, W, hr, hg, hsz, hh⟩ := hst.blks rk _ hk
  have key : ∀ {z rows v}, PRel (outE lo) W (.fs z rows) v → PRel E0 w (.sl z rows) v := fun hp => (show PRel (outE lo) W (.sl _ _) _ by cases hp; assumption).step ⟨hsz, fun b h1 h2 => (hh b (Nat.le_of_not_lt h2) h1).2.1 rfl, fun _ _ h => h.elim, fun _ h => h.elim⟩
  induction h with
  | any v => exact .any v
  | pure h =>
    subst hX
    have h2 := Rel.e0 (.pure h : Rel μ (XOf S μ) w _ _)
    cases h <;> exact h2
  | agg hl h ih =>
    rw [AV.untr, AV.untrL_eq]
    refine .agg (by simpa using hl) fun i c v hc hv => ?_
    rw [List.getElem?_map, Option.map_eq_some_iff] at hc
    obtain ⟨c0, h0, rfl⟩ := hc
    exact ih i c0 v h0 hv
  | tup hl h ih =>
    rw [AV.untr, AV.untrL_eq]
    refine .tup (by simpa using hl) fun i c v hc hv => ?_
    rw [List.getElem?_map, Option.map_eq_some_iff] at hc
    obtain ⟨c0, h0, rfl⟩ := hc
    exact ih i c0 v h0 hv
  | @tr z rows v o' lo' W' h' hr' hp' =>
    rw [ho] at h'; injection h' with h'; subst h'
    rw [hr] at hr'; injection hr' with hr'; injection hr' with e1 e2; subst e1 e2
    exact .pure (key hp')
  | deadT _ hn => rw [ho] at hn; cases hn
  | clo hl h => subst hX; exact Rel.e0 (.clo hl h)
  | ia cv h1 h2 h3 h4 => subst hX; exact Rel.e0 (.ia cv h1 h2 h3 h4)
  | own h => exact .own h
  | ptr h hg => exact .ptr h hg
  | deadO v h => exact .deadO v h
  | deadP v h => exact .deadP v h
  | opt h1 h0 => subst hX; exact Rel.e0 (.opt h1 h0)
  | ifc h => subst hX; exact Rel.e0 (.ifc h)
  | mth h => subst hX; exact Rel.e0 (.mth h)
  | bnd h => subst hX; exact Rel.e0 (.bnd h)
  | mp h hg => exact .mp h hg
  | deadM v h => exact .deadM v h
  | yl h hg => exact .yl h hg
  | deadY v h => exact .deadY v h
  | tia cv h1 h2 h3 h4 h5 => exact .tia cv h1 h2 h3 h4 h5
  | deadI v h => exact .deadI v h
  | uint n => exact .uint n
theorem untrE_ok {S : Ex} {w0 : Base} {w : World} {μ : Nat → Option OI} {σ : VS} {ac : Act} {env : Env} (hst : StM S w0 μ σ ac w) (he : EnvOK env σ) {a : AV} {v : Value} (h : Rel μ (XOf S μ) w a v) : Rel μ E0 w (untrE env a) v := by
  unfold untrE
  split
  · rename_i hk; exact h.untr hst (he _ _ hk) rfl
  · exact h.e0
def resolve0 (env : Env) : AV → AV := AV.map (fun k => match env k with | some (.slc _ z rows) => .sl z rows | _ => .any) (fun _ _ _ => .any)
def resolveV (env : Env) (a : AV) : AV := resolve0 env (untrE env a)
def vCallA (P : Program) (f : Nat) (actual : List AV) (env : Env) (π : List PI) : Option (Eff × List PI) := match callable P f, π with
  | true, .call as r :: π' =>
    match r.closed with
    | true => match AV.closedL actual with
      | true => some ({ ob := [WeakL actual as, VC P f as r], v := r }, π')
      | false => match r.flat with
        | true => some ({ ob := [WeakL (actual.map (resolveV env)) as, VC P f as r], v := r }, π')
        | false => none
    | false => none
  | true, .callr r :: π' =>
    match r.closed with
    | true => match AV.closedL actual with
      | true => some ({ ob := [VC P f actual r], v := r }, π')
      | false => match r.flat with
        | true => some ({ ob := [VC P f (actual.map (resolveV env)) r], v := r }, π')
        | false => none
    | false => none
  | _, _ => none
def vCall (P : Program) (fo : Operand) (args : Array Operand) (ρ : Operand → AV) (env : Env) (π : List PI) : Option (Eff × List PI) := match ρ fo with
  | .clo f caps => vCallA P f (args.toList.map ρ ++ caps) env π
  | .bnd f c => vCallA P f (c :: args.toList.map ρ) env π
  | _ => none
/-- The type's method of this name is the function f, its receiver the value itself. -/
def MethodIs (P : Program) (t : TypeId) (name : String) (f : Nat) : Prop := ∀ (v : Value) (w : World), (Go.method (P.types.size + Made.depth) t v name).run P w = .ok (f, v) w
def vInv (P : Program) (recv : Operand) (name : String) (args : Array Operand) (ρ : Operand → AV) (env : Env) (π : List PI) : Option (Eff × List PI) := match ρ recv with
  | .ifc t a => match π with
    | .nat f :: π' => match vCallA P f (a :: args.toList.map ρ) env π' with
      | some (E, π2) => some ({ E with ob := MethodIs P t name f :: E.ob }, π2)
      | none => none
    | _ => none
  | _ => none
theorem run_callFunc {P : Program} {f : Nat} (h : callable P f = true) (xs : Array Value) (w : World) : (callFunc f xs).run P w = .ok (.enter f xs) w := by
  unfold callable at h
  split at h
  · rename_i fn hf
    simp only [Bool.and_eq_true, Bool.not_eq_true'] at h
    obtain ⟨h1, h2⟩ := h
    have h3 : fn.body ≠ none := by intro h; rw [h] at h2; cases h2
    have h4 : fn.name ≠ "runtime.NumGoroutine" := by simpa using h1
    simp [callFunc, program, Sem.run, hf, h3, h4]
  · cases h
/-- The operation enters the function f, with values that are as told. -/
def EntersS (P : Program) (o : Oper) (σ : VS) (f : Nat) (actual : List AV) : Prop :=
  ∀ S w0 μ (a : Act) w, StM S w0 μ σ a w → ∃ zs : List Value, zs.length = actual.length ∧ (∀ (i : Nat) (c : AV) (v : Value), actual[i]? = some c → zs[i]? = some v → Rel μ (XOf S μ) w c v) ∧ (execOp a.eval o).run P w = .ok (.enter f zs.toArray) w
theorem enters_value {P : Program} {o : Oper} {fo : Operand} {args : Array Operand} {ats : Array TypeId} {σ : VS} {f : Nat} {caps : List AV} (ho : o.op = .call { callee := .value fo, args := args, argTypes := ats }) (hfo : evV σ.t fo = .clo f caps) (hcall : callable P f = true) : EntersS P o σ f (args.toList.map (evV σ.t) ++ caps) := by
  intro S w0 μ a w hst
  have ef := hst.eval fo; rw [hfo] at ef
  generalize hfv : a.eval fo = fv at ef
  cases ef with
  | pure hp => cases hp
  | @clo _ _ vs hl hh =>
    have hrun : (execOp a.eval o).run P w = .ok (.enter f ((args.toList.map a.eval) ++ vs).toArray) w := by
      have hap : (Array.map a.eval args ++ vs.toArray) = ((args.toList.map a.eval) ++ vs).toArray := by rw [← List.append_toArray]; congr 1; rw [← Array.toList_map]
      simp only [execOp, ho, resolve, hfv, Deferred.ofValue, Sem.run_bind, Sem.run_pure, Result.andThen_ok, invoke, Array.empty_append, run_callFunc hcall, hap]
    refine ⟨(args.toList.map a.eval) ++ vs, by simp [hl], fun i c v hc hv => ?_, hrun⟩
    rw [List.getElem?_append] at hc hv
    simp only [List.length_map] at hc hv
    split at hc
    · rw [if_pos ‹_›] at hv
      rw [List.getElem?_map, Option.map_eq_some_iff] at hc hv
      obtain ⟨x, hx, rfl⟩ := hc
      obtain ⟨x', hx', rfl⟩ := hv
      rw [hx] at hx'; injection hx' with hx'; subst hx'
      exact hst.eval x
    · rw [if_neg ‹_›] at hv
      exact hh _ _ _ hc hv
theorem enters_bound {P : Program} {o : Oper} {fo : Operand} {args : Array Operand} {ats : Array TypeId} {σ : VS} {f : Nat} {b : AV} (ho : o.op = .call { callee := .value fo, args := args, argTypes := ats }) (hfo : evV σ.t fo = .bnd f b) (hcall : callable P f = true) : EntersS P o σ f (b :: args.toList.map (evV σ.t)) := by
  intro S w0 μ a w hst
  have ef := hst.eval fo; rw [hfo] at ef
  generalize hfv : a.eval fo = fv at ef
  cases ef with
  | pure hp => cases hp
  | @bnd _ _ u hu =>
    have hrun : (execOp a.eval o).run P w = .ok (.enter f (u :: args.toList.map a.eval).toArray) w := by
      have hap : #[u] ++ Array.map a.eval args = (u :: args.toList.map a.eval).toArray := by
        have : Array.map a.eval args = (args.toList.map a.eval).toArray := by rw [← Array.toList_map]
        rw [this]; simp
      simp only [execOp, ho, resolve, hfv, Deferred.ofValue, Sem.run_bind, Sem.run_pure, Result.andThen_ok, invoke, Array.append_empty, run_callFunc hcall, hap]
    refine ⟨u :: args.toList.map a.eval, by simp, fun i c v hc hv => ?_, hrun⟩
    cases i with
    | zero => simp at hc hv; subst hc hv; exact hu
    | succ i =>
      simp only [List.getElem?_cons_succ] at hc hv
      rw [List.getElem?_map, Option.map_eq_some_iff] at hc hv
      obtain ⟨x, hx, rfl⟩ := hc
      obtain ⟨x', hx', rfl⟩ := hv
      rw [hx] at hx'; injection hx' with hx'; subst hx'
      exact hst.eval x
theorem enters_invoke {P : Program} {o : Oper} {recv : Operand} {name : String} {args : Array Operand} {ats : Array TypeId} {σ : VS} {f : Nat} {t : TypeId} {b : AV} (ho : o.op = .call { callee := .invoke recv name, args := args, argTypes := ats }) (hr : evV σ.t recv = .ifc t b) (hm : MethodIs P t name f) (hcall : callable P f = true) : EntersS P o σ f (b :: args.toList.map (evV σ.t)) := by
  intro S w0 μ a w hst
  have ef := hst.eval recv; rw [hr] at ef
  generalize hfv : a.eval recv = fv at ef
  cases ef with
  | pure hp => cases hp
  | @ifc _ _ u hu =>
    have hrun : (execOp a.eval o).run P w = .ok (.enter f (u :: args.toList.map a.eval).toArray) w := by
      have hap : #[u] ++ Array.map a.eval args = (u :: args.toList.map a.eval).toArray := by
        have : Array.map a.eval args = (args.toList.map a.eval).toArray := by rw [← Array.toList_map]
        rw [this]; simp
      have hex : (#[Value.iface t u] ++ Array.map a.eval args).extract 1 (#[Value.iface t u] ++ Array.map a.eval args).size = Array.map a.eval args := by
        apply Array.ext'
        simp only [Array.toList_extract, Array.toList_append, Array.toList_map]
        simp [List.extract]
        exact List.take_of_length_le (by simp)
      have h0 : (#[Value.iface t u] ++ Array.map a.eval args)[0]? = some (Value.iface t u) := by
        rw [Array.getElem?_append]; rfl
      have hcm : (callMethod (.iface t u) name (Array.map a.eval args)).run P w = .ok (.enter f (u :: args.toList.map a.eval).toArray) w := by
        have := hm u w
        simp only [callMethod, Sem.run_bind]
        simp [program, Sem.run, this, run_callFunc hcall, hap]
      simp only [execOp, ho, resolve, hfv, Sem.run_bind, Sem.run_pure, Result.andThen_ok, invoke, h0, hex, hcm]
    refine ⟨u :: args.toList.map a.eval, by simp, fun i c v hc hv => ?_, hrun⟩
    cases i with
    | zero => simp at hc hv; subst hc hv; exact hu
    | succ i =>
      simp only [List.getElem?_cons_succ] at hc hv
      rw [List.getElem?_map, Option.map_eq_some_iff] at hc hv
      obtain ⟨x, hx, rfl⟩ := hc
      obtain ⟨x', hx', rfl⟩ := hv
      rw [hx] at hx'; injection hx' with hx'; subst hx'
      exact hst.eval x
theorem call_core {P : Program} {o : Oper} {σ : VS} {env : Env} {f : Nat} {actual as : List AV} {r : AV} {ob : List Prop} (hent : EntersS P o σ f actual) (he : EnvOK env σ) (hrc : r.closed = true) (hvc : VC P f as r)
    (hcase : (AV.closedL actual = true ∧ WeakL actual as) ∨ (r.flat = true ∧ WeakL (actual.map (resolveV env)) as)) : OpS P o σ { ob := ob, v := r } := by
  have main : ∀ (S : Ex) (w0 : Base) (μ : Nat → Option OI) (a : Act) (w : World), StM S w0 μ σ a w → ∀ (S' : Ex), (∀ b, S' b → b < w.heap.size) → (∀ b, S'.f b → b < w.heap.size) →
      (∀ (vs : List Value), vs.length = actual.length → (∀ (i : Nat) (c : AV) (v : Value), actual[i]? = some c → vs[i]? = some v → Rel μ (XOf S μ) w c v) → vs.length = as.length ∧ ∀ (i : Nat) (c : AV) (v : Value), as[i]? = some c → vs[i]? = some v → Rel (fun _ => none) S' w c v) →
      (∀ w' x, Below w.heap.size w w' → Rel (fun _ => none) S' w' r x → Rel μ (XOf S μ) w' r x) → ∀ K Q, (∀ a' w', St S w0 (app o.dst { ob := ob, v := r } σ) a' w' → K a' w') → o.wp P a w K Q := by
    intro S w0 μ a w hst S' hS' hS'' hargs hres K Q hK
    obtain ⟨zs, hl, hh, hrun⟩ := hent S w0 μ a w hst
    unfold Oper.wp
    rw [hrun, Oper.upon_enter]
    obtain ⟨h1, h2⟩ := hargs zs hl hh
    refine (hvc S' w _ ⟨hS', hst.tab, hS''⟩ h1 h2).mono fun e w' hx => ?_
    obtain ⟨x, rfl, hrel, hb⟩ := hx
    exact hK _ _ ⟨μ, (hst.later hb).put o.dst (hres w' x hb hrel)⟩
  intro S w0 μ a w hst _ K Q hK
  rcases hcase with ⟨hcl, hweak⟩ | ⟨hfl, hweak⟩
  · have hw0 : Wd (XOf S μ) (XOf S μ) w w := ⟨Nat.le_refl _, fun _ _ _ => rfl, fun _ _ h => h, fun _ h => h⟩
    refine main S w0 μ a w hst (XOf S μ) (fun b hb => hst.xlt hb) (fun b hb => Nat.lt_of_lt_of_le (hst.old.fr b hb).1 hst.below.size) (fun vs hl hh => ⟨by rw [hl]; exact hweak.1, fun i c v hc hv => ?_⟩) (fun w' x hb hrel => ?_) K Q hK
    · have hlt : i < actual.length := by rw [hweak.1]; exact (List.getElem?_eq_some_iff.1 hc).1
      exact hweak.2 i _ c (List.getElem?_eq_getElem hlt) hc _ _ _ _ ((hh i _ v (List.getElem?_eq_getElem hlt) hv).closed (AV.closedL_mem hcl (List.getElem?_eq_getElem hlt)) hw0)
    · exact hrel.closed hrc ⟨Nat.le_refl _, fun _ _ _ => rfl, fun _ _ h => h, fun _ h => h⟩
  · refine main S w0 μ a w hst E0 (fun b hb => hb.elim) (fun b hb => hb.elim) (fun vs hl hh => ⟨by rw [hl]; simpa using hweak.1, fun i c v hc hv => ?_⟩) (fun w' x hb hrel => hrel.flat hfl) K Q hK
    have hlen := hweak.1
    have hlt : i < actual.length := by
      have := (List.getElem?_eq_some_iff.1 hc).1
      rw [← hlen] at this; simpa using this
    have hm : (actual.map (resolveV env))[i]? = some (resolveV env actual[i]) := by
      rw [List.getElem?_map, List.getElem?_eq_getElem hlt]; rfl
    refine hweak.2 i _ c hm hc _ _ _ _ ?_
    refine (untrE_ok hst he (hh i _ v (List.getElem?_eq_getElem hlt) hv)).map ⟨Nat.le_refl _, fun _ _ _ => rfl, fun _ _ h => h.elim, fun _ h => h.elim⟩ (fun k v hr => ?_) (fun _ _ _ _ _ => .any _) (.inr rfl)
    split
    · rename_i e z rows hk
      have hr' : Rel μ (XOf S μ) w (.own k) v := by
        cases hr with
        | pure hp => cases hp
        | own h => exact .own h
        | deadO _ h => exact .deadO _ h
      exact .pure (own_sl hst (he k _ hk) hr' (fun b hb => hb.elim) (fun _ h => h.elim) (fun _ _ _ _ h => h))
    · exact .any _
theorem vCallA_ok {P : Program} {o : Oper} {σ : VS} {env : Env} {f : Nat} {actual : List AV} {π π' : List PI} {E : Eff} (hent : callable P f = true → EntersS P o σ f actual) (he : EnvOK env σ)
    (h : vCallA P f actual env π = some (E, π')) (hob : All E.ob) : OpS P o σ E := by
  unfold vCallA at h
  split at h
  · rename_i as r π2 hcall
    split at h
    · rename_i hrc
      split at h
      · rename_i hcl
        injection h with h; injection h with h1 h2; subst h1
        exact call_core (hent hcall) he hrc hob.2.1 (.inl ⟨hcl, hob.1⟩)
      · split at h
        · rename_i hfl
          injection h with h; injection h with h1 h2; subst h1
          exact call_core (hent hcall) he hrc hob.2.1 (.inr ⟨hfl, hob.1⟩)
        · cases h
    · cases h
  · rename_i r π2 hcall
    split at h
    · rename_i hrc
      split at h
      · rename_i hcl
        injection h with h; injection h with h1 h2; subst h1
        exact call_core (hent hcall) he hrc hob.1 (.inl ⟨hcl, .refl _⟩)
      · split at h
        · rename_i hfl
          injection h with h; injection h with h1 h2; subst h1
          exact call_core (hent hcall) he hrc hob.1 (.inr ⟨hfl, .refl _⟩)
        · cases h
    · cases h
  · cases h
theorem vCall_ok {P : Program} {o : Oper} {fo : Operand} {args : Array Operand} {ats : Array TypeId} {σ : VS} {env : Env} {π π' : List PI} {E : Eff} (ho : o.op = .call { callee := .value fo, args := args, argTypes := ats }) (he : EnvOK env σ)
    (h : vCall P fo args (evV σ.t) env π = some (E, π')) (hob : All E.ob) : OpS P o σ E := by
  unfold vCall at h
  split at h
  · rename_i f caps hfo
    exact vCallA_ok (fun hc => enters_value ho hfo hc) he h hob
  · rename_i f c hfo
    exact vCallA_ok (fun hc => enters_bound ho hfo hc) he h hob
  · cases h
theorem vInv_ok {P : Program} {o : Oper} {recv : Operand} {name : String} {args : Array Operand} {ats : Array TypeId} {σ : VS} {env : Env} {π π' : List PI} {E : Eff} (ho : o.op = .call { callee := .invoke recv name, args := args, argTypes := ats }) (he : EnvOK env σ)
    (h : vInv P recv name args (evV σ.t) env π = some (E, π')) (hob : All E.ob) : OpS P o σ E := by
  unfold vInv at h
  split at h
  · rename_i t b hr
    split at h
    · rename_i f π1
      split at h
      · rename_i E1 π2 h1
        injection h with h; injection h with e1 e2; subst e1
        have := vCallA_ok (fun hc => enters_invoke ho hr hob.1 hc) he h1 hob.2
        exact this
      · cases h
    · cases h
  · cases h
end Go.Proofs.YtdmkhinckljddaaGreat

