/- Texts of this claim, put together: Base, At, FixP, FixC, Core, Own, Fin, Elems, Open, Rdr, ObA, LbA, LbB, LbC, LbD, LbE, LbF, LbG, ObB, Lbv, RoA, RoB, RoC, RoD, PkA, PkB, PkC, PkD, PkE, PkF, PkG, PkH, PkI, PkJ. No condition. -/
import Derived.Shelf.Bits.Mul64
import Derived.Handy
import Derived.ScopeJumps
import Derived.Test.YtgecmooedhnenaaProg
import Derived.WalkKit
import Derived.Below
import Derived.LoopTactic
import Derived.RegionTactic
import Derived.ChangeAlike
import Derived.BigRegion
import Derived.Deep.QuietTactic
import Derived.BigQuiet
import Derived.Lib.Hide
import Derived.WalkSpells
import Derived.WalkLawsBesides
import Derived.WalkSmall
import Derived.Laws.BytesString
import Derived.Laws.IdiomStrings
import Derived.Laws.BitsAllLaws
import Derived.Laws.AppendOwnNone
import Derived.PlainAid
import Derived.Laws.Tables
import Derived.Laws.CopyOwn
import Derived.Deep.WholeRow
import Derived.Laws.ResultCell
import Derived.OwnWalk
import Derived.Deep.Slices
import Derived.ProofKit
import Derived.OpenShut
import Derived.ShutString
import Derived.ChangeOld
import Derived.Outline
import Derived.Deep.LoopGhost
import Derived.Test.YtgecmooedhnenaaPackBlocksG2
set_option linter.unusedVariables false
set_option linter.unusedSimpArgs false
set_option linter.unnecessarySimpa false
set_option maxRecDepth 100000
set_option maxHeartbeats 2000000
/- Words that all texts of this seat share: a slice that reads as a list of values, and how that reading is kept. No condition. -/
namespace Go.Proofs.Ytgecmooedhnenaa
open Go.RowKit
theorem ret_int {k : IntKind} {a b : Int} (h : a = b) : Ending.returned (.int k a) = .returned (.int k b) := by rw [h]
def Rd (w : World) (v : Value) (xs : List Value) : Prop :=
  ∃ ao cap, v = .slice ao xs.length cap ∧ (xs.length ≤ cap ∧ cap ≤ maxLen ∧ (ao = none → cap = 0)) ∧ (xs ≠ [] → ∃ b off, ao = some ⟨b, off, none⟩ ∧ ∀ j (h : j < xs.length), w.cell? ⟨b, off + j, none⟩ = some xs[j])
theorem Rd.nil (w : World) : Rd w (.slice none 0 0) [] := ⟨none, 0, rfl, ⟨Nat.le_refl _, Nat.zero_le _, fun _ => rfl⟩, fun h => absurd rfl h⟩
theorem lt_of_cell {w : World} {a : Addr} {v : Value} (h : w.cell? a = some v) : a.block < w.heap.size := World.block_lt_of_cell? w a h
def Own (B : Nat) (w : World) (e : TypeId) (v : Value) (xs : List Value) : Prop := w.ownsRow B e 1 v xs.length xs
theorem Own.nil (B : Nat) (w : World) (e : TypeId) : Own B w e (.slice none 0 0) [] := World.ownsRow_nil _ _ _ _
theorem Own.rd {B : Nat} {w : World} {e : TypeId} {v : Value} {xs : List Value} (h : Own B w e v xs) : Rd w v xs := by
  have h0 := h
  obtain ⟨_, hcase⟩ := h
  rcases hcase with ⟨rfl, hn⟩ | ⟨g, cap, cur, rfl, hg, hh, hn, hcap, hsz, htake⟩
  · have : xs = [] := List.eq_nil_of_length_eq_zero hn
    subst this
    exact Rd.nil w
  · refine ⟨_, _, rfl, ⟨hn, hcap, by simp⟩, fun _ => ⟨g, 0, rfl, fun j hj => ?_⟩⟩
    rw [Nat.zero_add, World.ownsRow.cellAt h0 j (by omega), List.getElem?_eq_getElem hj]
theorem Own.below {B C : Nat} {w w' : World} {e : TypeId} {v : Value} {xs : List Value} (h : Own B w e v xs) (hb : Below C w w') (hC : w.heap.size ≤ C) : Own B w' e v xs := by
  refine ⟨h.1, ?_⟩
  rcases h.2 with h2 | ⟨g, cap, cur, hv, hg, hh, r⟩
  · exact .inl h2
  · refine .inr ⟨g, cap, cur, hv, hg, ?_, r⟩
    rw [hb.block g (Nat.lt_of_lt_of_le (Array.getElem?_eq_some_iff.1 hh).1 hC)]
    exact hh
theorem bl_step {w w1 w2 : World} (h : Below w.heap.size w w1) (k : Below w1.heap.size w1 w2) : Below w.heap.size w w2 :=
  h.trans (k.mono h.size)
theorem bl_get {w w' : World} (hb : Below w.heap.size w w') {b o : Nat} {v : Value} (h : w.cell? ⟨b, o, none⟩ = some v) : w'.cell? ⟨b, o, none⟩ = some v :=
  (hb.cell (p := ⟨b, o, none⟩) (lt_of_cell h)).trans h
theorem one_new (w : World) (x : Value) (t : TypeId) : ∀ j u, [x][j]? = some u → (w.alloc (.cells #[x] t)).cell? ((⟨w.heap.size, 0, none⟩ : Addr).add j) = some u := by
  intro j u hj
  match j, hj with
  | 0, hj =>
    simp at hj; subst hj
    rw [show (⟨w.heap.size, 0, none⟩ : Addr).add 0 = ⟨w.heap.size, 0, none⟩ from by simp [Addr.add], World.cell?_alloc_at _ _ _ _ rfl]; rfl
theorem one_cell (x : Value) (h : x.oneCell' = true) : ∀ u ∈ [x], u.oneCell' = true := by intro u hu; simp at hu; subst hu; exact h
def Held (p : Prop) : Prop := p
theorem hold {p : Prop} (h : Held p) : p := h
theorem unheld {p : Prop} (h : p) : Held p := h
theorem wpList_app1 {P : Program} {ops : Array Oper} {rest : List Oper} {o : Oper} {a : Act} {Q : Exit → Act → World → Prop} (hgd : o.guard = none) (s x : Operand) (t : TypeId)
    (ho : o.op = .call { callee := .builtin .append, args := #[s, x], argTypes := #[t, t] })
    (B : Nat) (e : TypeId) (i : TypeInfo) (z : Value) (bytes : Nat) (ht : P.underlying t = some (.slice e)) (hi : P.info? e = some i) (hz : i.zero = some z)
    (hsize : i.size = 1) (hby : i.bytes = bytes) (hbs : bytes ≤ 64) (hzs : z.cells.size = 1)
    (v : Value) (xs : List Value) (w0 : World) (u : Value) (te : TypeId)
    (hown : Own B w0 e v xs) (hs : a.eval s = v) (hx : a.eval x = .slice (some ⟨w0.heap.size, 0, none⟩) 1 1) (hu : u.oneCell' = true) (hlen : xs.length + 1 ≤ 1099511627776) (hB : B ≤ w0.heap.size)
    (h : ∀ v' w', Own B w' e v' (xs ++ [u]) → Below B w0 w' → wpList P ops Q rest (a.put o.dst v') w') :
    wpList P ops Q (o :: rest) a (w0.alloc (.cells #[u] te)) := by
  have h63 : xs.length + 1 ≤ maxLen := by unfold maxLen; omega
  have hbytes : (xs.length + 1) * bytes ≤ 140737488355328 := Nat.le_trans (Nat.mul_le_mul hlen hbs) (by decide)
  refine wpList_append_own _ hgd s x t ho B e i z 1 bytes ht hi hz hsize hby hzs (by decide) v xs.length xs hs (World.ownsRow.alloc hown _) ⟨w0.heap.size, 0, none⟩ 1 1 [u] hx rfl (one_new w0 u te) (one_cell u hu) h63 hbytes (by simp; omega) ?_
  intro v' w' hown' hgrow _
  refine h v' w' ?_ ?_
  · unfold Own; rw [List.length_append]; exact hown'
  · exact ((Below.refl B w0).alloc hB _).grown hgrow (by simp; omega) (fun k hk => (hown.lt k hk).1)
theorem add_off (b off j : Nat) : (⟨b, off, none⟩ : Addr).add j = ⟨b, off + j, none⟩ := by unfold Addr.add; split <;> simp_all
theorem wf_i64 {n : Int} (h : (Lit.int .i64 n).wf = true) : -9223372036854775808 ≤ n ∧ n ≤ 9223372036854775807 := by
  simp only [Lit.wf, IntKind.min, IntKind.max, IntKind.signed, IntKind.bits, Bool.and_eq_true, decide_eq_true_eq] at h; simp at h; omega
theorem wf_i32 {n : Int} (h : (Lit.int .i32 n).wf = true) : -2147483648 ≤ n ∧ n ≤ 2147483647 := by
  simp only [Lit.wf, IntKind.min, IntKind.max, IntKind.signed, IntKind.bits, Bool.and_eq_true] at h; simp at h; omega
theorem wf_u8 {n : Int} (h : (Lit.int .u8 n).wf = true) : 0 ≤ n ∧ n ≤ 255 := by
  simp only [Lit.wf, IntKind.min, IntKind.max, IntKind.signed, IntKind.bits, Bool.and_eq_true] at h; simp at h; omega
theorem wf_i8 {n : Int} (h : (Lit.int .i8 n).wf = true) : -128 ≤ n ∧ n ≤ 127 := by
  simp only [Lit.wf, IntKind.min, IntKind.max, IntKind.signed, IntKind.bits, Bool.and_eq_true] at h; simp at h; omega
theorem ints_one (k : IntKind) (zs : List Int) : ∀ u ∈ zs.map (Value.int k), u.oneCell' = true := ints_oneCell k zs
theorem wpList_appS {P : Program} {ops : Array Oper} {rest : List Oper} {o : Oper} {a : Act} {w : World} {Q : Exit → Act → World → Prop} (hgd : o.guard = none) (s x : Operand) (t : TypeId)
    (ho : o.op = .call { callee := .builtin .append, args := #[s, x], argTypes := #[t, t] })
    (B : Nat) (e : TypeId) (i : TypeInfo) (z : Value) (bytes : Nat) (ht : P.underlying t = some (.slice e)) (hi : P.info? e = some i) (hz : i.zero = some z)
    (hsize : i.size = 1) (hby : i.bytes = bytes) (hbs : bytes ≤ 64) (hzs : z.cells.size = 1)
    (v sv : Value) (xs news : List Value) (hown : Own B w e v xs) (hsrc : Rd w sv news) (hs : a.eval s = v) (hx : a.eval x = sv)
    (hu : ∀ u ∈ news, u.oneCell' = true) (hlen : xs.length + news.length ≤ 1099511627776) (hB : B ≤ w.heap.size)
    (h : ∀ v' w', Own B w' e v' (xs ++ news) → Below B w w' → wpList P ops Q rest (a.put o.dst v') w') :
    wpList P ops Q (o :: rest) a w := by
  have h63 : xs.length + news.length ≤ maxLen := by unfold maxLen; omega
  have hbytes : (xs.length + news.length) * bytes ≤ 140737488355328 := Nat.le_trans (Nat.mul_le_mul hlen hbs) (by decide)
  obtain ⟨ao, cap, rfl, hcap, hc⟩ := hsrc
  have fin : ∀ (ad : Addr), ao = some ad → (∀ j u, news[j]? = some u → w.cell? (ad.add j) = some u) → wpList P ops Q (o :: rest) a w := by
    rintro ad rfl hcells
    refine wpList_append_own _ hgd s x t ho B e i z 1 bytes ht hi hz hsize hby hzs (by decide) v xs.length xs hs hown ad news.length cap news hx (by simp) hcells hu h63 hbytes hB ?_
    intro v' w' hown' hgrow _
    refine h v' w' ?_ ?_
    · unfold Own; rw [List.length_append]; exact hown'
    · exact (Below.refl B w).grown hgrow hB (fun k hk => (hown.lt k hk).1)
  by_cases hne : news = []
  · subst hne
    cases ao with
    | none =>
      obtain rfl : cap = 0 := hcap.2.2 rfl
      refine wpList_append_own_none hgd s x t ho B e i 1 ht hi v xs.length xs hs hown hx ?_
      refine h v w (by rw [List.append_nil]; exact hown) (Below.refl B w)
    | some ad => exact fin ad rfl (by intro j u hj; simp at hj)
  · obtain ⟨b, off, rfl, hk⟩ := hc hne
    refine fin _ rfl (fun j u hj => ?_)
    obtain ⟨hj', rfl⟩ := List.getElem?_eq_some_iff.1 hj
    rw [add_off]; exact hk j hj'
end Go.Proofs.Ytgecmooedhnenaa
/- A block whose cells are all known. No condition. -/
namespace Go.Proofs.Ytgecmooedhnenaa
open Go.RowKit
def At (w : World) (g : Nat) (t : TypeId) (cs : Array Value) : Prop := w.heap[g]? = some (.cells cs t (0, 0))
end Go.Proofs.Ytgecmooedhnenaa
/- Plain laws of numbers by powers of two, rounded to the nearest, halves away from 0. No program here. No condition. -/
namespace Go.Proofs.Ytgecmooedhnenaa
def rn (m s : Nat) : Nat := if s = 0 then m else m / 2 ^ s + m / 2 ^ (s - 1) % 2
def rightQ (mult shift : Int) : Bool := decide (0 < mult) && decide (0 ≤ shift) && decide (shift ≤ 62)
end Go.Proofs.Ytgecmooedhnenaa
/- Whether a scale may be; a sum as a number between two (fix.Held, fix.Put, the document's Held); known of chapter 2. No condition. -/
namespace Go.Proofs.Ytgecmooedhnenaa
open Go.RowKit
theorem rightQ_true {m s : Int} (h : rightQ m s = true) : 0 < m ∧ 0 ≤ s ∧ s ≤ 62 := by unfold rightQ at h; simp at h; omega
set_option maxHeartbeats 400000 in
theorem right_any (m s z : Int) (w : World) : Calls Try.prog 157 #[.agg #[.int .i32 m, .int .i64 s, .int .i8 z]] w fun e w' => e = .returned (.bool (rightQ m s)) ∧ Below w.heap.size w w' := by
  by_cases h1 : 0 < m
  · by_cases h2 : 0 ≤ s
    · by_cases h3 : s ≤ 62
      · have e : rightQ m s = true := by unfold rightQ; simp [h1, h2, h3]
        rw [e]; clear e
        go_enter Try.func157, Try.ntmps157
        go_wp2
        go_ret
        exact ⟨rfl, (Below.refl _ _).alloc (Nat.le_refl _) _⟩
      · have e : rightQ m s = false := by unfold rightQ; simp [h3]
        rw [e]; clear e
        go_enter Try.func157, Try.ntmps157
        go_wp2
        go_ret
        exact ⟨rfl, (Below.refl _ _).alloc (Nat.le_refl _) _⟩
    · have e : rightQ m s = false := by unfold rightQ; simp [h2]
      rw [e]; clear e
      go_enter Try.func157, Try.ntmps157
      go_wp2
      go_ret
      exact ⟨rfl, (Below.refl _ _).alloc (Nat.le_refl _) _⟩
  · have e : rightQ m s = false := by unfold rightQ; simp [h1]
    rw [e]; clear e
    go_enter Try.func157, Try.ntmps157
    go_wp2
    go_ret
    exact ⟨rfl, (Below.refl _ _).alloc (Nat.le_refl _) _⟩
set_option maxHeartbeats 400000 in
theorem refRight_any (m s z : Int) (w : World) : Calls Try.prog 99 #[.agg #[.int .i32 m, .int .i64 s, .int .i8 z]] w fun e w' => e = .returned (.bool (rightQ m s)) ∧ Below w.heap.size w w' := by
  by_cases h1 : 0 < m
  · by_cases h2 : 0 ≤ s
    · by_cases h3 : s ≤ 62
      · have e : rightQ m s = true := by unfold rightQ; simp [h1, h2, h3]
        rw [e]; clear e
        go_enter Try.func99, Try.ntmps99
        go_wp2
        go_ret
        exact ⟨rfl, (Below.refl _ _).alloc (Nat.le_refl _) _⟩
      · have e : rightQ m s = false := by unfold rightQ; simp [h3]
        rw [e]; clear e
        go_enter Try.func99, Try.ntmps99
        go_wp2
        go_ret
        exact ⟨rfl, (Below.refl _ _).alloc (Nat.le_refl _) _⟩
    · have e : rightQ m s = false := by unfold rightQ; simp [h2]
      rw [e]; clear e
      go_enter Try.func99, Try.ntmps99
      go_wp2
      go_ret
      exact ⟨rfl, (Below.refl _ _).alloc (Nat.le_refl _) _⟩
  · have e : rightQ m s = false := by unfold rightQ; simp [h1]
    rw [e]; clear e
    go_enter Try.func99, Try.ntmps99
    go_wp2
    go_ret
    exact ⟨rfl, (Below.refl _ _).alloc (Nat.le_refl _) _⟩
end Go.Proofs.Ytgecmooedhnenaa
/- Scalar functions in the words of values; tensors and nodes. No condition. -/
namespace Go.Proofs.Ytgecmooedhnenaa
open Go.RowKit
structure Ten where
  h : Int
  x : Int
  c : Int
  d : List Int
abbrev In64 (n : Int) : Prop := -9223372036854775808 ≤ n ∧ n ≤ 9223372036854775807
abbrev In32 (n : Int) : Prop := -2147483648 ≤ n ∧ n ≤ 2147483647
abbrev In8 (n : Int) : Prop := -128 ≤ n ∧ n ≤ 127
abbrev ten (k : IntKind) (T : Ten) : AV := .agg [i64 T.h, i64 T.x, i64 T.c, ints k T.d]
structure Nod where
  kd : Int
  na : Int
  nb : Int
  nk : Int
  ns : Int
  np : Int
  no : Int
  za : Int
  zb : Int
  w : List Int
  b : List Int
  qm : Int
  qs : Int
  qz : Int
  rm : Int
  rs : Int
  rz : Int
  lo : Int
  hi : Int
abbrev nodC (n : Nod) : List AV := [i64 n.kd, i64 n.na, i64 n.nb, i64 n.nk, i64 n.ns, i64 n.np, i64 n.no, i8 n.za, i8 n.zb, ints .i8 n.w, ints .i32 n.b, i32 n.qm, i64 n.qs, i8 n.qz, i32 n.rm, i64 n.rs, i8 n.rz, i8 n.lo, i8 n.hi]
abbrev nod (n : Nod) : AV := .agg (nodC n)
structure Nod.Ok (n : Nod) : Prop where
  kd : In64 n.kd
  na : In64 n.na
  nb : In64 n.nb
  nk : In64 n.nk
  ns : In64 n.ns
  np : In64 n.np
  no : In64 n.no
  za : In8 n.za
  zb : In8 n.zb
  w : ∀ v ∈ n.w, In8 v
  b : ∀ v ∈ n.b, In32 v
  qm : In32 n.qm
  qs : In64 n.qs
  qz : In8 n.qz
  rm : In32 n.rm
  rs : In64 n.rs
  rz : In8 n.rz
  lo : In8 n.lo
  hi : In8 n.hi
theorem right_v (m s z : Int) : VC Try.prog 157 [.agg [i32 m, i64 s, i8 z]] (bv (rightQ m s)) :=
  VC.ofCalls (x := .bool (rightQ m s)) rfl rfl fun w => right_any m s z w
theorem refRight_v (m s z : Int) : VC Try.prog 99 [.agg [i32 m, i64 s, i8 z]] (bv (rightQ m s)) :=
  VC.ofCalls (x := .bool (rightQ m s)) rfl rfl fun w => refRight_any m s z w
end Go.Proofs.Ytgecmooedhnenaa
/- A row of the call's own: one of its cells is read or written anew. No condition. -/
namespace Go.Proofs.Ytgecmooedhnenaa
open Go.RowKit
theorem Own.form {B : Nat} {w : World} {e : TypeId} {v : Value} {xs : List Value} (h : Own B w e v xs) (hne : xs ≠ []) :
    ∃ g cap, v = .slice (some ⟨g, 0, none⟩) xs.length cap ∧ xs.length ≤ cap ∧ cap ≤ maxLen ∧ B ≤ g ∧ g < w.heap.size ∧ (∀ j (hj : j < xs.length), w.cell? ⟨g, j, none⟩ = some xs[j]) ∧ (∀ j, w.frozen? ⟨g, j, none⟩ = false) ∧
      ∀ i (u : Value), i < xs.length → Own B (w.setCell ⟨g, i, none⟩ u) e v (xs.set i u) := by
  have h0 := h
  obtain ⟨hl, hcase⟩ := h
  rcases hcase with ⟨rfl, hn⟩ | ⟨g, cap, cur, rfl, hg, hh, hn, hcap, hsz, htake⟩
  · exact absurd (List.eq_nil_of_length_eq_zero hn) hne
  · rw [Nat.mul_one] at hsz htake
    refine ⟨g, cap, rfl, hn, hcap, hg, (Array.getElem?_eq_some_iff.1 hh).1, fun j hj => ?_, fun j => by simp [World.frozen?, hh], fun i u hi => ?_⟩
    · rw [World.ownsRow.cellAt h0 j (by omega), List.getElem?_eq_getElem hj]
    · refine ⟨by simp, .inr ⟨g, cap, cur.setIfInBounds i u, by simp, hg, ?_, by simpa using hn, hcap, by simpa using hsz, ?_⟩⟩
      · simp [World.setCell, Array.getElem?_modify, hh]
      · rw [Nat.mul_one, Array.toList_setIfInBounds, List.length_set]
        rw [← htake]
        simp only [List.length_take, Array.length_toList]
        rw [show min xs.length cur.size = xs.length from by omega]
        rw [List.take_set]
theorem Own.at {B : Nat} {w : World} {e : TypeId} {g n cap : Nat} {xs : List Value} (h : Own B w e (.slice (some ⟨g, 0, none⟩) n cap) xs) (hne : xs ≠ []) :
    n = xs.length ∧ xs.length ≤ cap ∧ B ≤ g ∧ g < w.heap.size ∧ (∀ j (hj : j < xs.length), w.cell? ⟨g, j, none⟩ = some xs[j]) ∧ (∀ j, w.frozen? ⟨g, j, none⟩ = false) ∧
      ∀ i (u : Value), i < xs.length → Own B (w.setCell ⟨g, i, none⟩ u) e (.slice (some ⟨g, 0, none⟩) n cap) (xs.set i u) := by
  obtain ⟨g', cap', hv, h1, h2, h3, h4, h5, h6, h7⟩ := h.form hne
  injection hv with e1 e2 e3
  injection e1 with e1
  injection e1 with e1 _ _
  subst e1 e2 e3
  exact ⟨rfl, h1, h3, h4, h5, h6, h7⟩
theorem Rd.ints {w : World} {v : Value} {k : IntKind} {l : List Int} (h : Rd w v (l.map (Value.int k))) :
    ∃ ao cap, v = .slice ao l.length cap ∧ l.length ≤ cap ∧ cap ≤ 9223372036854775807 ∧ (l ≠ [] → ∃ b off, ao = some ⟨b, off, none⟩ ∧ ∀ j (hj : j < l.length), w.cell? ⟨b, off + j, none⟩ = some (.int k l[j])) := by
  obtain ⟨ao, cap, rfl, ⟨h1, h2, _⟩, hc⟩ := h
  rw [List.length_map] at h1
  refine ⟨ao, cap, by rw [List.length_map], h1, by unfold maxLen at h2; exact h2, fun hne => ?_⟩
  obtain ⟨b, off, rfl, hk⟩ := hc (by simpa using hne)
  exact ⟨b, off, rfl, fun j hj => by rw [hk j (by simpa using hj), List.getElem_map]⟩
theorem madeCells_one (z : Value) (n : Nat) : (madeCells #[z] (n * 1)).toList = List.replicate n z := by
  apply List.ext_getElem?
  intro i
  rw [Nat.mul_one]
  unfold madeCells
  by_cases h : i < n
  · simp [h, Nat.mod_one]
  · simp [h]
theorem wpList_makeO {P : Program} (w : World) {ops : Array Oper} {rest : List Oper} {o : Oper} {a : Act} {Q : Exit → Act → World → Prop} (hg : o.guard = none) (l c : Operand) (t : TypeId) (hop : o.op = Op.makeSlice t l c)
    (e : TypeId) (i : TypeInfo) (z : Value) (bytes : Nat) (ht : P.underlying t = some (.slice e)) (hi : P.info? e = some i) (hz : i.zero = some z) (hsize : i.size = 1) (hby : i.bytes = bytes) (hbs : bytes ≤ 64) (hzc : z.cells = #[z])
    (kl kc : IntKind) (n : Nat) (hl : a.eval l = .int kl (n : Int)) (hc : a.eval c = .int kc (n : Int)) (hn : n ≤ 1099511627776)
    (hK : ∀ w', Own w.heap.size w' e (.slice (some ⟨w.heap.size, 0, none⟩) n n) (List.replicate n z) → Below w.heap.size w w' → wpList P ops Q rest (a.put o.dst (.slice (some ⟨w.heap.size, 0, none⟩) n n)) w') :
    wpList P ops Q (o :: rest) a w := by
  refine wpList_make_full w hg l c t hop w.heap.size e i z 1 ht hi hz hsize kl kc _ _ n hl hc rfl rfl (by rw [hby]; exact Nat.le_trans (Nat.mul_le_mul hbs hn) (by decide)) (by unfold maxLen; omega) (Nat.le_refl _) ?_
  intro w' hown hgrow
  rw [hzc, madeCells_one] at hown
  refine hK w' ?_ ((Below.refl _ _).grown hgrow (Nat.le_refl _) (by simp))
  unfold Own; rw [List.length_replicate]; exact hown
def fill (A Z : List Value) (k : Nat) : List Value := A.take k ++ Z.drop k
theorem fill_zero (A Z : List Value) : fill A Z 0 = Z := by simp [fill]
theorem fill_all (A Z : List Value) (h : A.length = Z.length) : fill A Z A.length = A := by unfold fill; rw [List.take_length, h, List.drop_length, List.append_nil]
theorem fill_len (A Z : List Value) (h : A.length = Z.length) (k : Nat) : (fill A Z k).length = A.length := by simp [fill]; omega
theorem fill_set (A Z : List Value) (h : A.length = Z.length) (k : Nat) (hk : k < A.length) (u : Value) (hu : A[k]? = some u) : (fill A Z k).set k u = fill A Z (k + 1) := by
  apply List.ext_getElem?
  intro i
  unfold fill
  rw [List.getElem?_set]
  simp only [List.getElem?_append, List.length_take, List.length_append, List.length_drop, List.getElem?_take, List.getElem?_drop]
  by_cases hik : k = i
  · subst hik
    simp [hu, show min (k + 1) A.length = k + 1 by omega, show min k A.length = k by omega]
    omega
  · simp only [hik, if_false]
    by_cases h1 : i < k
    · simp [h1, show i < k + 1 by omega, show min (k + 1) A.length = k + 1 by omega, show min k A.length = k by omega]
    · have h2 : ¬ i < k + 1 := by omega
      simp [h1, h2, show min (k + 1) A.length = k + 1 by omega, show min k A.length = k by omega]
      congr 1; omega
end Go.Proofs.Ytgecmooedhnenaa
/- From the world's words into those of values: what a law's arguments are. No condition. -/
namespace Go.Proofs.Ytgecmooedhnenaa
open Go.RowKit
set_option linter.unusedSimpArgs false
set_option linter.unusedVariables false
set_option linter.unnecessarySimpa false
def RelL (w : World) (l : List AV) (vs : List Value) : Prop := vs.length = l.length ∧ ∀ (i : Nat) (c : AV) (v : Value), l[i]? = some c → vs[i]? = some v → Rel (fun _ => none) (fun _ => False) w c v
theorem RelL.nil (w : World) : RelL w [] [] := ⟨rfl, fun i c v h => by simp at h⟩
theorem RelL.cons {w : World} {c : AV} {v : Value} {l : List AV} {vs : List Value} (h : Rel (fun _ => none) (fun _ => False) w c v) (hl : RelL w l vs) : RelL w (c :: l) (v :: vs) := ⟨by simp [hl.1], fun i a b ha hb => by
  cases i with
  | zero => simp at ha hb; subst ha hb; exact h
  | succ i => exact hl.2 i a b (by simpa using ha) (by simpa using hb)⟩
theorem RelL.agg {w : World} {l : List AV} {vs : List Value} (h : RelL w l vs) : Rel (fun _ => none) (fun _ => False) w (.agg l) (.agg vs.toArray) := .agg h.1 h.2
theorem law_of {P : Program} {f : Nat} {args : List AV} {xs : List Value} {w : World} (h : VC P f args (bv true)) (hr : RelL w args xs) : Calls P f xs.toArray w fun e w' => e = .returned (.bool true) ∧ Below w.heap.size w w' :=
  (h (fun _ => False) w xs (fun _ h => h.elim) hr.1 hr.2).mono fun e w' ⟨x, he, hx, hb⟩ => ⟨by rw [he, rel_lit hx], hb⟩
end Go.Proofs.Ytgecmooedhnenaa
/- Slices whose elements have more than one cell: how they read, and the call's own ones. No condition. -/
namespace Go.Proofs.Ytgecmooedhnenaa
open Go.RowKit
set_option linter.unusedVariables false
set_option linter.unusedSimpArgs false
def RdN (c : Nat) (w : World) (v : Value) (rs : List (List Value)) : Prop :=
  (∀ r ∈ rs, r.length = c) ∧ ∃ ao cap, v = .slice ao rs.length cap ∧ (rs.length ≤ cap ∧ cap ≤ maxLen ∧ (ao = none → cap = 0)) ∧
    (rs ≠ [] → ∃ b off, ao = some ⟨b, off, none⟩ ∧ ∀ j r i u, rs[j]? = some r → r[i]? = some u → w.cell? ⟨b, off + j * c + i, none⟩ = some u)
theorem RdN.nil (c : Nat) (w : World) : RdN c w (.slice none 0 0) [] := ⟨by simp, none, 0, rfl, ⟨Nat.le_refl _, Nat.zero_le _, fun _ => rfl⟩, fun h => absurd rfl h⟩
end Go.Proofs.Ytgecmooedhnenaa
/- What an argument's reading tells of its cells: numbers, slices of numbers, fields of structs, elements of arrays. No condition. -/
namespace Go.Proofs.Ytgecmooedhnenaa
open Go.RowKit Go.ChangeShapes Go.WideShapes
section
variable {H : Type} {enc : TypeId × Value → H} {P : Program} {w : World} {sp : Nat → Bool} {held : Bool}
def Can {H : Type} (enc : TypeId × Value → H) (P : Program) (w : World) (sp : Nat → Bool) (held : Bool) (t : TypeId) (cs : List Value) : Prop := ∃ m x, DataW.trod enc P w 0 sp held m t cs = some x
theorem Can.of {t : TypeId} {v : Value} {d : DataW H} {p : List MemPlace} (h : DataW.Trod enc P w 0 sp held t v d p) : Can enc P w sp held t v.cells.toList := by
  obtain ⟨m, h⟩ := h; exact ⟨m, _, h⟩
theorem Can.int {t : TypeId} {k : IntKind} {c : Value} (ht : P.underlying t = some (.int k)) (h : Can enc P w sp held t [c]) : ∃ n, c = .int k n ∧ (Lit.int k n).wf = true := by
  obtain ⟨m, x, h⟩ := h
  obtain ⟨n, hc, _, hw⟩ := DataW.trod_int ht h
  exact ⟨n, by simpa using hc, hw⟩
theorem Can.bool {t : TypeId} {c : Value} (ht : P.underlying t = some .bool) (h : Can enc P w sp held t [c]) : ∃ b, c = .bool b := by
  obtain ⟨m, x, h⟩ := h
  obtain ⟨n, hc, _⟩ := DataW.trod_bool ht h
  exact ⟨n, by simpa using hc⟩
theorem Can.fields {t : TypeId} {fs : Array Field} {cs : List Value} (ht : P.underlying t = some (.struct fs)) (h : Can enc P w sp held t cs) :
    ∀ (i : Nat) (f : Field), fs[i]? = some f → Can enc P w sp held f.type ((cs.drop f.offset).take (P.cellsOf f.type)) := by
  obtain ⟨m, x, h⟩ := h
  obtain ⟨xs, n, _, _, _, hl, hf⟩ := DataW.trod_struct ht h
  intro i f hi
  have hlt : i < xs.length := by rw [hl]; exact (Array.getElem?_eq_some_iff.1 hi).1
  exact ⟨n, xs[i], by rw [hf i f hi, List.getElem?_eq_getElem hlt]⟩
theorem Can.slice {t e : TypeId} {v : Value} {c : Nat} (ht : P.underlying t = some (.slice e)) (hc : P.cellsOf e = c) (hc0 : 0 < c) (h : Can enc P w sp held t [v]) :
    ∃ rs : List (List Value), RdN c w v rs ∧ ∀ r ∈ rs, Can enc P w sp held e r := by
  obtain ⟨m0, x, h⟩ := h
  rcases Go.Deep.open_slice ht h with ⟨hcs, _⟩ | ⟨a, len, cap, m, n, D, Pl, hcs, _, hl, hm, hmm, _, hel⟩
  · simp only [List.cons.injEq, and_true] at hcs
    rw [hcs]; exact ⟨[], RdN.nil _ _, by simp⟩
  · simp only [List.cons.injEq, and_true] at hcs
    subst hcs
    have hlm : len ≤ m := by rw [hmm]; split <;> omega
    have hel' : ∀ i : Nat, ∃ r : List Value, i < len → w.cells? 0 (a.add (i * c)) c = some r ∧ Can enc P w sp held e r := by
      intro i
      by_cases hi : i < len
      · obtain ⟨cs', h1, h2⟩ := hel i (by omega)
        rw [hc] at h1
        exact ⟨cs', fun _ => ⟨h1, n, _, h2⟩⟩
      · exact ⟨[], fun h => absurd h hi⟩
    obtain ⟨R, hR⟩ : ∃ R : Nat → List Value, ∀ i, i < len → w.cells? 0 (a.add (i * c)) c = some (R i) ∧ Can enc P w sp held e (R i) := ⟨fun i => Classical.choose (hel' i), fun i => Classical.choose_spec (hel' i)⟩
    have key : ∀ i, i < len → (R i).length = c ∧ ∀ k, k < c → w.cell? ((a.add (i * c)).add k) = (R i)[k]? := by
      intro i hi
      have := World.cells?_some (hR i hi).1
      exact ⟨this.2.1, this.2.2⟩
    refine ⟨(List.range len).map R, ⟨?_, some a, cap, by simp, ⟨by simpa using hl, hm, by simp⟩, fun hne => ?_⟩, ?_⟩
    · intro r hr
      obtain ⟨i, hi, rfl⟩ := List.mem_map.1 hr
      exact (key i (List.mem_range.1 hi)).1
    · have h0 : 0 < len := by
        rcases Nat.eq_zero_or_pos len with h0 | h0
        · subst h0; simp at hne
        · exact h0
      obtain ⟨b, off, spot⟩ := a
      have g0 := (key 0 h0).2 0 hc0
      have hlt : 0 < (R 0).length := by rw [(key 0 h0).1]; exact hc0
      rw [List.getElem?_eq_getElem hlt] at g0
      have hs : spot = none := by simpa [Addr.add] using World.cell?_spot g0
      subst hs
      refine ⟨b, off, rfl, fun j r i u hj hi => ?_⟩
      rw [List.getElem?_map] at hj
      obtain ⟨j', hj', rfl⟩ := Option.map_eq_some_iff.1 hj
      obtain ⟨hjl, rfl⟩ : j < len ∧ j' = j := by
        have := List.getElem?_eq_some_iff.1 hj'
        obtain ⟨h1, h2⟩ := this
        simp at h1 h2; exact ⟨h1, h2.symm⟩
      have hic : i < c := by have := (List.getElem?_eq_some_iff.1 hi).1; rw [(key j' hjl).1] at this; exact this
      have := (key j' hjl).2 i hic
      rw [hi, add_off, add_off] at this
      rw [← this]
    · intro r hr
      obtain ⟨i, hi, rfl⟩ := List.mem_map.1 hr
      exact (hR i (List.mem_range.1 hi)).2
end
end Go.Proofs.Ytgecmooedhnenaa
/- What an argument of any type reads as: numbers, truth values, slices, structs, one in the other. No condition. -/
namespace Go.Proofs.Ytgecmooedhnenaa
open Go.RowKit Go.ChangeShapes Go.WideShapes
def CellsAre (w : World) (l : List AV) (cs : List Value) : Prop := cs.length = l.length ∧ ∀ (i : Nat) (a : AV) (v : Value), l[i]? = some a → cs[i]? = some v → PRel (fun _ => False) w a v ∧ v.oneCell' = true
theorem CellsAre.one {w : World} {a : AV} {v : Value} (h : PRel (fun _ => False) w a v) (h1 : v.oneCell' = true) : CellsAre w [a] [v] := ⟨rfl, fun i x y hx hy => by
  cases i with
  | zero => simp at hx hy; subst hx hy; exact ⟨h, h1⟩
  | succ i => simp at hx⟩
theorem CellsAre.app {w : World} {l m : List AV} {cs ds : List Value} (h : CellsAre w l cs) (g : CellsAre w m ds) : CellsAre w (l ++ m) (cs ++ ds) := ⟨by simp [h.1, g.1], fun i a v ha hv => by
  rw [List.getElem?_append] at ha hv
  rw [h.1] at hv
  split at ha
  · rw [if_pos ‹_›] at hv; exact h.2 i a v ha hv
  · rw [if_neg ‹_›] at hv; exact g.2 _ a v ha hv⟩
theorem CellsAre.rel {w : World} {l : List AV} {cs : List Value} (h : CellsAre w l cs) : RelL w l cs := ⟨h.1, fun i a v ha hv => .pure (h.2 i a v ha hv).1⟩
theorem CellsAre.agg {w : World} {l : List AV} {cs : List Value} (h : CellsAre w l cs) : Rel (fun _ => none) (fun _ => False) w (.agg l) (.agg cs.toArray) := RelL.agg h.rel
theorem CellsAre.val {w : World} {a : AV} {v : Value} (h : CellsAre w [a] [v]) : Rel (fun _ => none) (fun _ => False) w a v := h.rel.2 0 a v rfl rfl
section
variable {H : Type} (enc : TypeId × Value → H) (P : Program) (w : World)
def Rdr (t : TypeId) (D : Type) (av : D → List AV) (ok : D → Prop) : Prop := ∀ cs, Can enc P w (fun _ => true) true t cs → cs.length = P.cellsOf t → ∃ d, ok d ∧ CellsAre w (av d) cs
variable {enc P w}
theorem Rdr.map {t : TypeId} {D E : Type} {av : D → List AV} {ok : D → Prop} {av' : E → List AV} {ok' : E → Prop} (h : Rdr enc P w t D av ok) (g : D → E) (ha : ∀ d, av' (g d) = av d) (hk : ∀ d, ok d → ok' (g d)) : Rdr enc P w t E av' ok' := fun cs hc hl => by
  obtain ⟨d, h1, h2⟩ := h cs hc hl
  exact ⟨g d, hk d h1, by rw [ha]; exact h2⟩
theorem one_of_len {cs : List Value} (h : cs.length = 1) : ∃ c, cs = [c] := by
  match cs, h with
  | [c], _ => exact ⟨c, rfl⟩
theorem Rdr.int {t : TypeId} {k : IntKind} {ok : Int → Prop} (ht : P.underlying t = some (.int k)) (hc : P.cellsOf t = 1) (hk : ∀ n, (Lit.int k n).wf = true → ok n) : Rdr enc P w t Int (fun n => [.lit (.int k n)]) ok := fun cs h hl => by
  obtain ⟨c, rfl⟩ := one_of_len (hl.trans hc)
  obtain ⟨n, rfl, hw⟩ := Can.int ht h
  exact ⟨n, hk n hw, .one (.lit _) rfl⟩
theorem Rdr.bool {t : TypeId} (ht : P.underlying t = some .bool) (hc : P.cellsOf t = 1) : Rdr enc P w t Bool (fun b => [.lit (.bool b)]) (fun _ => True) := fun cs h hl => by
  obtain ⟨c, rfl⟩ := one_of_len (hl.trans hc)
  obtain ⟨b, rfl⟩ := Can.bool ht h
  exact ⟨b, trivial, .one (.lit _) rfl⟩
theorem Rdr.slice {t e : TypeId} {c : Nat} {D : Type} {av : D → List AV} {ok : D → Prop} (ht : P.underlying t = some (.slice e)) (hct : P.cellsOf t = 1) (hc : P.cellsOf e = c) (hc0 : 0 < c) (h : Rdr enc P w e D av ok) :
    Rdr enc P w t (List D) (fun l => [.sl c (l.map av)]) (fun l => ∀ d ∈ l, ok d) := fun cs hcan hl => by
  obtain ⟨v, rfl⟩ := one_of_len (hl.trans hct)
  obtain ⟨rs, ⟨hlen, ao, cap, rfl, ⟨h1, h2, h3⟩, hcell⟩, hr⟩ := Can.slice ht hc hc0 hcan
  have hds : ∀ (rs : List (List Value)), (∀ r ∈ rs, r.length = c) → (∀ r ∈ rs, Can enc P w (fun _ => true) true e r) → ∃ l : List D, l.length = rs.length ∧ (∀ d ∈ l, ok d) ∧ ∀ (i : Nat) (d : D) (r : List Value), l[i]? = some d → rs[i]? = some r → CellsAre w (av d) r := by
    intro rs
    induction rs with
    | nil => intro _ _; exact ⟨[], rfl, by simp, by simp⟩
    | cons r rs ih =>
      intro hl hr
      obtain ⟨d, g1, g2⟩ := h r (hr r (by simp)) ((hl r (by simp)).trans hc.symm)
      obtain ⟨l, g3, g4, g5⟩ := ih (fun q hq => hl q (by simp [hq])) (fun q hq => hr q (by simp [hq]))
      refine ⟨d :: l, by simp [g3], fun x hx => ?_, fun i x q hx hq => ?_⟩
      · rcases List.mem_cons.1 hx with rfl | hx
        · exact g1
        · exact g4 x hx
      · cases i with
        | zero => simp at hx hq; subst hx hq; exact g2
        | succ i => exact g5 i x q (by simpa using hx) (by simpa using hq)
  obtain ⟨l, g1, g2, g3⟩ := hds rs hlen hr
  refine ⟨l, g2, .one ?_ rfl⟩
  by_cases hne : rs = []
  · subst hne
    have : l = [] := List.eq_nil_of_length_eq_zero g1
    subst this
    exact .nil c h2 h3
  · obtain ⟨b, off, rfl, hcv⟩ := hcell hne
    have hlm : rs.length = (l.map av).length := by rw [List.length_map, g1]
    rw [hlm]
    have get : ∀ (i : Nat) (q : List AV), (l.map av)[i]? = some q → ∃ (r : List Value), rs[i]? = some r ∧ CellsAre w q r ∧ r.length = c := by
      intro i q hq
      rw [List.getElem?_map, Option.map_eq_some_iff] at hq
      obtain ⟨d, hd, rfl⟩ := hq
      have hi : i < rs.length := by rw [← g1]; exact (List.getElem?_eq_some_iff.1 hd).1
      exact ⟨rs[i], List.getElem?_eq_getElem hi, g3 i d _ hd (List.getElem?_eq_getElem hi), hlen _ (List.getElem_mem hi)⟩
    have cell : ∀ (i : Nat) (q : List AV) (j : Nat) (a : AV), (l.map av)[i]? = some q → q[j]? = some a → w.cell? ⟨b, off + i * c + j, none⟩ = some (((rs[i]?).getD [])[j]?.getD undef) ∧ PRel (fun _ => False) w a (((rs[i]?).getD [])[j]?.getD undef) ∧ (((rs[i]?).getD [])[j]?.getD undef).oneCell' = true := by
      intro i q j a hq ha
      obtain ⟨r, hr, hca, _⟩ := get i q hq
      have hj : j < r.length := by rw [hca.1]; exact (List.getElem?_eq_some_iff.1 ha).1
      rw [hr, Option.getD_some, List.getElem?_eq_getElem hj, Option.getD_some]
      have := hca.2 j a _ ha (List.getElem?_eq_getElem hj)
      exact ⟨hcv i r j _ hr (List.getElem?_eq_getElem hj), this.1, this.2⟩
    refine .sl (fun i j => ((rs[i]?).getD [])[j]?.getD undef) (fun _ h => h) (fun hn => ?_) (by rw [← hlm]; exact h1) h2 (fun i q hq => ?_) (fun i q j a hq ha => (cell i q j a hq ha).1) (fun i q j a hq ha => (cell i q j a hq ha).2.1) (fun i q j a hq ha => (cell i q j a hq ha).2.2)
    · have h0 : 0 < rs.length := List.length_pos_iff.2 hne
      have hl0 : 0 < (rs[0]).length := by rw [hlen _ (List.getElem_mem h0)]; exact hc0
      exact World.block_lt_of_cell? w _ (hcv 0 rs[0] 0 _ (List.getElem?_eq_getElem h0) (List.getElem?_eq_getElem hl0))
    · obtain ⟨r, _, hca, hrl⟩ := get i q hq
      rw [← hca.1, hrl]
def RdrF (enc : TypeId × Value → H) (P : Program) (w : World) (fs : List Field) (off n : Nat) (D : Type) (av : D → List AV) (ok : D → Prop) : Prop :=
  ∀ cs : List Value, cs.length = n → (∀ f ∈ fs, Can enc P w (fun _ => true) true f.type ((cs.drop f.offset).take (P.cellsOf f.type))) → ∃ d, ok d ∧ CellsAre w (av d) (cs.drop off)
theorem RdrF.nil {n off : Nat} (h : n ≤ off) : RdrF enc P w [] off n Unit (fun _ => []) (fun _ => True) := fun cs hl _ => ⟨(), trivial, by
  rw [List.drop_eq_nil_of_le (by omega)]; exact ⟨rfl, by simp⟩⟩
theorem RdrF.cons {f : Field} {fs : List Field} {off n c : Nat} {D E : Type} {av : D → List AV} {ok : D → Prop} {av' : E → List AV} {ok' : E → Prop} (ho : f.offset = off) (hc : P.cellsOf f.type = c) (hn : off + c ≤ n) (h : Rdr enc P w f.type D av ok) (g : RdrF enc P w fs (off + c) n E av' ok') :
    RdrF enc P w (f :: fs) off n (D × E) (fun d => av d.1 ++ av' d.2) (fun d => ok d.1 ∧ ok' d.2) := fun cs hl hf => by
  obtain ⟨d, h1, h2⟩ := h _ (hf f (by simp)) (by simp; omega)
  obtain ⟨e, h3, h4⟩ := g cs hl (fun x hx => hf x (by simp [hx]))
  refine ⟨(d, e), ⟨h1, h3⟩, ?_⟩
  have : cs.drop off = (cs.drop f.offset).take (P.cellsOf f.type) ++ cs.drop (off + c) := by
    rw [ho, hc, ← List.drop_drop, List.take_append_drop]
  rw [this]; exact h2.app h4
theorem Rdr.struct {t : TypeId} {fs : List Field} {n : Nat} {D : Type} {av : D → List AV} {ok : D → Prop} (ht : P.underlying t = some (.struct fs.toArray)) (hn : P.cellsOf t = n) (h : RdrF enc P w fs 0 n D av ok) : Rdr enc P w t D av ok := fun cs hc hl => by
  obtain ⟨d, h1, h2⟩ := h cs (hl.trans hn) (fun f hf => by
    obtain ⟨i, hi⟩ := List.mem_iff_getElem?.1 hf
    exact Can.fields ht hc i f (by simpa using hi))
  exact ⟨d, h1, by simpa using h2⟩
theorem Rdr.aggV {t : TypeId} {fs : Array Field} {D : Type} {av : D → List AV} {ok : D → Prop} {v : Value} {d : DataW H} {p : List MemPlace} {r : Reach} {base : Nat} (h : Rdr enc P w t D av ok) (ht : P.underlying t = some (.struct fs)) (hv : Value.okWide P w r base t v) (hd : DataW.Trod enc P w 0 (fun _ => true) true t v d p) :
    ∃ x, ok x ∧ Rel (fun _ => none) (fun _ => False) w (.agg (av x)) v := by
  obtain ⟨cs, rfl, hs⟩ := okWide_struct ht hv
  obtain ⟨x, h1, h2⟩ := h _ (Can.of hd) (by simpa [Value.cells] using hs)
  refine ⟨x, h1, ?_⟩
  have := h2.agg
  simpa [Value.cells] using this
theorem Rdr.oneV {t : TypeId} {D : Type} {a : D → AV} {ok : D → Prop} {v : Value} {d : DataW H} {p : List MemPlace} (h : Rdr enc P w t D (fun x => [a x]) ok) (hv : v.cells = #[v]) (hc : P.cellsOf t = 1) (hd : DataW.Trod enc P w 0 (fun _ => true) true t v d p) : ∃ x, ok x ∧ Rel (fun _ => none) (fun _ => False) w (a x) v := by
  obtain ⟨x, h1, h2⟩ := h _ (Can.of hd) (by rw [hv, hc]; rfl)
  rw [hv] at h2
  exact ⟨x, h1, CellsAre.val h2⟩
end
end Go.Proofs.Ytgecmooedhnenaa
/- Numbers as bytes: four bytes; small numbers. No condition. -/
namespace Go.Proofs.Ytgecmooedhnenaa
open Go.RowKit
def smallL (l : List Int) : List Int := l.map fun v => v % 256
theorem u8conv (n : Int) : IntKind.u8.wrap n = n % 256 := IntKind.wrap_u8' n
set_option maxHeartbeats 800000 in
theorem small_any (v : Value) (xs : List Int) (w : World) (hv : Rd w v (xs.map (Value.int .i8))) (hl : xs.length ≤ 1000000) :
    Calls Try.prog 258 #[v] w fun e w' => ∃ r, e = .returned r ∧ Own w.heap.size w' 5 r ((smallL xs).map (Value.int .u8)) ∧ Below w.heap.size w w' := by
  obtain ⟨a, c, rfl, hle, hm, ha⟩ := hv.ints
  obtain ⟨i0, hi, hz0, hz1, hz2⟩ := info_parts (show (Try.prog.info? 5).map (fun i => (i.zero, i.size, i.bytes)) = some (some (.int .u8 0), 1, 1) from by kernel_rfl)
  have hsl : ((smallL xs).map (Value.int .u8)).length = xs.length := by simp [smallL]
  have HSL := Lib.hid hsl; clear hsl
  go_enter Try.func258, Try.ntmps258
  go_wp2_with (at_make; refine wpList_makeO w rfl _ _ 64 rfl 5 i0 (.int .u8 0) 1 Try.underlying64 hi hz0 hz1 hz2 (by decide) rfl _ _ xs.length rfl rfl (by omega) ?_)
  intro w1 hown hb1
  obtain ⟨g, hg⟩ : ∃ g, g = w.heap.size := ⟨_, rfl⟩
  rw [← hg] at hown ⊢
  have HG := Lib.hid hg; clear hg
  go_wp2_with fail
  go_loopw [4, 5, 11] (fun _ _ i wr => ∃ (k : Nat), i = .int .i64 k ∧ k ≤ xs.length ∧ Own g wr 5 (.slice (some ⟨g, 0, none⟩) xs.length xs.length) (fill ((smallL xs).map (Value.int .u8)) (List.replicate xs.length (.int .u8 0)) k) ∧ Below w.heap.size w wr) (fun _ _ i _ => xs.length - (intOf i).toNat)
  case atStart => exact ⟨0, rfl, by omega, by rw [fill_zero]; exact hown, hb1⟩
  case round =>
    obtain ⟨k, rfl, hk, hown, hb⟩ := hrel
    by_cases hlt : k < xs.length
    · obtain ⟨b, o, rfl, hc⟩ := ha (by intro h; subst h; simp at hlt)
      have hcell := bl_get hb (hc k hlt)
      obtain ⟨x1, x2, x3, x4, h5, h6, h7⟩ := hown.at (by intro h; have := congrArg List.length h; rw [fill_len _ _ (by rw [HSL.out]; simp), HSL.out, List.length_nil] at this; omega)
      have hl := fill_len ((smallL xs).map (Value.int .u8)) (List.replicate xs.length (.int .u8 0)) (by rw [HSL.out]; simp) k
      rw [HSL.out] at hl
      obtain ⟨y, c9⟩ : ∃ y, wr.cell? ⟨g, k, none⟩ = some y := ⟨_, h5 k (by omega)⟩
      have f9 := h6 k
      have H7 := Lib.hid (h7 k (.int .u8 (xs[k] % 256)) (by omega))
      have hget : ((smallL xs).map (Value.int .u8))[k]? = some (.int .u8 (xs[k] % 256)) := by simp [smallL, hlt]
      have HGT := Lib.hid hget
      obtain ⟨x, hx⟩ : ∃ x, x = xs[k] := ⟨_, rfl⟩
      rw [← hx] at hcell H7 HGT
      have hu8 : IntKind.u8.wrap x = x % 256 := u8conv x
      have hgl : w.heap.size ≤ g := by rw [HG.out]; exact Nat.le_refl _
      have kk0 : (0 : Int) ≤ (k : Int) := by omega
      have kk1 : (k : Int) < (xs.length : Int) := by omega
      clear h5 h6 h7 hl hown x1 x2 x3 x4 hget hx hc ha
      go_wp2_with fail
      go_roundw
      case rel =>
        refine ⟨k + 1, by go_num, by omega, ?_, hb.setCell hgl _⟩
        have := H7.out
        rwa [fill_set _ _ (by rw [HSL.out]; simp) k (by rw [HSL.out]; exact hlt) _ HGT.out] at this
      case measure => simp [intOf]; omega
    · obtain rfl : k = xs.length := by omega
      have e := fill_all ((smallL xs).map (Value.int .u8)) (List.replicate xs.length (.int .u8 0)) (by rw [HSL.out]; simp)
      rw [HSL.out] at e
      rw [e] at hown
      clear e
      go_wp2
      go_ret
      exact ⟨_, rfl, by rw [← HG.out]; exact hown, hb⟩
set_option maxHeartbeats 800000 in
theorem refSmall_any (v : Value) (xs : List Int) (w : World) (hv : Rd w v (xs.map (Value.int .i8))) (hl : xs.length ≤ 1000000) :
    Calls Try.prog 178 #[v] w fun e w' => ∃ r, e = .returned r ∧ Own w.heap.size w' 5 r ((smallL xs).map (Value.int .u8)) ∧ Below w.heap.size w w' := by
  obtain ⟨a, c, rfl, hle, hm, ha⟩ := hv.ints
  obtain ⟨i0, hi, hz0, hz1, hz2⟩ := info_parts (show (Try.prog.info? 5).map (fun i => (i.zero, i.size, i.bytes)) = some (some (.int .u8 0), 1, 1) from by kernel_rfl)
  go_enter Try.func178, Try.ntmps178
  go_wp2_with fail
  go_loopw [3, 4] (fun r i wr => ∃ (k : Nat), i = .int .i64 k ∧ k ≤ xs.length ∧ Own w.heap.size wr 5 r ((smallL (xs.take k)).map (Value.int .u8)) ∧ Below w.heap.size w wr) (fun _ i _ => xs.length - (intOf i).toNat)
  case atStart => exact ⟨0, rfl, by omega, Own.nil _ _ _, Below.refl _ _⟩
  case round =>
    obtain ⟨k, rfl, hk, hown, hb⟩ := hrel
    by_cases hlt : k < xs.length
    · obtain ⟨b, o, rfl, hc⟩ := ha (by intro h; subst h; simp at hlt)
      have hcell := bl_get hb (hc k hlt)
      have hst : (smallL (xs.take (k + 1))).map (Value.int .u8) = (smallL (xs.take k)).map (Value.int .u8) ++ [.int .u8 (xs[k] % 256)] := by
        unfold smallL; rw [List.take_succ_eq_append_getElem hlt, List.map_append, List.map_append]; rfl
      have hlk : ((smallL (xs.take k)).map (Value.int .u8)).length ≤ 1000000 := by simp [smallL]; omega
      obtain ⟨x, hx⟩ : ∃ x, x = xs[k] := ⟨_, rfl⟩
      rw [← hx] at hcell hst
      have hu8 : IntKind.u8.wrap x = x % 256 := u8conv x
      have HST := Lib.hid hst; have HO := Lib.hid hown; have HLK := Lib.hid hlk
      have kk0 : (0 : Int) ≤ (k : Int) := by omega
      have kk1 : (k : Int) < (xs.length : Int) := by omega
      clear hst hx hc ha hown hlk
      go_wp2_with (at_builtin; refine hold ?_)
      refine unheld ?_
      refine wpList_app1 rfl _ _ 64 rfl w.heap.size 5 i0 (.int .u8 0) 1 Try.underlying64 hi hz0 hz1 hz2 (by decide) rfl _ _ wr (.int .u8 (x % 256)) _ HO.out rfl rfl rfl (by have := HLK.out; omega) hb.size ?_
      intro v' w' hown' hb'
      have HO2 := Lib.hid hown'; clear hown'
      go_wp2_with fail
      go_roundw
      case rel => exact ⟨k + 1, by go_num, by omega, by rw [HST.out]; exact HO2.out, hb.trans hb'⟩
      case measure => simp [intOf]; omega
    · have hkk : xs.take k = xs := List.take_of_length_le (by omega)
      rw [hkk] at hown
      go_wp2
      go_ret
      exact ⟨_, rfl, hown, hb⟩
end Go.Proofs.Ytgecmooedhnenaa
/- The bytes of a number (leb.Put, the document's Put), how many they are, and whether two lists of bytes are alike. No condition. -/
namespace Go.Proofs.Ytgecmooedhnenaa
open Go.RowKit
def putL (n : Nat) : List Int := if n < 128 then [(n : Int)] else ((n % 128 + 128 : Nat) : Int) :: putL (n / 128)
termination_by n
decreasing_by omega
theorem putL_len (k : Nat) : ∀ n, n < 128 ^ (k + 1) → (putL n).length ≤ k + 1 := by
  induction k with
  | zero => intro n h; rw [putL, if_pos (by omega)]; simp
  | succ k ih =>
    intro n h
    rw [putL]
    by_cases hn : n < 128
    · rw [if_pos hn]; simp
    · rw [if_neg hn]
      have := ih (n / 128) (by rw [Nat.pow_succ] at h; omega)
      simp only [List.length_cons]; omega
theorem putL_len10 (n : Nat) (h : n < 18446744073709551616) : (putL n).length ≤ 10 := putL_len 9 n (by omega)
theorem Try.info5 : (Try.prog.info? 5).map (fun i => (i.zero, i.size, i.bytes)) = some (some (.int .u8 0), 1, 1) := by kernel_rfl
theorem or128 (n : Nat) : bits BinOp.or IntKind.u8 ((n : Int) % 256) 128 = ((n % 128 + 128 : Nat) : Int) := by
  have h : ∀ x : Fin 256, bits BinOp.or IntKind.u8 ((x.val : Nat) : Int) 128 = ((x.val % 128 + 128 : Nat) : Int) := by decide +kernel
  have h' := h ⟨n % 256, by omega⟩
  have e1 : ((n : Int) % 256) = ((n % 256 : Nat) : Int) := by omega
  have e2 : n % 256 % 128 = n % 128 := by omega
  rw [e1, h']
  show ((n % 256 % 128 + 128 : Nat) : Int) = _
  rw [e2]
set_option maxHeartbeats 400000 in
theorem put_any (n : Int) (w : World) (h0 : 0 ≤ n) (h1 : n ≤ 18446744073709551615) :
    Calls Try.prog 176 #[.int .u64 n] w fun e w' => ∃ v, e = .returned v ∧ Own w.heap.size w' 5 v ((putL n.toNat).map (Value.int .u8)) ∧ Below w.heap.size w w' := by
  obtain ⟨i0, hi, hz0, hz1, hz2⟩ := info_parts Try.info5
  obtain ⟨m0, rfl⟩ := Int.eq_ofNat_of_zero_le h0
  have hl := putL_len10 m0 (by omega)
  go_enter Try.func176, Try.ntmps176
  go_wp2
  go_loopw [0, 3] (fun n v wr => ∃ (m : Nat) (acc : List Int), n = .int .u64 m ∧ m ≤ 18446744073709551615 ∧ Own w.heap.size wr 5 v (acc.map (Value.int .u8)) ∧ Below w.heap.size w wr ∧ acc ++ putL m = putL m0)
    (fun n _ _ => (intOf n).toNat)
  case atStart => exact ⟨m0, [], rfl, by omega, Own.nil _ _ _, Below.refl _ _, rfl⟩
  case round =>
    obtain ⟨m, acc, rfl, hm, hown, hb, hacc⟩ := hrel
    have hal : acc.length ≤ 10 := by have := congrArg List.length hacc; simp at this; omega
    have HA := Lib.hid hacc; clear hacc
    have HM := Lib.hid hm; clear hm; have H1 := Lib.hid h1; clear h1
    by_cases hlt : m < 128
    · go_wp2_with (at_builtin; go_must (refine wpList_app1 rfl _ _ 64 rfl w.heap.size 5 i0 (.int .u8 0) 1 Try.underlying64 hi hz0 hz1 hz2 (by decide) rfl _ _ _ _ _ hown rfl rfl rfl (by simp; omega) hb.size ?_))
      intro v' w1 hown1 hb1
      go_wp2
      go_ret
      refine ⟨v', rfl, ?_, hb.trans hb1⟩
      rw [Int.toNat_natCast, ← HA.out, putL, if_pos hlt, List.map_append]; exact hown1
    · go_wp2_with (at_builtin; go_must (refine wpList_app1 rfl _ _ 64 rfl w.heap.size 5 i0 (.int .u8 0) 1 Try.underlying64 hi hz0 hz1 hz2 (by decide) rfl _ _ _ _ _ hown rfl rfl rfl (by simp; omega) hb.size ?_))
      intro v' w1 hown1 hb1
      go_wp2
      go_roundw
      case rel =>
        refine ⟨m / 128, acc ++ [((m % 128 + 128 : Nat) : Int)], by go_num, by have := HM.out; omega, ?_, hb.trans hb1, ?_⟩
        · rw [List.map_append]; rw [or128] at hown1; exact hown1
        · rw [← HA.out, List.append_assoc]; conv => rhs; rw [putL, if_neg hlt]
          rfl
      case measure => simp [intOf]; omega
set_option maxHeartbeats 400000 in
theorem refPut_any (n : Int) (w : World) (h0 : 0 ≤ n) (h1 : n ≤ 18446744073709551615) :
    Calls Try.prog 177 #[.int .u64 n] w fun e w' => ∃ v, e = .returned v ∧ Own w.heap.size w' 5 v ((putL n.toNat).map (Value.int .u8)) ∧ Below w.heap.size w w' := by
  obtain ⟨i0, hi, hz0, hz1, hz2⟩ := info_parts Try.info5
  obtain ⟨m0, rfl⟩ := Int.eq_ofNat_of_zero_le h0
  have hl := putL_len10 m0 (by omega)
  have H1 := Lib.hid h1; clear h1
  go_enter Try.func177, Try.ntmps177
  go_wp2
  go_loopw [0, 3] (fun n v wr => ∃ (m : Nat) (acc : List Int), n = .int .u64 m ∧ m ≤ 18446744073709551615 ∧ Own w.heap.size wr 5 v (acc.map (Value.int .u8)) ∧ Below w.heap.size w wr ∧ acc ++ putL m = putL m0)
    (fun n _ _ => (intOf n).toNat)
  case atStart => exact ⟨m0, [], rfl, by have := H1.out; omega, Own.nil _ _ _, Below.refl _ _, rfl⟩
  case round =>
    obtain ⟨m, acc, rfl, hm, hown, hb, hacc⟩ := hrel
    have hal : acc.length ≤ 10 := by have := congrArg List.length hacc; simp at this; omega
    have HA := Lib.hid hacc; clear hacc
    have hmi : (m : Int) ≤ 18446744073709551615 := by omega
    have HM := Lib.hid hm; clear hm
    by_cases hlt : m < 128
    · go_wp2_with (at_builtin; go_must (refine wpList_app1 rfl _ _ 64 rfl w.heap.size 5 i0 (.int .u8 0) 1 Try.underlying64 hi hz0 hz1 hz2 (by decide) rfl _ _ _ _ _ hown rfl rfl rfl (by simp; omega) hb.size ?_))
      intro v' w1 hown1 hb1
      go_wp2
      go_ret
      refine ⟨v', rfl, ?_, hb.trans hb1⟩
      rw [Int.toNat_natCast, ← HA.out, putL, if_pos hlt, List.map_append]; exact hown1
    · have ew : IntKind.u8.wrap ((m : Int) % 128 + 128) = ((m % 128 + 128 : Nat) : Int) := by rw [IntWalk.u8_in _ (by omega)]; omega
      go_wp2_with (at_builtin; go_must (refine wpList_app1 rfl _ _ 64 rfl w.heap.size 5 i0 (.int .u8 0) 1 Try.underlying64 hi hz0 hz1 hz2 (by decide) rfl _ _ _ _ _ hown rfl rfl rfl (by simp; omega) hb.size ?_))
      intro v' w1 hown1 hb1
      go_wp2
      go_roundw
      case rel =>
        refine ⟨m / 128, acc ++ [((m % 128 + 128 : Nat) : Int)], by go_num, by have := HM.out; omega, ?_, hb.trans hb1, ?_⟩
        · rw [List.map_append]; exact hown1
        · rw [← HA.out, List.append_assoc]; conv => rhs; rw [putL, if_neg hlt]
          rfl
      case measure => simp [intOf]; omega
end Go.Proofs.Ytgecmooedhnenaa
/- Numbers with a sign as bytes, and what fixed calls make (leb.PutInt, the document's Fold, known of chapter 6). No condition. -/
namespace Go.Proofs.Ytgecmooedhnenaa
open Go.RowKit
def foldN (v : Int) : Int := if 0 ≤ v then 2 * v else 2 * (-(v + 1)) + 1
set_option maxHeartbeats 400000 in
theorem fold_any (v : Int) (w : World) (h0 : -9223372036854775808 ≤ v) (h1 : v ≤ 9223372036854775807) :
    Calls Try.prog 211 #[.int .i64 v] w fun e w' => e = .returned (.int .u64 (foldN v)) ∧ w = w' := by
  by_cases hv : 0 ≤ v
  · go_enter Try.func211, Try.ntmps211
    go_wp2
    go_ret
    exact ⟨ret_int (by unfold foldN; rw [if_pos hv]), rfl⟩
  · go_enter Try.func211, Try.ntmps211
    go_wp2
    go_ret
    exact ⟨ret_int (by unfold foldN; rw [if_neg (by omega)]), rfl⟩
theorem xor_ones (a : Nat) (h : a < 18446744073709551616) : a ^^^ 18446744073709551615 = 18446744073709551615 - a := by
  have h1 := congrArg BitVec.toNat (BitVec.xor_allOnes (x := BitVec.ofNat 64 a))
  rw [BitVec.toNat_xor, BitVec.toNat_not, BitVec.toNat_allOnes, BitVec.toNat_ofNat, Nat.mod_eq_of_lt (by omega)] at h1
  simpa using h1
theorem fold_xor_pos (v : Int) (h0 : 0 ≤ v) (h1 : v ≤ 9223372036854775807) : bits BinOp.xor IntKind.u64 (v * 2) (v / 9223372036854775808) = foldN v := by
  rw [PlainAid.shr63_nonneg h0 h1, u64_xor _ _ (by omega) (by omega) (by omega) (by omega)]
  unfold foldN; rw [if_pos h0]
  simp; omega
theorem fold_xor_neg (v : Int) (h0 : v < 0) (h1 : -9223372036854775808 ≤ v) :
    bits BinOp.xor IntKind.u64 (IntKind.u64.wrap (IntKind.u64.wrap v * 2)) (IntKind.u64.wrap (v / 9223372036854775808)) = foldN v := by
  rw [PlainAid.shr63_neg h0 h1]
  have e1 : IntKind.u64.wrap (-1) = 18446744073709551615 := by decide
  have e2 : IntKind.u64.wrap (IntKind.u64.wrap v * 2) = 2 * v + 18446744073709551616 := by
    simp only [IntKind.wrap_u64]; omega
  rw [e1, e2, u64_xor _ _ (by omega) (by omega) (by omega) (by omega)]
  have e3 : (18446744073709551615 : Int).toNat = 18446744073709551615 := by decide
  rw [e3, xor_ones _ (by omega)]
  unfold foldN; rw [if_neg (by omega)]
  omega
theorem foldN_bd (v : Int) (h0 : -9223372036854775808 ≤ v) (h1 : v ≤ 9223372036854775807) : 0 ≤ foldN v ∧ foldN v ≤ 18446744073709551615 := by
  unfold foldN; split <;> omega
set_option maxHeartbeats 400000 in
theorem putInt_any (v : Int) (w : World) (h0 : -9223372036854775808 ≤ v) (h1 : v ≤ 9223372036854775807) :
    Calls Try.prog 260 #[.int .i64 v] w fun e w' => ∃ r, e = .returned r ∧ Own w.heap.size w' 5 r ((putL (foldN v).toNat).map (Value.int .u8)) ∧ Below w.heap.size w w' := by
  have hf := foldN_bd v h0 h1
  by_cases hv : 0 ≤ v
  · have he := Lib.hid (fold_xor_pos v hv h1)
    go_enter Try.func260, Try.ntmps260
    go_wp2_with fail
    rw [he.out]
    refine (put_any _ _ hf.1 hf.2).mono ?_
    rintro e w1 ⟨r, rfl, hown, hb⟩
    go_wp2
    go_ret
    exact ⟨r, rfl, hown, hb⟩
  · have he := Lib.hid (fold_xor_neg v (by omega) h0)
    go_enter Try.func260, Try.ntmps260
    go_wp2_with fail
    rw [he.out]
    refine (put_any _ _ hf.1 hf.2).mono ?_
    rintro e w1 ⟨r, rfl, hown, hb⟩
    go_wp2
    go_ret
    exact ⟨r, rfl, hown, hb⟩
end Go.Proofs.Ytgecmooedhnenaa
/- Plain laws of numbers as bytes: what is got, that it comes back, in one form alone. No program here. No condition. -/
namespace Go.Proofs.Ytgecmooedhnenaa
def val : List Int → Int
  | [] => 0
  | c :: r => c % 128 + 128 * val r
def fin : List Int → Nat → Option Nat
  | [], _ => none
  | c :: r, k => if 10 ≤ k then none else if c < 128 then some 0 else (fin r (k + 1)).map (· + 1)
def getAt : List Int → Nat → Int → Int × Int × Int
  | [], _, _ => (0, 0, 20)
  | c :: r, k, n =>
    if k = 9 ∧ 1 < c then (0, 0, 21) else if c = 0 ∧ 0 < k then (0, 0, 21) else
    if c < 128 then (n + c % 128 * 128 ^ k, (k : Int) + 1, 0) else getAt r (k + 1) (n + c % 128 * 128 ^ k)
def refGet (xs : List Int) (k : Nat) (n : Int) : Int × Int × Int :=
  match fin xs k with
  | none => (0, 0, if 10 ≤ xs.length + k then 21 else 20)
  | some j => if (j + k = 9 ∧ 1 < xs.getD j 0) ∨ (0 < j + k ∧ xs.getD j 0 = 0) then (0, 0, 21) else (n + 128 ^ k * val (xs.take (j + 1)), (k : Int) + j + 1, 0)
theorem fin_lt : ∀ (xs : List Int) (k j : Nat), fin xs k = some j → j < xs.length ∧ j + k < 10
  | [], _, _, h => by simp [fin] at h
  | c :: r, k, j, h => by
    rw [fin] at h
    split at h
    · simp at h
    · split at h
      · simp at h; subst h; simp; omega
      · obtain ⟨i, hi, rfl⟩ := Option.map_eq_some_iff.1 h
        have := fin_lt r (k + 1) i hi
        simp; omega
theorem getAt_eq : ∀ (xs : List Int) (k : Nat) (n : Int), k ≤ 9 → getAt xs k n = refGet xs k n
  | [], k, n, hk => by simp [getAt, refGet, fin]; omega
  | c :: r, k, n, hk => by
    have e10 : ¬ 10 ≤ k := by omega
    by_cases h128 : c < 128
    · have hf : fin (c :: r) k = some 0 := by rw [fin, if_neg e10, if_pos h128]
      rw [getAt, refGet, hf]
      simp only [List.getD_cons_zero, Nat.zero_add]
      by_cases h1 : k = 9 ∧ 1 < c
      · rw [if_pos h1, if_pos (.inl h1)]
      · rw [if_neg h1]
        by_cases h2 : c = 0 ∧ 0 < k
        · rw [if_pos h2, if_pos (.inr ⟨h2.2, h2.1⟩)]
        · rw [if_neg h2, if_pos h128, if_neg (by intro h; rcases h with h | h; exact h1 h; exact h2 ⟨h.2, h.1⟩)]
          simp [val, Int.mul_comm]
    · by_cases h9 : k = 9
      · subst h9
        rw [getAt, if_pos ⟨rfl, by omega⟩, refGet]
        have hf : fin (c :: r) 9 = none := by
          rw [fin, if_neg e10, if_neg h128]
          cases hr : fin r (9 + 1) with
          | none => rfl
          | some j => have := fin_lt r _ _ hr; omega
        rw [hf]; simp
      · rw [getAt, if_neg (by omega), if_neg (by omega), if_neg h128, getAt_eq r (k + 1) _ (by omega), refGet, refGet]
        have hf : fin (c :: r) k = (fin r (k + 1)).map (· + 1) := by rw [fin, if_neg e10, if_neg h128]
        rw [hf]
        cases hr : fin r (k + 1) with
        | none => simp; omega
        | some j =>
          simp only [Option.map_some, List.getD_cons_succ]
          have e : j + (k + 1) = j + 1 + k := by omega
          rw [e]
          split
          · rfl
          · simp only [List.take_succ_cons, val, Prod.mk.injEq]
            refine ⟨?_, by omega, trivial⟩
            rw [Int.mul_add, Int.pow_succ, ← Int.mul_assoc, Int.mul_comm (c % 128)]
            omega
theorem pow_pos128 (k : Nat) : (0 : Int) < 128 ^ k := Int.pow_pos (by decide)
theorem get_put (b : List Int) : ∀ (n k : Nat) (acc : Int), k ≤ 9 → n < 128 ^ (9 - k) * 2 → (k = 0 ∨ 0 < n) →
    getAt (putL n ++ b) k acc = (acc + 128 ^ k * n, (k : Int) + (putL n).length, 0) := by
  intro n
  induction n using Nat.strongRecOn with
  | _ n ih =>
    intro k acc hk hn hz
    by_cases h : n < 128
    · have e : putL n = [(n : Int)] := by rw [putL, if_pos h]
      rw [e, List.singleton_append, getAt, if_neg (by rintro ⟨rfl, h1⟩; simp at hn; omega), if_neg (by omega), if_pos (by omega)]
      have : (n : Int) % 128 = n := by omega
      simp [this, Int.mul_comm]
    · have e : putL n = ((n % 128 + 128 : Nat) : Int) :: putL (n / 128) := by rw [putL, if_neg h]
      have h9 : k ≠ 9 := by rintro rfl; simp at hn; omega
      have hd : n / 128 < 128 ^ (9 - (k + 1)) * 2 := by
        have e2 : 9 - k = (9 - (k + 1)) + 1 := by omega
        rw [e2, Nat.pow_succ] at hn
        rw [Nat.div_lt_iff_lt_mul (by decide)]
        rw [Nat.mul_right_comm] at hn; exact hn
      rw [e, List.cons_append, getAt, if_neg (by omega), if_neg (by omega), if_neg (by omega), ih (n / 128) (by omega) (k + 1) _ (by omega) hd (.inr (by omega))]
      have e3 : ((n % 128 + 128 : Nat) : Int) % 128 = ((n % 128 : Nat) : Int) := by omega
      rw [e3]
      simp only [Prod.mk.injEq, List.length_cons]
      refine ⟨?_, by omega, trivial⟩
      have e4 : (n : Int) = ((n % 128 : Nat) : Int) + 128 * ((n / 128 : Nat) : Int) := by omega
      conv => rhs; rw [e4]
      rw [Int.mul_add, Int.pow_succ, ← Int.mul_assoc, Int.mul_comm (((n % 128 : Nat) : Int))]
      omega
theorem val_nonneg : ∀ (xs : List Int), 0 ≤ val xs
  | [] => by simp [val]
  | c :: r => by have := val_nonneg r; rw [val]; omega
theorem put_val : ∀ (xs : List Int) (k j : Nat), (∀ x ∈ xs, 0 ≤ x ∧ x ≤ 255) → fin xs k = some j → (0 < k + j → xs.getD j 0 ≠ 0) →
    putL (val (xs.take (j + 1))).toNat = xs.take (j + 1) ∧ (0 < k + j → 0 < val (xs.take (j + 1)))
  | [], _, _, _, h, _ => by simp [fin] at h
  | c :: r, k, j, hb, h, hz => by
    have hc := hb c (by simp)
    rw [fin] at h
    split at h
    · simp at h
    · split at h
      · rename_i h128
        simp at h; subst h
        simp only [List.take_succ_cons, List.take_zero, val, List.getD_cons_zero] at hz ⊢
        have e : c % 128 + 128 * 0 = c := by omega
        rw [e, putL, if_pos (by omega)]
        refine ⟨by simp; omega, fun hk => ?_⟩
        have := hz (by omega)
        omega
      · rename_i h128
        obtain ⟨i, hi, rfl⟩ := Option.map_eq_some_iff.1 h
        have ih := put_val r (k + 1) i (fun x hx => hb x (by simp [hx])) hi (fun _ => by have := hz (by omega); simpa using this)
        have hp := ih.2 (by omega)
        simp only [List.take_succ_cons, val] at ih hp ⊢
        refine ⟨?_, fun _ => by omega⟩
        rw [putL, if_neg (by omega)]
        have e1 : (c % 128 + 128 * val (r.take (i + 1))).toNat / 128 = (val (r.take (i + 1))).toNat := by omega
        rw [e1, ih.1]
        congr 1
        omega
theorem get_back (xs : List Int) (hb : ∀ x ∈ xs, 0 ≤ x ∧ x ≤ 255) (w m : Int) (h : getAt xs 0 0 = (w, m, 0)) : 0 < m ∧ m ≤ xs.length ∧ putL w.toNat = xs.take m.toNat := by
  rw [getAt_eq xs 0 0 (by omega), refGet] at h
  cases hf : fin xs 0 with
  | none => rw [hf] at h; simp at h; split at h <;> omega
  | some j =>
    rw [hf] at h
    have hj := fin_lt xs 0 j hf
    simp only [Nat.add_zero] at h
    split at h
    · simp at h
    · rename_i hn
      simp at h
      obtain ⟨rfl, rfl⟩ := h
      have := put_val xs 0 j hb hf (fun h0 => by intro he; exact hn (.inr ⟨by omega, he⟩))
      refine ⟨by omega, by omega, ?_⟩
      have e : ((j : Int) + 1).toNat = j + 1 := by omega
      rw [e]; exact this.1
def unfoldN (n : Int) : Int := if n % 2 = 0 then n / 2 else -(n / 2) - 1
theorem unfold_fold (v : Int) (f : Int) (hf : f = if 0 ≤ v then 2 * v else 2 * (-(v + 1)) + 1) : unfoldN f = v := by
  unfold unfoldN; subst hf; split <;> split <;> omega
end Go.Proofs.Ytgecmooedhnenaa
/- What bytes begin with (leb.Get, the document's Get, leb.GetInt, the document's Unfold): each computes the plain function of its name. No condition. -/
namespace Go.Proofs.Ytgecmooedhnenaa
open Go.RowKit
def tup3 (r : Int × Int × Int) : Value := .tuple #[.int .u64 r.1, .int .i64 r.2.1, .int .i64 r.2.2]
theorem getAt_step (xs : List Int) (k : Nat) (n c : Int) (r : List Int) (h : xs = c :: r) : getAt xs k n =
    if k = 9 ∧ 1 < c then (0, 0, 21) else if c = 0 ∧ 0 < k then (0, 0, 21) else
    if c < 128 then (n + c % 128 * 128 ^ k, (k : Int) + 1, 0) else getAt r (k + 1) (n + c % 128 * 128 ^ k) := by rw [h, getAt]
theorem drop_cons (xs : List Int) (k : Nat) (h : k < xs.length) : xs.drop k = xs[k] :: xs.drop (k + 1) := List.drop_eq_getElem_cons h
theorem and127 (c : Int) (h0 : 0 ≤ c) (h1 : c ≤ 255) : bits BinOp.and IntKind.u8 c 127 = c % 128 := by
  have h : ∀ x : Fin 256, bits BinOp.and IntKind.u8 ((x.val : Nat) : Int) 127 = ((x.val : Nat) : Int) % 128 := by decide +kernel
  have h' := h ⟨c.toNat, by omega⟩
  rw [show ((c.toNat : Nat) : Int) = c from by omega] at h'
  exact h'
theorem orstep (k : Nat) (m c : Int) (hk : k ≤ 9) (m0 : 0 ≤ m) (m1 : m < 128 ^ k) (h0 : 0 ≤ c) (h1 : c ≤ 255) (h9 : k = 9 → c ≤ 1) :
    bits BinOp.or IntKind.u64 m (IntKind.u64.wrap (IntKind.u64.wrap (bits BinOp.and IntKind.u8 c 127) * 2 ^ (7 * k))) = m + c % 128 * 128 ^ k := by
  rw [and127 c h0 h1]
  have e1 : IntKind.u64.wrap (c % 128) = c % 128 := IntWalk.u64_in _ (by omega)
  have e2 : (2 : Int) ^ (7 * k) = 128 ^ k := by rw [Int.pow_mul]; rfl
  rw [e1, e2]
  obtain ⟨M, rfl⟩ := Int.eq_ofNat_of_zero_le m0
  obtain ⟨x, hx⟩ := Int.eq_ofNat_of_zero_le (show 0 ≤ c % 128 by omega)
  rw [hx]
  have e3 : ((x : Int) * 128 ^ k) = ((x * 128 ^ k : Nat) : Int) := by simp
  have hM : M < 128 ^ k := by
    have e : ((128 : Int) ^ k) = ((128 ^ k : Nat) : Int) := by simp
    rw [e] at m1; omega
  have hb : x * 128 ^ k + M < 18446744073709551616 := by
    have hxl : x ≤ 127 := by omega
    by_cases h : k = 9
    · subst h
      have := h9 rfl
      have : x ≤ 1 := by omega
      have := Nat.mul_le_mul_right (128 ^ 9) this
      omega
    · have hp : 128 ^ k ≤ 128 ^ 8 := Nat.pow_le_pow_right (by decide) (by omega)
      have := Nat.mul_le_mul hxl hp
      omega
  have e4 : IntKind.u64.wrap ((x : Int) * 128 ^ k) = ((x * 128 ^ k : Nat) : Int) := by
    rw [e3]; exact IntWalk.u64_in _ (by omega)
  rw [e4, u64_or_nat _ _ (by omega) (by omega)]
  have e5 : (128 : Nat) ^ k = 2 ^ (7 * k) := by rw [Nat.pow_mul]
  rw [e5] at hM ⊢
  have e6 := Nat.two_pow_add_eq_or_of_lt hM x
  rw [Nat.mul_comm x, Nat.or_comm, ← e6]
  have e7 : (128 : Int) ^ k = ((2 ^ (7 * k) : Nat) : Int) := by rw [← e5]; simp
  rw [e7]
  rw [Int.mul_comm]
  omega
theorem getAt_more (k : Nat) (m c : Int) (m0 : 0 ≤ m) (m1 : m < 128 ^ k) : 0 ≤ m + c % 128 * 128 ^ k ∧ m + c % 128 * 128 ^ k < 128 ^ (k + 1) := by
  have hp := pow_pos128 k
  have h1 : 0 ≤ c % 128 * 128 ^ k := Int.mul_nonneg (by omega) (by omega)
  have h2 : c % 128 * 128 ^ k ≤ 127 * 128 ^ k := Int.mul_le_mul_of_nonneg_right (by omega) (by omega)
  rw [Int.pow_succ]
  constructor <;> omega
set_option maxHeartbeats 400000 in
theorem get_any (v : Value) (xs : List Int) (w : World) (hv : Rd w v (xs.map (Value.int .u8))) (hb : ∀ x ∈ xs, 0 ≤ x ∧ x ≤ 255) (hx : xs.length ≤ 1099511627776) :
    Calls Try.prog 213 #[v] w fun e w' => e = .returned (tup3 (getAt xs 0 0)) ∧ Below w.heap.size w w' := by
  obtain ⟨ao, ca, rfl, _, ha⟩ := hv
  simp only [List.length_map]
  have HB := Lib.hid hb; clear hb
  go_enter Try.func213, Try.ntmps213
  go_wp2
  go_step3
  go_wp2
  go_step3
  go_wp2
  go_loopw [5, 6, 11] (fun n sz i wr => ∃ (k : Nat) (m : Int), i = .int .i64 k ∧ k ≤ xs.length ∧ k ≤ 9 ∧ n = .int .u64 m ∧ 0 ≤ m ∧ m < 128 ^ k ∧ sz = .int .i64 0 ∧ getAt (xs.drop k) k m = getAt xs 0 0 ∧ Below w.heap.size w wr)
    (fun _ _ i _ => xs.length - (intOf i).toNat)
  case atStart => exact ⟨0, 0, rfl, by omega, by omega, rfl, by omega, by simp, rfl, rfl, Below.refl _ _⟩
  case round =>
    obtain ⟨k, m, rfl, hk, hk9, rfl, hm0, hm1, rfl, hg, hbw⟩ := hrel
    have HG := Lib.hid hg; have HM := Lib.hid hm1; clear hg hm1
    by_cases hlt : k < xs.length
    · obtain ⟨b, o, rfl, hc⟩ := ha (by intro h; simp at h; subst h; simp at hlt)
      have hcell := bl_get hbw (hc k (by simpa using hlt))
      simp only [List.getElem_map] at hcell
      have hcb := HB.out xs[k] (List.getElem_mem hlt)
      have hs := getAt_step (xs.drop k) k m xs[k] _ (drop_cons xs k hlt)
      rw [HG.out] at hs
      obtain ⟨c, hcc⟩ : ∃ c, c = xs[k] := ⟨_, rfl⟩
      rw [← hcc] at hcell hcb hs
      obtain ⟨hc0, hc1⟩ := hcb
      have HC := Lib.hid hcc; clear hcc hc ha
      by_cases h1 : k = 9 ∧ 1 < c
      · rw [if_pos h1] at hs
        have HS := Lib.hid hs; clear hs
        obtain ⟨rfl, h1⟩ := h1
        go_wp2
        (try rw [Exit.noGoto_ret]); go_ret3
        exact ⟨by rw [HS.out]; rfl, hbw⟩
      · rw [if_neg h1] at hs
        by_cases h2 : c = 0 ∧ 0 < k
        · rw [if_pos h2] at hs
          have HS := Lib.hid hs; clear hs h1
          obtain ⟨rfl, h2⟩ := h2
          by_cases h9 : k = 9
          · subst h9
            go_wp2
            (try rw [Exit.noGoto_ret]); go_ret3
            exact ⟨by rw [HS.out]; rfl, hbw⟩
          · go_wp2
            (try rw [Exit.noGoto_ret]); go_ret3
            exact ⟨by rw [HS.out]; rfl, hbw⟩
        · rw [if_neg h2] at hs
          by_cases h3 : c < 128
          · rw [if_pos h3] at hs
            have HS := Lib.hid hs; clear hs
            by_cases h9 : k = 9
            · subst h9
              have hc2 : c ≤ 1 := by omega
              have hc3 : 1 ≤ c := by omega
              clear h1 h2
              go_wp2
              (try rw [Exit.noGoto_ret]); go_ret3
              refine ⟨?_, hbw⟩
              have e := orstep 9 m c (by omega) hm0 HM.out hc0 hc1 (fun _ => hc2)
              rw [HS.out, ← e]; rfl
            · clear h1
              by_cases h4 : k = 0
              · subst h4
                simp only [Nat.add_zero] at hcell
                clear h2
                by_cases h5 : c = 0
                · subst h5
                  go_wp2
                  (try rw [Exit.noGoto_ret]); go_ret3
                  refine ⟨?_, hbw⟩
                  have e := orstep 0 m 0 (by omega) hm0 HM.out (by omega) (by omega) (by omega)
                  simp only [Nat.mul_zero, Int.pow_zero, Int.mul_one] at e
                  rw [HS.out]; simp only [Int.pow_zero, Int.mul_one]; rw [← e]; rfl
                · have hc3 : 1 ≤ c := by omega
                  go_wp2
                  (try rw [Exit.noGoto_ret]); go_ret3
                  refine ⟨?_, hbw⟩
                  have e := orstep 0 m c (by omega) hm0 HM.out (by omega) (by omega) (by omega)
                  simp only [Nat.mul_zero, Int.pow_zero, Int.mul_one] at e
                  rw [HS.out]; simp only [Int.pow_zero, Int.mul_one]; rw [← e]; rfl
              · have hc3 : 1 ≤ c := by omega
                clear h2
                go_wp2
                (try rw [Exit.noGoto_ret]); go_ret3
                refine ⟨?_, hbw⟩
                have e := orstep k m c (by omega) hm0 HM.out hc0 hc1 (by omega)
                rw [HS.out, ← e]; rfl
          · rw [if_neg h3] at hs
            have HS := Lib.hid hs; clear hs
            have h9 : k < 9 := by omega
            clear h1 h2
            go_wp2
            go_roundw
            case rel =>
              have e := orstep k m c (by omega) hm0 HM.out hc0 hc1 (by omega)
              have e2 := getAt_more k m c hm0 HM.out
              exact ⟨k + 1, m + c % 128 * 128 ^ k, by go_num, by omega, by omega, by rw [e], e2.1, e2.2, rfl, HS.out.symm, hbw⟩
            case measure => simp [intOf]; omega
    · have hv : getAt xs 0 0 = (0, 0, 20) := by rw [← HG.out, List.drop_of_length_le (by omega)]; rfl
      have HV := Lib.hid hv; clear hv
      go_wp2
      (try rw [Exit.noGoto_ret]); go_ret3
      exact ⟨by rw [HV.out]; rfl, hbw⟩
end Go.Proofs.Ytgecmooedhnenaa
/- The document's Get computes the plain function 'getAt'. No condition. -/
namespace Go.Proofs.Ytgecmooedhnenaa
open Go.RowKit
theorem val_bound : ∀ (xs : List Int) (k : Nat), xs.length ≤ k + 1 → (∀ h : k < xs.length, xs[k] ≤ 1) → (∀ x ∈ xs, 0 ≤ x) → val xs < 128 ^ k * 2
  | [], k, _, _, _ => by have := pow_pos128 k; simp [val]; omega
  | c :: r, 0, hl, hx, h0 => by
    have : r = [] := by simpa using hl
    subst this
    have := hx (by simp); simp at this
    have := h0 c (by simp)
    simp [val]; omega
  | c :: r, k + 1, hl, hx, h0 => by
    have ih := val_bound r k (by simpa using hl) (fun h => hx (by simpa using h)) (fun x hx => h0 x (by simp [hx]))
    rw [val, Int.pow_succ]; omega
theorem val_u64 (xs : List Int) (j : Nat) (hj : j < xs.length) (hj9 : j ≤ 9) (hx : j = 9 → xs[j] ≤ 1) (h0 : ∀ x ∈ xs, 0 ≤ x) : val (xs.take (j + 1)) ≤ 18446744073709551615 := by
  have h := val_bound (xs.take (j + 1)) 9 (by simp; omega) (fun h => by
    have hl : 9 < j + 1 := by simp at h; omega
    have e : j = 9 := by omega
    subst e
    have := hx rfl
    simpa using this) (fun x hx => h0 x (List.mem_of_mem_take hx))
  omega
end Go.Proofs.Ytgecmooedhnenaa
/- Numbers with a sign as they are got, and the laws LebGets and LebBack walked. No condition. -/
namespace Go.Proofs.Ytgecmooedhnenaa
open Go.RowKit
theorem getAt_range (xs : List Int) (hb : ∀ x ∈ xs, 0 ≤ x ∧ x ≤ 255) : 0 ≤ (getAt xs 0 0).1 ∧ (getAt xs 0 0).1 ≤ 18446744073709551615 ∧ 0 ≤ (getAt xs 0 0).2.1 ∧ (getAt xs 0 0).2.1 ≤ 10 ∧ 0 ≤ (getAt xs 0 0).2.2 ∧ (getAt xs 0 0).2.2 ≤ 21 ∧ ((getAt xs 0 0).2.2 ≠ 0 → (getAt xs 0 0).1 = 0) := by
  rw [getAt_eq xs 0 0 (by omega), refGet]
  cases hf : fin xs 0 with
  | none => simp; split <;> omega
  | some j =>
    have hj := fin_lt xs 0 j hf
    simp only [Nat.add_zero]
    split
    · simp
    · rename_i hn
      have h1 := val_nonneg (xs.take (j + 1))
      have h2 := val_u64 xs j hj.1 (by omega) (fun h => by
        have : ¬ 1 < xs.getD j 0 := fun h1 => hn (.inl ⟨h, h1⟩)
        simp [List.getD, List.getElem?_eq_getElem hj.1] at this
        exact this) (fun x hx => (hb x hx).1)
      simp; omega
theorem xor_i64_zero (a : Int) (h0 : 0 ≤ a) (h1 : a ≤ 9223372036854775807) : bits BinOp.xor IntKind.i64 a 0 = a := by
  show IntKind.i64.wrap ((BitVec.ofInt 64 a ^^^ 0#64).toNat : Int) = _
  rw [BitVec.xor_zero, BitVec.toNat_ofInt, IntKind.wrap_i64]
  omega
theorem xor_i64_ones (a : Int) (h0 : 0 ≤ a) (h1 : a ≤ 9223372036854775807) : bits BinOp.xor IntKind.i64 a (-1) = -a - 1 := by
  show IntKind.i64.wrap ((BitVec.ofInt 64 a ^^^ BitVec.allOnes 64).toNat : Int) = _
  rw [BitVec.xor_allOnes, BitVec.toNat_not, BitVec.toNat_ofInt, IntKind.wrap_i64]
  omega
theorem unf_bits (n : Int) (h0 : 0 ≤ n) (h1 : n ≤ 18446744073709551615) :
    bits BinOp.xor IntKind.i64 (n / 2) (wrap64 (-wrap64 (bits BinOp.and IntKind.u64 n 1))) = unfoldN n := by
  rw [and_one_u64 n h0 h1]
  by_cases he : n % 2 = 0
  · rw [he, unfoldN, if_pos he, show wrap64 (-wrap64 0) = 0 from by decide +kernel, xor_i64_zero _ (by omega) (by omega)]
  · rw [show n % 2 = 1 from by omega, unfoldN, if_neg he, show wrap64 (-wrap64 1) = -1 from by decide +kernel, xor_i64_ones _ (by omega) (by omega)]
set_option maxHeartbeats 400000 in
theorem getInt_any (v : Value) (xs : List Int) (w : World) (hv : Rd w v (xs.map (Value.int .u8))) (hb : ∀ x ∈ xs, 0 ≤ x ∧ x ≤ 255) (hx : xs.length ≤ 1099511627776) :
    Calls Try.prog 271 #[v] w fun e w' => e = .returned (.tuple #[.int .i64 (unfoldN (getAt xs 0 0).1), .int .i64 (getAt xs 0 0).2.1, .int .i64 (getAt xs 0 0).2.2]) ∧ Below w.heap.size w w' := by
  obtain ⟨r0, r1, _⟩ := getAt_range xs hb
  go_enter Try.func271, Try.ntmps271
  go_wp2_with fail
  refine (get_any _ _ _ hv hb hx).mono ?_
  rintro e w1 ⟨rfl, hb1⟩
  unfold tup3
  go_wp2
  go_ret3
  refine ⟨?_, hb1⟩
  rw [← unf_bits _ r0 r1]; rfl
end Go.Proofs.Ytgecmooedhnenaa
/- The law LebBack walked. No condition. -/
namespace Go.Proofs.Ytgecmooedhnenaa
open Go.RowKit
theorem putL_rng : ∀ (n : Nat), ∀ x ∈ putL n, 0 ≤ x ∧ x ≤ 255 := by
  intro n
  induction n using Nat.strongRecOn with
  | _ n ih =>
    intro x hx
    rw [putL] at hx
    split at hx
    · simp at hx; omega
    · simp at hx
      rcases hx with rfl | hx
      · omega
      · exact ih (n / 128) (by omega) x hx
theorem got (n : Nat) (b : List Int) (hn : n < 18446744073709551616) : getAt (putL n ++ b) 0 0 = ((n : Int), ((putL n).length : Int), 0) := by
  rw [get_put b n 0 0 (by omega) (by omega) (.inl rfl)]; simp
end Go.Proofs.Ytgecmooedhnenaa
/- Numbers of 32 bits as bytes. No condition. -/
namespace Go.Proofs.Ytgecmooedhnenaa
open Go.RowKit
def wideL (xs : List Int) : List Int := (xs.map fun v => putL (foldN v).toNat).flatten
theorem wideL_cons (x : Int) (xs : List Int) : wideL (x :: xs) = putL (foldN x).toNat ++ wideL xs := rfl
theorem wideL_snoc (xs : List Int) (x : Int) : wideL (xs ++ [x]) = wideL xs ++ putL (foldN x).toNat := by simp [wideL]
theorem wideL_len : ∀ (xs : List Int), (∀ x ∈ xs, -2147483648 ≤ x ∧ x ≤ 2147483647) → (wideL xs).length ≤ 10 * xs.length
  | [], _ => by simp [wideL]
  | x :: xs, h => by
    have h1 := h x (by simp)
    have h2 := wideL_len xs (fun y hy => h y (by simp [hy]))
    have hf := foldN_bd x (by omega) (by omega)
    have h3 := putL_len10 (foldN x).toNat (by omega)
    rw [wideL_cons, List.length_append, List.length_cons]; omega
theorem wideL_rng : ∀ (xs : List Int), ∀ y ∈ wideL xs, 0 ≤ y ∧ y ≤ 255
  | [], y, h => by simp [wideL] at h
  | x :: xs, y, h => by
    rw [wideL_cons, List.mem_append] at h
    rcases h with h | h
    · exact putL_rng _ y h
    · exact wideL_rng xs y h
set_option maxHeartbeats 800000 in
theorem refWide_any (v : Value) (xs : List Int) (w : World) (hv : Rd w v (xs.map (Value.int .i32))) (hx : ∀ x ∈ xs, -2147483648 ≤ x ∧ x ≤ 2147483647) (hl : xs.length ≤ 1000000) :
    Calls Try.prog 179 #[v] w fun e w' => ∃ r, e = .returned r ∧ Own w.heap.size w' 5 r ((wideL xs).map (Value.int .u8)) ∧ Below w.heap.size w w' := by
  obtain ⟨a, c, rfl, hle, hm, ha⟩ := hv.ints
  obtain ⟨i0, hi, hz0, hz1, hz2⟩ := info_parts (show (Try.prog.info? 5).map (fun i => (i.zero, i.size, i.bytes)) = some (some (.int .u8 0), 1, 1) from by kernel_rfl)
  have HX := Lib.hid hx; clear hx
  go_enter Try.func179, Try.ntmps179
  go_wp2_with fail
  go_loopw [3, 4] (fun r i wr => ∃ (k : Nat), i = .int .i64 k ∧ k ≤ xs.length ∧ Own w.heap.size wr 5 r ((wideL (xs.take k)).map (Value.int .u8)) ∧ Below w.heap.size w wr) (fun _ i _ => xs.length - (intOf i).toNat)
  case atStart => exact ⟨0, rfl, by omega, Own.nil _ _ _, Below.refl _ _⟩
  case round =>
    obtain ⟨k, rfl, hk, hown, hb⟩ := hrel
    by_cases hlt : k < xs.length
    · obtain ⟨b, o, rfl, hc⟩ := ha (by intro h; subst h; simp at hlt)
      have hcell := bl_get hb (hc k hlt)
      obtain ⟨x0, x1⟩ := HX.out xs[k] (List.getElem_mem hlt)
      have hst : (wideL (xs.take (k + 1))).map (Value.int .u8) = (wideL (xs.take k)).map (Value.int .u8) ++ (putL (foldN xs[k]).toNat).map (Value.int .u8) := by
        rw [List.take_succ_eq_append_getElem hlt, wideL_snoc, List.map_append]
      have hlk : ((wideL (xs.take k)).map (Value.int .u8)).length ≤ 10000000 := by
        have := wideL_len (xs.take k) (fun y hy => HX.out y (List.mem_of_mem_take hy))
        rw [List.length_take] at this; rw [List.length_map]; omega
      obtain ⟨x, hx⟩ : ∃ x, x = xs[k] := ⟨_, rfl⟩
      rw [← hx] at hcell hst x0 x1
      obtain ⟨f0, f1⟩ := foldN_bd x (by omega) (by omega)
      have hpl := putL_len10 (foldN x).toNat (by omega)
      have HST := Lib.hid hst; have HO := Lib.hid hown; have HLK := Lib.hid hlk; have HPL := Lib.hid hpl
      have kk0 : (0 : Int) ≤ (k : Int) := by omega
      have kk1 : (k : Int) < (xs.length : Int) := by omega
      clear hst hx hc ha hown hlk hpl
      go_wp2_with fail
      refine (fold_any x _ (by omega) (by omega)).mono ?_
      rintro e w1 ⟨rfl, rfl⟩
      go_wp2_with fail
      refine (refPut_any (foldN x) _ f0 f1).mono ?_
      rintro e w2 ⟨r, rfl, hr, hb2⟩
      have HR := Lib.hid hr.rd
      have HO2 := Lib.hid (HO.out.below hb2 (Nat.le_refl _))
      clear hr
      have hbw : Below w.heap.size w w2 := bl_step hb hb2
      go_wp2_with (at_builtin; refine hold ?_)
      refine unheld ?_
      refine wpList_appS rfl _ _ 64 rfl w.heap.size 5 i0 (.int .u8 0) 1 Try.underlying64 hi hz0 hz1 hz2 (by decide) rfl _ _ _ _ HO2.out HR.out rfl rfl (ints_one _ _) (by have := HLK.out; have := HPL.out; simp only [List.length_map] at *; omega) hbw.size ?_
      intro v' w' hown' hb'
      have HO3 := Lib.hid hown'; clear hown'
      go_wp2_with fail
      go_roundw
      case rel => exact ⟨k + 1, by go_num, by omega, by rw [HST.out]; exact HO3.out, hbw.trans hb'⟩
      case measure => simp [intOf]; omega
    · have hkk : xs.take k = xs := List.take_of_length_le (by omega)
      rw [hkk] at hown
      go_wp2
      go_ret
      exact ⟨_, rfl, hown, hb⟩
set_option maxHeartbeats 800000 in
theorem wide_any (v : Value) (xs : List Int) (w : World) (hv : Rd w v (xs.map (Value.int .i32))) (hx : ∀ x ∈ xs, -2147483648 ≤ x ∧ x ≤ 2147483647) (hl : xs.length ≤ 1000000) :
    Calls Try.prog 259 #[v] w fun e w' => ∃ r, e = .returned r ∧ Own w.heap.size w' 5 r ((wideL xs).map (Value.int .u8)) ∧ Below w.heap.size w w' := by
  obtain ⟨a, c, rfl, hle, hm, ha⟩ := hv.ints
  obtain ⟨i0, hi, hz0, hz1, hz2⟩ := info_parts (show (Try.prog.info? 5).map (fun i => (i.zero, i.size, i.bytes)) = some (some (.int .u8 0), 1, 1) from by kernel_rfl)
  have HX := Lib.hid hx; clear hx
  go_enter Try.func259, Try.ntmps259
  go_wp2_with fail
  go_loopw [3, 8] (fun r i wr => ∃ (k : Nat), i = .int .i64 k ∧ k ≤ xs.length ∧ Own w.heap.size wr 5 r ((wideL (xs.take k)).map (Value.int .u8)) ∧ Below w.heap.size w wr) (fun _ i _ => xs.length - (intOf i).toNat)
  case atStart => exact ⟨0, rfl, by omega, Own.nil _ _ _, Below.refl _ _⟩
  case round =>
    obtain ⟨k, rfl, hk, hown, hb⟩ := hrel
    by_cases hlt : k < xs.length
    · obtain ⟨b, o, rfl, hc⟩ := ha (by intro h; subst h; simp at hlt)
      have hcell := bl_get hb (hc k hlt)
      obtain ⟨x0, x1⟩ := HX.out xs[k] (List.getElem_mem hlt)
      have hst : (wideL (xs.take (k + 1))).map (Value.int .u8) = (wideL (xs.take k)).map (Value.int .u8) ++ (putL (foldN xs[k]).toNat).map (Value.int .u8) := by
        rw [List.take_succ_eq_append_getElem hlt, wideL_snoc, List.map_append]
      have hlk : ((wideL (xs.take k)).map (Value.int .u8)).length ≤ 10000000 := by
        have := wideL_len (xs.take k) (fun y hy => HX.out y (List.mem_of_mem_take hy))
        rw [List.length_take] at this; rw [List.length_map]; omega
      obtain ⟨x, hx⟩ : ∃ x, x = xs[k] := ⟨_, rfl⟩
      rw [← hx] at hcell hst x0 x1
      obtain ⟨f0, f1⟩ := foldN_bd x (by omega) (by omega)
      have hpl := putL_len10 (foldN x).toNat (by omega)
      have HST := Lib.hid hst; have HO := Lib.hid hown; have HLK := Lib.hid hlk; have HPL := Lib.hid hpl
      have kk0 : (0 : Int) ≤ (k : Int) := by omega
      have kk1 : (k : Int) < (xs.length : Int) := by omega
      clear hst hx hc ha hown hlk hpl
      go_wp2_with fail
      refine (putInt_any x _ (by omega) (by omega)).mono ?_
      rintro e w2 ⟨r, rfl, hr, hb2⟩
      have HR := Lib.hid hr.rd
      have HO2 := Lib.hid (HO.out.below hb2 (Nat.le_refl _))
      clear hr
      have hbw : Below w.heap.size w w2 := bl_step hb hb2
      go_wp2_with (at_builtin; refine hold ?_)
      refine unheld ?_
      refine wpList_appS rfl _ _ 64 rfl w.heap.size 5 i0 (.int .u8 0) 1 Try.underlying64 hi hz0 hz1 hz2 (by decide) rfl _ _ _ _ HO2.out HR.out rfl rfl (ints_one _ _) (by have := HLK.out; have := HPL.out; simp only [List.length_map] at *; omega) hbw.size ?_
      intro v' w' hown' hb'
      have HO3 := Lib.hid hown'; clear hown'
      go_wp2_with fail
      go_roundw
      case rel => exact ⟨k + 1, by go_num, by omega, by rw [HST.out]; exact HO3.out, hbw.trans hb'⟩
      case measure => simp [intOf]; omega
    · have hkk : xs.take k = xs := List.take_of_length_le (by omega)
      rw [hkk] at hown
      go_wp2
      go_ret
      exact ⟨_, rfl, hown, hb⟩
end Go.Proofs.Ytgecmooedhnenaa
/- Numbers as bytes: the contracts in the words of values. No condition. -/
namespace Go.Proofs.Ytgecmooedhnenaa
open Go.RowKit
set_option linter.unusedSimpArgs false
set_option linter.unusedVariables false
set_option linter.unnecessarySimpa false
theorem ownR_sl {S : Nat → Prop} {w : World} {B : Nat} {t : TypeId} {k : IntKind} {L : List Int} {v : Value} (hS : ∀ b, S b → b < B) (h : Own B w t v (L.map (Value.int k))) : Rel (fun _ => none) S w (.sl 1 (L.map (row1 k))) v := by
  by_cases hne : L = []
  · subst hne
    obtain ⟨ao, cap, rfl, ⟨_, hm, h0⟩, _⟩ := h.rd
    exact .pure (.nil 1 hm h0)
  · obtain ⟨g, cap, rfl, hc, hm, hB, hg, hcell, _, _⟩ := h.form (by simpa using hne)
    rw [List.length_map] at hc
    rw [List.length_map, show L.length = (L.map (row1 k)).length from by rw [List.length_map]]
    refine .pure (.sl (fun i _ => .int k (L.getD i 0)) (fun _ hs => absurd (hS _ hs) (by omega)) (fun _ => hg) (by rw [List.length_map]; exact hc) hm (fun i r hr => ?_) (fun i r j c hr hc => ?_) (fun i r j c hr hc => ?_) (fun i r j c hr hc => by simp [Value.oneCell']))
    · rw [List.getElem?_map] at hr
      cases q : L[i]? with
      | none => rw [q] at hr; cases hr
      | some x => rw [q] at hr; injection hr with hr; subst hr; rfl
    · rw [List.getElem?_map] at hr
      cases q : L[i]? with
      | none => rw [q] at hr; cases hr
      | some x =>
        rw [q] at hr; injection hr with hr; subst hr
        obtain ⟨hi, e⟩ := List.getElem?_eq_some_iff.1 q
        cases j with
        | zero =>
          have := hcell i (by rw [List.length_map]; exact hi)
          rw [show 0 + i * 1 + 0 = i from by omega, this, List.getElem_map, List.getD_eq_getElem?_getD, q, e]; rfl
        | succ j => simp at hc
    · rw [List.getElem?_map] at hr
      cases q : L[i]? with
      | none => rw [q] at hr; cases hr
      | some x =>
        rw [q] at hr; injection hr with hr; subst hr
        cases j with
        | zero => simp at hc; subst hc; rw [List.getD_eq_getElem?_getD, q]; exact .lit _
        | succ j => simp at hc
theorem sl_rd {μ : Nat → Option OI} {S : Nat → Prop} {w : World} {k : IntKind} {L : List Int} {v : Value} (h : Rel μ S w (.sl 1 (L.map (row1 k))) v) : Rd w v (L.map (Value.int k)) := by
  cases h with
  | pure h =>
    generalize hr : L.map (row1 k) = rows at h
    cases h with
    | nil _ hm h0 =>
      have : L = [] := by simpa using hr
      subst this
      exact ⟨_, _, rfl, ⟨Nat.zero_le _, hm, h0⟩, fun h => absurd rfl h⟩
    | @sl _ _ b off cap cv hX hb hc hm hz h1 h2 h3 =>
      subst hr
      rw [List.length_map] at hc ⊢
      refine ⟨some ⟨b, off, none⟩, cap, by rw [List.length_map], ⟨by rw [List.length_map]; exact hc, hm, by simp⟩, fun hne => ⟨b, off, rfl, fun j hj => ?_⟩⟩
      rw [List.length_map] at hj
      have e : (L.map (row1 k))[j]? = some (row1 k L[j]) := by rw [List.getElem?_map, List.getElem?_eq_getElem hj]; rfl
      have a1 := h1 j _ 0 (.lit (.int k L[j])) e rfl
      have a2 := h2 j _ 0 (.lit (.int k L[j])) e rfl
      rw [show off + j = off + j * 1 + 0 from by omega, a1]
      generalize cv j 0 = u at a2
      cases a2
      rw [List.getElem_map]
theorem put_v (n : Int) (h0 : 0 ≤ n) (h1 : n ≤ 18446744073709551615) : VC Try.prog 176 [.lit (.int .u64 n)] (.sl 1 ((putL n.toNat).map (row1 .u8))) := by
  intro S w xs hS hl hxs
  have := valAll_eq (us := [.int .u64 n]) hl hxs rfl
  subst this
  exact (put_any n w h0 h1).mono fun e w' ⟨v, he, ho, hb⟩ => ⟨v, he, ownR_sl hS ho, hb⟩
theorem refPut_v (n : Int) (h0 : 0 ≤ n) (h1 : n ≤ 18446744073709551615) : VC Try.prog 177 [.lit (.int .u64 n)] (.sl 1 ((putL n.toNat).map (row1 .u8))) := by
  intro S w xs hS hl hxs
  have := valAll_eq (us := [.int .u64 n]) hl hxs rfl
  subst this
  exact (refPut_any n w h0 h1).mono fun e w' ⟨v, he, ho, hb⟩ => ⟨v, he, ownR_sl hS ho, hb⟩
theorem one_arg {μ : Nat → Option OI} {X : Nat → Prop} {w : World} {c : AV} {xs : List Value} (hl : xs.length = [c].length) (h : ∀ (i : Nat) (c' : AV) (v : Value), [c][i]? = some c' → xs[i]? = some v → Rel μ X w c' v) : ∃ v, xs = [v] ∧ Rel μ X w c v := by
  match xs, hl with
  | [v], _ => exact ⟨v, rfl, h 0 c v rfl rfl⟩
theorem small_v (l : List Int) (hl : l.length ≤ 1000000) : VC Try.prog 258 [.sl 1 (l.map (row1 .i8))] (.sl 1 ((smallL l).map (row1 .u8))) := by
  intro S w xs hS hn hxs
  obtain ⟨v, rfl, hv⟩ := one_arg hn hxs
  exact (small_any v l w (sl_rd hv) hl).mono fun e w' ⟨v, he, ho, hb⟩ => ⟨v, he, ownR_sl hS ho, hb⟩
theorem refSmall_v (l : List Int) (hl : l.length ≤ 1000000) : VC Try.prog 178 [.sl 1 (l.map (row1 .i8))] (.sl 1 ((smallL l).map (row1 .u8))) := by
  intro S w xs hS hn hxs
  obtain ⟨v, rfl, hv⟩ := one_arg hn hxs
  exact (refSmall_any v l w (sl_rd hv) hl).mono fun e w' ⟨v, he, ho, hb⟩ => ⟨v, he, ownR_sl hS ho, hb⟩
theorem wide_v (l : List Int) (hx : ∀ x ∈ l, -2147483648 ≤ x ∧ x ≤ 2147483647) (hl : l.length ≤ 1000000) : VC Try.prog 259 [.sl 1 (l.map (row1 .i32))] (.sl 1 ((wideL l).map (row1 .u8))) := by
  intro S w xs hS hn hxs
  obtain ⟨v, rfl, hv⟩ := one_arg hn hxs
  exact (wide_any v l w (sl_rd hv) hx hl).mono fun e w' ⟨v, he, ho, hb⟩ => ⟨v, he, ownR_sl hS ho, hb⟩
theorem refWide_v (l : List Int) (hx : ∀ x ∈ l, -2147483648 ≤ x ∧ x ≤ 2147483647) (hl : l.length ≤ 1000000) : VC Try.prog 179 [.sl 1 (l.map (row1 .i32))] (.sl 1 ((wideL l).map (row1 .u8))) := by
  intro S w xs hS hn hxs
  obtain ⟨v, rfl, hv⟩ := one_arg hn hxs
  exact (refWide_any v l w (sl_rd hv) hx hl).mono fun e w' ⟨v, he, ho, hb⟩ => ⟨v, he, ownR_sl hS ho, hb⟩
theorem rel3 {μ : Nat → Option OI} {X : Nat → Prop} {w : World} (a b c : Value) : Rel μ X w (.tup [.lit a, .lit b, .lit c]) (.tuple #[a, b, c]) :=
  .tup (vs := [a, b, c]) rfl (fun i x v hx hv => by
    match i with
    | 0 => simp at hx hv; subst hx hv; exact .pure (.lit _)
    | 1 => simp at hx hv; subst hx hv; exact .pure (.lit _)
    | 2 => simp at hx hv; subst hx hv; exact .pure (.lit _)
    | i + 3 => simp at hx)
def getV (l : List Int) : Int := (getAt l 0 0).1
def getN (l : List Int) : Int := (getAt l 0 0).2.1
def getE (l : List Int) : Int := (getAt l 0 0).2.2
theorem get_v (l : List Int) (hb : ∀ x ∈ l, 0 ≤ x ∧ x ≤ 255) (hl : l.length ≤ 1000000) : VC Try.prog 213 [.sl 1 (l.map (row1 .u8))] (.tup [.lit (.int .u64 (getV l)), i64 (getN l), i64 (getE l)]) := by
  intro S w xs hS hn hxs
  obtain ⟨v, rfl, hv⟩ := one_arg hn hxs
  exact (get_any v l w (sl_rd hv) hb (by omega)).mono fun e w' ⟨he, hb⟩ => ⟨_, he, rel3 _ _ _, hb⟩
theorem getInt_v (l : List Int) (hb : ∀ x ∈ l, 0 ≤ x ∧ x ≤ 255) (hl : l.length ≤ 1000000) : VC Try.prog 271 [.sl 1 (l.map (row1 .u8))] (.tup [i64 (unfoldN (getV l)), i64 (getN l), i64 (getE l)]) := by
  intro S w xs hS hn hxs
  obtain ⟨v, rfl, hv⟩ := one_arg hn hxs
  exact (getInt_any v l w (sl_rd hv) hb (by omega)).mono fun e w' ⟨he, hb⟩ => ⟨_, he, rel3 _ _ _, hb⟩
end Go.Proofs.Ytgecmooedhnenaa
/- A reader of bytes, of the program: what is wrong, the next number. No condition. -/
namespace Go.Proofs.Ytgecmooedhnenaa
open Go.RowKit
set_option linter.unusedSimpArgs false
set_option linter.unusedVariables false
set_option linter.unnecessarySimpa false
abbrev Rst := List Int × Int
abbrev rdC (s : Rst) : List AV := [.sl 1 (s.1.map (row1 .u8)), i64 s.2]
theorem get_rng {l : List Int} (hb : ∀ x ∈ l, 0 ≤ x ∧ x ≤ 255) : 0 ≤ getV l ∧ getV l ≤ 18446744073709551615 ∧ (getE l = 0 → 0 < getN l ∧ getN l ≤ l.length) := by
  obtain ⟨a, b, c⟩ := getAt_range l hb
  refine ⟨a, b, fun h => ?_⟩
  have := get_back l hb (getAt l 0 0).1 (getAt l 0 0).2.1 (Prod.ext rfl (Prod.ext rfl h))
  exact ⟨this.1, this.2.1⟩
def cntS (s : Rst) (most : Int) : Rst :=
  if s.2 ≠ 0 then s else if getE s.1 ≠ 0 then ([], getE s.1) else if max most 0 < getV s.1 then ([], 3) else (s.1.drop (getN s.1).toNat, 0)
def cntV (s : Rst) (most : Int) : Int :=
  if s.2 ≠ 0 then 0 else if getE s.1 ≠ 0 then 0 else if max most 0 < getV s.1 then 0 else getV s.1
theorem rfail_v (l : List Int) (f : Int)  : VM Try.prog 214 ([.ptr 100000 0 0, i64 f]) ([(100000, .var (rdC (l, 0)))]) (.tup []) ([(100000, .var (rdC ([], f)))]) := by
  exact VM.run (fn := Try.f214) (W := [.r [] [], .br true, .r [] []]) (G := [.blk 100000 (Blk.var [AV.sl 1 [], i64 f]), .sort]) Try.func214 (by kernel_rfl) (.c (show ((l, 0).snd == 0) = true by (refine decide_eq_true ?_; omega)) <| .c (show BlkW (Blk.var [AV.lit (Value.slice none 0 0), i64 f]) (Blk.var [AV.sl 1 [], i64 f]) from (BlkW.var (.cons (Weak.nil _) (.cons (.refl _) .nil)))) <| .n)
theorem next_e (s : Rst) (h : s.2 ≠ 0) : VM Try.prog 212 ([.ptr 100000 0 0, .clo 213 []]) ([(100000, .var (rdC s))]) (.tup [.lit (.int .u64 0), bv false]) ([(100000, .var (rdC s))]) := by
  have oz0 := (show false = false by with_reducible rfl)
  exact VM.run (fn := Try.f212) (W := [.r [] [], .r [] [.br true, .br true, .br true, .br true, .br true, .br false], .br true, .r [] []]) (G := [.sort]) Try.func212 (by kernel_rfl) (.c oz0 <| .c oz0 <| .c oz0 <| .c oz0 <| .c oz0 <| .c oz0 <| .c (show (s.snd != 0) = true by (simp; omega)) <| .n)
theorem next_g (l : List Int) (hb : ∀ x ∈ l, 0 ≤ x ∧ x ≤ 255) (hl : l.length ≤ 1000000) (h : getE l ≠ 0) : VM Try.prog 212 ([.ptr 100000 0 0, .clo 213 []]) ([(100000, .var (rdC (l, 0)))]) (.tup [.lit (.int .u64 0), bv false]) ([(100000, .var (rdC ([], getE l)))]) := by
  have oz0 := (show false = false by with_reducible rfl)
  have oz7 := @get_v (l) hb hl
  have oz9 := @rfail_v (l) (getE l)
  exact VM.run (fn := Try.f212) (W := [.r [] [], .r [] [.br true, .br true, .br true, .br true, .br true, .br false], .br false, .r [] [.callr (rO oz7)], .r [] [], .br true, .r [] [.callm [(100000, 100000)] [] (rM oz9) (oM oz9)], .r [] []]) (G := [.sort]) Try.func212 (by kernel_rfl) (.c oz0 <| .c oz0 <| .c oz0 <| .c oz0 <| .c oz0 <| .c oz0 <| .c (show ((l, 0).snd != 0) = false by (simp; done)) <| .c oz7 <| .c (show (getE l != 0) = true by (simp; omega)) <| .c oz9 <| .n)
theorem next_y (l : List Int) (hb : ∀ x ∈ l, 0 ≤ x ∧ x ≤ 255) (hl : l.length ≤ 1000000) (h : getE l = 0) : VM Try.prog 212 ([.ptr 100000 0 0, .clo 213 []]) ([(100000, .var (rdC (l, 0)))]) (.tup [.lit (.int .u64 (getV l)), bv true]) ([(100000, .var (rdC (l.drop (getN l).toNat, 0)))]) := by
  obtain ⟨q1, q2, q3⟩ := get_rng hb
  have q4 := q3 h
  have oz0 := (show false = false by with_reducible rfl)
  have oz7 := @get_v (l) hb hl
  exact VM.run (fn := Try.f212) (W := [.r [] [], .r [] [.br true, .br true, .br true, .br true, .br true, .br false], .br false, .r [] [.callr (rO oz7)], .r [] [], .br false, .r [] [.nats (getN l).toNat (List.map (row1 IntKind.u8) (l, 0).fst).length], .r [] []]) (G := [.blk 100000 (Blk.var [AV.sl 1 (List.map (row1 IntKind.u8) (List.drop (getN l).toNat l)), i64 0]), .sort]) Try.func212 (by kernel_rfl) (.c oz0 <| .c oz0 <| .c oz0 <| .c oz0 <| .c oz0 <| .c oz0 <| .c (show ((l, 0).snd != 0) = false by (simp; done)) <| .c oz7 <| .c (show (getE l != 0) = false by (simp; omega)) <| .c (show getN l = (↑(getN l).toNat : Int) by omega) <| .c (show (List.map (row1 IntKind.u8) (l, 0).fst).length = (List.map (row1 IntKind.u8) (l, 0).fst).length by with_reducible rfl) <| .c (show (getN l).toNat ≤ (List.map (row1 IntKind.u8) (l, 0).fst).length by (simp; omega)) <| .c (show (List.map (row1 IntKind.u8) (l, 0).fst).length ≤ (List.map (row1 IntKind.u8) (l, 0).fst).length by omega) <| .c (show BlkW (Blk.var [AV.sl 1 (List.take ((List.map (row1 IntKind.u8) (l, 0).fst).length - (getN l).toNat) (List.drop (getN l).toNat (List.map (row1 IntKind.u8) (l, 0).fst))), i64 (l, 0).snd]) (Blk.var [AV.sl 1 (List.map (row1 IntKind.u8) (List.drop (getN l).toNat l)), i64 0]) from (BlkW.var (.cons (Weak.rows (rows_to (row1 IntKind.u8) (r := List.take ((List.map (row1 IntKind.u8) (l, 0).fst).length - (getN l).toNat) (List.drop (getN l).toNat (List.map (row1 IntKind.u8) (l, 0).fst))) (l := List.take ((List.map (row1 IntKind.u8) (l, 0).fst).length - (getN l).toNat) (List.drop (getN l).toNat (l, 0).fst)) (m := List.drop (getN l).toNat l) (by first | (simp only [List.map_append, List.map_cons, List.map_nil, List.map_set, List.map_replicate, List.map_take, List.map_drop]; done) | rfl | (simp only [List.map_append, List.map_cons, List.map_nil, List.map_set, List.map_replicate, List.map_take, List.map_drop]; rfl)) (show (List.take ((List.map (row1 IntKind.u8) (l, 0).fst).length - (getN l).toNat) (List.drop (getN l).toNat (l, 0).fst)) = (List.drop (getN l).toNat l) from (by (rw [List.take_of_length_le (by simp [List.length_drop])]))))) (.cons (.refl _) .nil)))) <| .n)
theorem nexti_e (s : Rst) (h : s.2 ≠ 0) : VM Try.prog 270 ([.ptr 100000 0 0, .clo 271 []]) ([(100000, .var (rdC s))]) (.tup [.lit (.int .i64 0), bv false]) ([(100000, .var (rdC s))]) := by
  have oz0 := (show false = false by with_reducible rfl)
  exact VM.run (fn := Try.f270) (W := [.r [] [], .r [] [.br true, .br true, .br true, .br true, .br true, .br false], .br true, .r [] []]) (G := [.sort]) Try.func270 (by kernel_rfl) (.c oz0 <| .c oz0 <| .c oz0 <| .c oz0 <| .c oz0 <| .c oz0 <| .c (show (s.snd != 0) = true by (simp; omega)) <| .n)
theorem nexti_g (l : List Int) (hb : ∀ x ∈ l, 0 ≤ x ∧ x ≤ 255) (hl : l.length ≤ 1000000) (h : getE l ≠ 0) : VM Try.prog 270 ([.ptr 100000 0 0, .clo 271 []]) ([(100000, .var (rdC (l, 0)))]) (.tup [.lit (.int .i64 0), bv false]) ([(100000, .var (rdC ([], getE l)))]) := by
  have oz0 := (show false = false by with_reducible rfl)
  have oz7 := @getInt_v (l) hb hl
  have oz9 := @rfail_v (l) (getE l)
  exact VM.run (fn := Try.f270) (W := [.r [] [], .r [] [.br true, .br true, .br true, .br true, .br true, .br false], .br false, .r [] [.callr (rO oz7)], .r [] [], .br true, .r [] [.callm [(100000, 100000)] [] (rM oz9) (oM oz9)], .r [] []]) (G := [.sort]) Try.func270 (by kernel_rfl) (.c oz0 <| .c oz0 <| .c oz0 <| .c oz0 <| .c oz0 <| .c oz0 <| .c (show ((l, 0).snd != 0) = false by (simp; done)) <| .c oz7 <| .c (show (getE l != 0) = true by (simp; omega)) <| .c oz9 <| .n)
theorem nexti_y (l : List Int) (hb : ∀ x ∈ l, 0 ≤ x ∧ x ≤ 255) (hl : l.length ≤ 1000000) (h : getE l = 0) : VM Try.prog 270 ([.ptr 100000 0 0, .clo 271 []]) ([(100000, .var (rdC (l, 0)))]) (.tup [.lit (.int .i64 (unfoldN (getV l))), bv true]) ([(100000, .var (rdC (l.drop (getN l).toNat, 0)))]) := by
  obtain ⟨q1, q2, q3⟩ := get_rng hb
  have q4 := q3 h
  have oz0 := (show false = false by with_reducible rfl)
  have oz7 := @getInt_v (l) hb hl
  exact VM.run (fn := Try.f270) (W := [.r [] [], .r [] [.br true, .br true, .br true, .br true, .br true, .br false], .br false, .r [] [.callr (rO oz7)], .r [] [], .br false, .r [] [.nats (getN l).toNat (List.map (row1 IntKind.u8) (l, 0).fst).length], .r [] []]) (G := [.blk 100000 (Blk.var [AV.sl 1 (List.map (row1 IntKind.u8) (List.drop (getN l).toNat l)), i64 0]), .sort]) Try.func270 (by kernel_rfl) (.c oz0 <| .c oz0 <| .c oz0 <| .c oz0 <| .c oz0 <| .c oz0 <| .c (show ((l, 0).snd != 0) = false by (simp; done)) <| .c oz7 <| .c (show (getE l != 0) = false by (simp; omega)) <| .c (show getN l = (↑(getN l).toNat : Int) by omega) <| .c (show (List.map (row1 IntKind.u8) (l, 0).fst).length = (List.map (row1 IntKind.u8) (l, 0).fst).length by with_reducible rfl) <| .c (show (getN l).toNat ≤ (List.map (row1 IntKind.u8) (l, 0).fst).length by (simp; omega)) <| .c (show (List.map (row1 IntKind.u8) (l, 0).fst).length ≤ (List.map (row1 IntKind.u8) (l, 0).fst).length by omega) <| .c (show BlkW (Blk.var [AV.sl 1 (List.take ((List.map (row1 IntKind.u8) (l, 0).fst).length - (getN l).toNat) (List.drop (getN l).toNat (List.map (row1 IntKind.u8) (l, 0).fst))), i64 (l, 0).snd]) (Blk.var [AV.sl 1 (List.map (row1 IntKind.u8) (List.drop (getN l).toNat l)), i64 0]) from (BlkW.var (.cons (Weak.rows (rows_to (row1 IntKind.u8) (r := List.take ((List.map (row1 IntKind.u8) (l, 0).fst).length - (getN l).toNat) (List.drop (getN l).toNat (List.map (row1 IntKind.u8) (l, 0).fst))) (l := List.take ((List.map (row1 IntKind.u8) (l, 0).fst).length - (getN l).toNat) (List.drop (getN l).toNat (l, 0).fst)) (m := List.drop (getN l).toNat l) (by first | (simp only [List.map_append, List.map_cons, List.map_nil, List.map_set, List.map_replicate, List.map_take, List.map_drop]; done) | rfl | (simp only [List.map_append, List.map_cons, List.map_nil, List.map_set, List.map_replicate, List.map_take, List.map_drop]; rfl)) (show (List.take ((List.map (row1 IntKind.u8) (l, 0).fst).length - (getN l).toNat) (List.drop (getN l).toNat (l, 0).fst)) = (List.drop (getN l).toNat l) from (by (rw [List.take_of_length_le (by simp [List.length_drop])]))))) (.cons (.refl _) .nil)))) <| .n)
theorem count_e (s : Rst) (m : Int) (h : s.2 ≠ 0) (h0 : 0 ≤ m) (h1 : m ≤ 2147483647) : VM Try.prog 180 ([.ptr 100000 0 0, i64 m]) ([(100000, .var (rdC s))]) (i64 0) ([(100000, .var (rdC s))]) := by
  have oz0 := @next_e (s) h
  exact VM.run (fn := Try.f180) (W := [.r [] [], .r [] [.callm [(100000, 100000)] [] (rM oz0) (oM oz0)], .r [] [], .br true, .r [] []]) (G := [.sort]) Try.func180 (by kernel_rfl) (.c oz0 <| .c (show true = true by with_reducible rfl) <| .n)
theorem count_g (l : List Int) (m : Int) (hb : ∀ x ∈ l, 0 ≤ x ∧ x ≤ 255) (hl : l.length ≤ 1000000) (h : getE l ≠ 0) (h0 : 0 ≤ m) (h1 : m ≤ 2147483647) : VM Try.prog 180 ([.ptr 100000 0 0, i64 m]) ([(100000, .var (rdC (l, 0)))]) (i64 0) ([(100000, .var (rdC ([], getE l)))]) := by
  have oz0 := @next_g (l) hb hl h
  exact VM.run (fn := Try.f180) (W := [.r [] [], .r [] [.callm [(100000, 100000)] [] (rM oz0) (oM oz0)], .r [] [], .br true, .r [] []]) (G := [.sort]) Try.func180 (by kernel_rfl) (.c oz0 <| .c (show true = true by with_reducible rfl) <| .n)
theorem count_m (l : List Int) (m : Int) (hb : ∀ x ∈ l, 0 ≤ x ∧ x ≤ 255) (hl : l.length ≤ 1000000) (h : getE l = 0) (h0 : 0 ≤ m) (h1 : m ≤ 2147483647) (h2 : m < getV l) : VM Try.prog 180 ([.ptr 100000 0 0, i64 m]) ([(100000, .var (rdC (l, 0)))]) (i64 0) ([(100000, .var (rdC ([], 3)))]) := by
  obtain ⟨q1, q2, q3⟩ := get_rng hb
  have oz0 := @next_y (l) hb hl h
  have oz4 := @rfail_v (List.drop (getN l).toNat l) (3)
  exact VM.run (fn := Try.f180) (W := [.r [] [], .r [] [.callm [(100000, 100000)] [] (rM oz0) (oM oz0)], .r [] [], .br false, .r [] [.n (if 0 > m then 0 else m)], .br true, .r [] [.callm [(100000, 100000)] [] (rM oz4) (oM oz4)], .r [] []]) (G := [.sort]) Try.func180 (by kernel_rfl) (.c oz0 <| .c (show false = false by with_reducible rfl) <| .c (IntWalk.u64_in (if 0 > m then 0 else m) (by omega)) <| .c (decide_eq_true (p := (getV l > if 0 > m then 0 else m)) (by omega)) <| .c oz4 <| .n)
theorem count_y (l : List Int) (m : Int) (hb : ∀ x ∈ l, 0 ≤ x ∧ x ≤ 255) (hl : l.length ≤ 1000000) (h : getE l = 0) (h0 : 0 ≤ m) (h1 : m ≤ 2147483647) (h2 : getV l ≤ m) : VM Try.prog 180 ([.ptr 100000 0 0, i64 m]) ([(100000, .var (rdC (l, 0)))]) (i64 (getV l)) ([(100000, .var (rdC (l.drop (getN l).toNat, 0)))]) := by
  obtain ⟨q1, q2, q3⟩ := get_rng hb
  have oz0 := @next_y (l) hb hl h
  exact VM.run (fn := Try.f180) (W := [.r [] [], .r [] [.callm [(100000, 100000)] [] (rM oz0) (oM oz0)], .r [] [], .br false, .r [] [.n (if 0 > m then 0 else m)], .br false, .r [] [.n (getV l)]]) (G := [.sort]) Try.func180 (by kernel_rfl) (.c oz0 <| .c (show false = false by with_reducible rfl) <| .c (IntWalk.u64_in (if 0 > m then 0 else m) (by omega)) <| .c (decide_eq_false (p := (getV l > if 0 > m then 0 else m)) (by omega)) <| .c (IntWalk.i64_in (getV l) (by omega)) <| .n)
end Go.Proofs.Ytgecmooedhnenaa
/- A reader of bytes, of the program: numbers and lists. No condition. -/
namespace Go.Proofs.Ytgecmooedhnenaa
open Go.RowKit
set_option linter.unusedSimpArgs false
set_option linter.unusedVariables false
set_option linter.unnecessarySimpa false
structure Rst.In (s : Rst) : Prop where
  b : ∀ x ∈ s.1, 0 ≤ x ∧ x ≤ 255
  l : s.1.length ≤ 1000000
theorem mem_drop' {l : List Int} {n : Nat} {p : Int → Prop} (h : ∀ x ∈ l, p x) : ∀ x ∈ l.drop n, p x := fun x hx => h x (List.mem_of_mem_drop hx)
theorem cnt_in {s : Rst} (h : s.In) (m : Int) : (cntS s m).In := by
  unfold cntS
  split
  · exact h
  · split
    · exact ⟨by simp, by simp⟩
    · split
      · exact ⟨by simp, by simp⟩
      · exact ⟨mem_drop' h.b, by have := h.l; simp only [List.length_drop]; omega⟩
theorem cnt_v (s : Rst) (m : Int) (h : s.In) (h0 : 0 ≤ m) (h1 : m ≤ 2147483647) : VM Try.prog 180 [.ptr 100000 0 0, i64 m] [(100000, .var (rdC s))] (i64 (cntV s m)) [(100000, .var (rdC (cntS s m)))] := by
  obtain ⟨l, e⟩ := s
  by_cases he : e = 0
  · subst he
    by_cases hg : getE l = 0
    · by_cases hm : m < getV l
      · rw [show cntS (l, 0) m = ([], 3) from by simp [cntS, hg, show max m 0 < getV l by omega], show cntV (l, 0) m = 0 from by simp [cntV, hg, show max m 0 < getV l by omega]]
        exact count_m l m h.b h.l hg h0 h1 hm
      · rw [show cntS (l, 0) m = (l.drop (getN l).toNat, 0) from by simp [cntS, hg, show ¬ max m 0 < getV l by omega], show cntV (l, 0) m = getV l from by simp [cntV, hg, show ¬ max m 0 < getV l by omega]]
        exact count_y l m h.b h.l hg h0 h1 (by omega)
    · rw [show cntS (l, 0) m = ([], getE l) from by simp [cntS, hg], show cntV (l, 0) m = 0 from by simp [cntV, hg]]
      exact count_g l m h.b h.l hg h0 h1
  · rw [show cntS (l, e) m = (l, e) from by simp [cntS, he], show cntV (l, e) m = 0 from by simp [cntV, he]]
    exact count_e (l, e) m he h0 h1
theorem cntV_rng {s : Rst} {m : Int} (h : s.In) (h0 : 0 ≤ m) : 0 ≤ cntV s m ∧ cntV s m ≤ m := by
  have := (get_rng h.b).1
  unfold cntV
  split
  · omega
  · split
    · omega
    · split
      · omega
      · omega
def intS (s : Rst) (lo hi : Int) : Rst :=
  if s.2 ≠ 0 then s else if getE s.1 ≠ 0 then ([], getE s.1) else if unfoldN (getV s.1) < lo ∨ hi < unfoldN (getV s.1) then ([], 3) else (s.1.drop (getN s.1).toNat, 0)
def intV (s : Rst) (lo hi : Int) : Int :=
  if s.2 ≠ 0 then 0 else if getE s.1 ≠ 0 then 0 else if unfoldN (getV s.1) < lo ∨ hi < unfoldN (getV s.1) then 0 else unfoldN (getV s.1)
theorem int_in {s : Rst} (h : s.In) (lo hi : Int) : (intS s lo hi).In := by
  unfold intS
  split
  · exact h
  · split
    · exact ⟨by simp, by simp⟩
    · split
      · exact ⟨by simp, by simp⟩
      · exact ⟨mem_drop' h.b, by have := h.l; simp only [List.length_drop]; omega⟩
theorem int_e (s : Rst) (lo hi : Int) (h : s.2 ≠ 0) : VM Try.prog 269 ([.ptr 100000 0 0, i64 lo, i64 hi]) ([(100000, .var (rdC s))]) (i64 0) ([(100000, .var (rdC s))]) := by
  have oz0 := @nexti_e (s) h
  exact VM.run (fn := Try.f269) (W := [.r [] [], .r [] [.callm [(100000, 100000)] [] (rM oz0) (oM oz0)], .r [] [], .br true, .r [] []]) (G := [.sort]) Try.func269 (by kernel_rfl) (.c oz0 <| .c (show true = true by with_reducible rfl) <| .n)
theorem int_g (l : List Int) (lo hi : Int) (hb : ∀ x ∈ l, 0 ≤ x ∧ x ≤ 255) (hl : l.length ≤ 1000000) (h : getE l ≠ 0) : VM Try.prog 269 ([.ptr 100000 0 0, i64 lo, i64 hi]) ([(100000, .var (rdC (l, 0)))]) (i64 0) ([(100000, .var (rdC ([], getE l)))]) := by
  have oz0 := @nexti_g (l) hb hl h
  exact VM.run (fn := Try.f269) (W := [.r [] [], .r [] [.callm [(100000, 100000)] [] (rM oz0) (oM oz0)], .r [] [], .br true, .r [] []]) (G := [.sort]) Try.func269 (by kernel_rfl) (.c oz0 <| .c (show true = true by with_reducible rfl) <| .n)
theorem int_m (l : List Int) (lo hi : Int) (hb : ∀ x ∈ l, 0 ≤ x ∧ x ≤ 255) (hl : l.length ≤ 1000000) (h : getE l = 0) (h2 : unfoldN (getV l) < lo ∨ hi < unfoldN (getV l)) : VM Try.prog 269 ([.ptr 100000 0 0, i64 lo, i64 hi]) ([(100000, .var (rdC (l, 0)))]) (i64 0) ([(100000, .var (rdC ([], 3)))]) := by
  have oz0 := @nexti_y (l) hb hl h
  have oz3 := @rfail_v (List.drop (getN l).toNat l) (3)
  exact VM.run (fn := Try.f269) (W := [.r [] [], .r [] [.callm [(100000, 100000)] [] (rM oz0) (oM oz0)], .r [] [], .br false, .r [] [.op false, .op false, .op false, .sel 1], .br true, .r [] [.callm [(100000, 100000)] [] (rM oz3) (oM oz3)], .r [] []]) (G := [.sort]) Try.func269 (by kernel_rfl) (.c oz0 <| .c (show false = false by with_reducible rfl) <| .c (show (decide (unfoldN (getV l) < lo) || decide (unfoldN (getV l) > hi)) = true by (simp; omega)) <| .c oz3 <| .n)
theorem int_y (l : List Int) (lo hi : Int) (hb : ∀ x ∈ l, 0 ≤ x ∧ x ≤ 255) (hl : l.length ≤ 1000000) (h : getE l = 0) (h2 : ¬ unfoldN (getV l) < lo) (h3 : ¬ hi < unfoldN (getV l)) : VM Try.prog 269 ([.ptr 100000 0 0, i64 lo, i64 hi]) ([(100000, .var (rdC (l, 0)))]) (i64 (unfoldN (getV l))) ([(100000, .var (rdC (l.drop (getN l).toNat, 0)))]) := by
  have oz0 := @nexti_y (l) hb hl h
  have oz2 := (decide_eq_false (p := (unfoldN (getV l) < lo)) (by omega))
  exact VM.run (fn := Try.f269) (W := [.r [] [], .r [] [.callm [(100000, 100000)] [] (rM oz0) (oM oz0)], .r [] [], .br false, .r [] [.br true, .br true, .br true, .br false], .br false, .r [] []]) (G := [.sort]) Try.func269 (by kernel_rfl) (.c oz0 <| .c (show false = false by with_reducible rfl) <| .c oz2 <| .c oz2 <| .c oz2 <| .c oz2 <| .c (decide_eq_false (p := (unfoldN (getV l) > hi)) (by omega)) <| .n)
theorem int_v (s : Rst) (lo hi : Int) (h : s.In) : VM Try.prog 269 [.ptr 100000 0 0, i64 lo, i64 hi] [(100000, .var (rdC s))] (i64 (intV s lo hi)) [(100000, .var (rdC (intS s lo hi)))] := by
  obtain ⟨l, e⟩ := s
  by_cases he : e = 0
  · subst he
    by_cases hg : getE l = 0
    · by_cases hm : unfoldN (getV l) < lo ∨ hi < unfoldN (getV l)
      · rw [show intS (l, 0) lo hi = ([], 3) from by simp only [intS]; rw [if_neg (by simp), if_neg (by simp [hg]), if_pos hm], show intV (l, 0) lo hi = 0 from by simp only [intV]; rw [if_neg (by simp), if_neg (by simp [hg]), if_pos hm]]
        exact int_m l lo hi h.b h.l hg hm
      · rw [show intS (l, 0) lo hi = (l.drop (getN l).toNat, 0) from by simp only [intS]; rw [if_neg (by simp), if_neg (by simp [hg]), if_neg hm], show intV (l, 0) lo hi = unfoldN (getV l) from by simp only [intV]; rw [if_neg (by simp), if_neg (by simp [hg]), if_neg hm]]
        exact int_y l lo hi h.b h.l hg (fun q => hm (.inl q)) (fun q => hm (.inr q))
    · rw [show intS (l, 0) lo hi = ([], getE l) from by simp [intS, hg], show intV (l, 0) lo hi = 0 from by simp [intV, hg]]
      exact int_g l lo hi h.b h.l hg
  · rw [show intS (l, e) lo hi = (l, e) from by simp [intS, he], show intV (l, e) lo hi = 0 from by simp [intV, he]]
    exact int_e (l, e) lo hi he
theorem intV_rng {s : Rst} {lo hi : Int} (h0 : lo ≤ 0) (h1 : 0 ≤ hi) : lo ≤ intV s lo hi ∧ intV s lo hi ≤ hi := by
  unfold intV
  split
  · omega
  · split
    · omega
    · split
      · omega
      · omega
theorem int32_v (s : Rst) (h : s.In) : VM Try.prog 268 ([.ptr 100000 0 0]) ([(100000, .var (rdC s))]) (i32 (intV s (-2147483648) 2147483647)) ([(100000, .var (rdC (intS s (-2147483648) 2147483647)))]) := by
  have q := @intV_rng s (-2147483648) 2147483647 (by decide) (by decide)
  have oz0 := @int_v (s) (-2147483648) (2147483647) h
  have oz1 := (IntWalk.i32_in (intV s (-2147483648) 2147483647) (by omega))
  exact VM.run (fn := Try.f268) (W := [.r [] [], .r [] [.callm [(100000, 100000)] [] (rM oz0) (oM oz0), .n (nO oz1)]]) (G := [.sort]) Try.func268 (by kernel_rfl) (.c oz0 <| .c oz1 <| .n)
theorem byte8_v (l : List Int) (hb : ∀ x ∈ l, 0 ≤ x ∧ x ≤ 255) (hl : l.length ≤ 1000000) (h : 0 < l.length) : VM Try.prog 266 ([.ptr 100000 0 0]) ([(100000, .var (rdC (l, 0)))]) (i8 (IntKind.i8.wrap (l.getD 0 default))) ([(100000, .var (rdC (l.drop 1, 0)))]) := by
  have oz6 := (Weak.int (k := .i8) (show ((IntKind.i8.wrap ((l, 0).fst.getD 0 0)) : Int) = (IntKind.i8.wrap (l.getD 0 default)) from (by (simp; done))))
  exact VM.run (fn := Try.f266) (W := [.r [] [], .r [] [.row [u8 ((l, 0).fst.getD 0 0)], .w], .r [] [.nats 1 (List.map (row1 IntKind.u8) (l, 0).fst).length], .r [] []]) (G := [.weak 0 (wO oz6), .blk 100000 (Blk.var [AV.sl 1 (List.map (row1 IntKind.u8) (List.drop 1 l)), i64 0]), .sort]) Try.func266 (by kernel_rfl) (.c (show (0 : Int) ≤ (0 : Int) by omega) <| .c (map_at (row1 IntKind.u8) (0) (l := (l, 0).fst) (i := 0) h) <| .c (show (1 : Int) = (↑(1 : Nat) : Int) by omega) <| .c (show (List.map (row1 IntKind.u8) (l, 0).fst).length = (List.map (row1 IntKind.u8) (l, 0).fst).length by with_reducible rfl) <| .c (show 1 ≤ (List.map (row1 IntKind.u8) (l, 0).fst).length by (simp; omega)) <| .c (show (List.map (row1 IntKind.u8) (l, 0).fst).length ≤ (List.map (row1 IntKind.u8) (l, 0).fst).length by omega) <| .c oz6 <| .c (show BlkW (Blk.var [AV.sl 1 (List.take ((List.map (row1 IntKind.u8) (l, 0).fst).length - 1) (List.drop 1 (List.map (row1 IntKind.u8) (l, 0).fst))), i64 (l, 0).snd]) (Blk.var [AV.sl 1 (List.map (row1 IntKind.u8) (List.drop 1 l)), i64 0]) from (BlkW.var (.cons (Weak.rows (rows_to (row1 IntKind.u8) (r := List.take ((List.map (row1 IntKind.u8) (l, 0).fst).length - 1) (List.drop 1 (List.map (row1 IntKind.u8) (l, 0).fst))) (l := List.take ((List.map (row1 IntKind.u8) (l, 0).fst).length - 1) (List.drop 1 (l, 0).fst)) (m := List.drop 1 l) (by first | (simp only [List.map_append, List.map_cons, List.map_nil, List.map_set, List.map_replicate, List.map_take, List.map_drop]; done) | rfl | (simp only [List.map_append, List.map_cons, List.map_nil, List.map_set, List.map_replicate, List.map_take, List.map_drop]; rfl)) (show (List.take ((List.map (row1 IntKind.u8) (l, 0).fst).length - 1) (List.drop 1 (l, 0).fst)) = (List.drop 1 l) from (by (rw [List.take_of_length_le (by simp [List.length_drop])]))))) (.cons (.refl _) .nil)))) <| .n)
theorem left_v (s : Rst)  : VM Try.prog 43 ([.ptr 100000 0 0]) ([(100000, .var (rdC s))]) (i64 s.1.length) ([(100000, .var (rdC s))]) := by
  have oz1 := (Weak.int (k := .i64) (show (((↑(List.map (row1 IntKind.u8) s.fst).length : Int)) : Int) = ((↑s.fst.length : Int)) from (by (simp; done))))
  exact VM.run (fn := Try.f43) (W := [.r [] [], .r [] [], .br false, .r [] []]) (G := [.weak 0 (wO oz1), .sort]) Try.func43 (by kernel_rfl) (.c (show false = false by with_reducible rfl) <| .c oz1 <| .n)
theorem end_e (s : Rst) (h : s.2 ≠ 0) : VM Try.prog 173 ([.ptr 100000 0 0]) ([(100000, .var (rdC s))]) (i64 s.2) ([(100000, .var (rdC s))]) := by
  exact VM.run (fn := Try.f173) (W := [.r [] [], .r [] [], .br false, .r [] [], .br true, .r [] []]) (G := [.sort]) Try.func173 (by kernel_rfl) (.c (show false = false by with_reducible rfl) <| .c (show (s.snd != 0) = true by (simp; omega)) <| .n)
theorem end_m (l : List Int) (h : 0 < l.length) : VM Try.prog 173 ([.ptr 100000 0 0]) ([(100000, .var (rdC (l, 0)))]) (i64 24) ([(100000, .var (rdC (l, 0)))]) := by
  exact VM.run (fn := Try.f173) (W := [.r [] [], .r [] [], .br false, .r [] [], .br false, .r [] [], .br true, .r [] []]) (G := [.sort]) Try.func173 (by kernel_rfl) (.c (show false = false by with_reducible rfl) <| .c (show ((l, 0).snd != 0) = false by (simp; done)) <| .c (show decide ((↑(List.map (row1 IntKind.u8) (l, 0).fst).length : Int) > 0) = true by (simp; omega)) <| .n)
theorem end_z   : VM Try.prog 173 ([.ptr 100000 0 0]) ([(100000, .var (rdC ([], 0)))]) (i64 0) ([(100000, .var (rdC ([], 0)))]) := by
  have oz0 := (show false = false by with_reducible rfl)
  exact VM.run (fn := Try.f173) (W := [.r [] [], .r [] [], .br false, .r [] [], .br false, .r [] [], .br false, .r [] []]) (G := [.sort]) Try.func173 (by kernel_rfl) (.c oz0 <| .c oz0 <| .c oz0 <| .n)
end Go.Proofs.Ytgecmooedhnenaa
/- A reader of bytes, of the program: lists. No condition. -/
namespace Go.Proofs.Ytgecmooedhnenaa
open Go.RowKit
set_option linter.unusedSimpArgs false
set_option linter.unusedVariables false
set_option linter.unnecessarySimpa false
def dpW (l : List Int) : Nat → List Int
  | 0 => l
  | k + 1 => (dpW l k).drop 1
def tkW (l : List Int) : Nat → List Int
  | 0 => []
  | k + 1 => tkW l k ++ [IntKind.i8.wrap ((dpW l k).getD 0 default)]
theorem dpW_eq (l : List Int) (k : Nat) : dpW l k = l.drop k := by
  induction k with
  | zero => rfl
  | succ k ih => rw [dpW, ih, List.drop_drop]
theorem tkW_len (l : List Int) (k : Nat) : (tkW l k).length = k := by
  induction k with
  | zero => rfl
  | succ k ih => rw [tkW, List.length_append, ih]; rfl
def itS (s : Rst) : Nat → Rst
  | 0 => s
  | k + 1 => intS (itS s k) (-2147483648) 2147483647
def itV (s : Rst) : Nat → List Int
  | 0 => []
  | k + 1 => itV s k ++ [intV (itS s k) (-2147483648) 2147483647]
theorem itS_in {s : Rst} (h : s.In) (k : Nat) : (itS s k).In := by
  induction k with
  | zero => exact h
  | succ k ih => exact int_in ih _ _
theorem itV_len (s : Rst) (k : Nat) : (itV s k).length = k := by
  induction k with
  | zero => rfl
  | succ k ih => rw [itV, List.length_append, ih]; rfl
noncomputable def all8_l_I (l : List Int) (n : Nat) (k : Nat) : VS := stt 45 [(0, AV.ptr 100000 0 0), (2, .bnd 266 (.ptr 100000 0 0)), (7, .own 900), (30, i64 n), (31, i64 k)] [(900, .slc 30 1 ((tkW l k).map (row1 .i8))), (100000, .var (rdC (dpW l k, 0)))]
noncomputable def all8_l_Z (l : List Int) (n : Nat) : VS := all8_l_I l n (n)
theorem all8_l_s (l : List Int) (n : Nat) (hb : ∀ x ∈ l, 0 ≤ x ∧ x ≤ 255) (hl : l.length ≤ 1000000) (h1 : n ≤ l.length) (k : Nat) (hk : k < n) : VT Try.prog (fnC Try.f265 [1, 1, 1, 1, 0, 1, 0, 0]) (all8_l_I l n k) .normal (all8_l_I l n (k + 1)) := by
  have q1 : ∀ x ∈ dpW l k, 0 ≤ x ∧ x ≤ 255 := by rw [dpW_eq]; exact mem_drop' hb
  have q2 : (dpW l k).length = l.length - k := by rw [dpW_eq, List.length_drop]
  have q3 := tkW_len l k
  have oz1 := @byte8_v (dpW l k) q1 (by omega) (by omega)
  exact VT.run (W := [.r [] [], .br true, .r [] [.callm [(100000, 100000)] [] (rM oz1) (oM oz1)], .r [] [.n ((↑k : Int) + 1)]]) (G := [.any (rg [(32, 7)]), .drop [36], .ren 37 900, .weak 31 (i64 (↑(k + 1) : Int)), .blk 900 (Blk.slc 30 1 (List.map (row1 IntKind.i8) (tkW l (k + 1)))), .blk 100000 (Blk.var [AV.sl 1 (List.map (row1 IntKind.u8) (dpW l (k + 1))), i64 0]), .sort]) (by kernel_rfl) (.c (decide_eq_true (p := ((↑k : Int) < (↑n : Int))) (by omega)) <| .c oz1 <| .c (show ((List.map (row1 IntKind.i8) (tkW l k)).length + 1) * 1 ≤ 140737488355328 by (simp; omega)) <| .c (show (List.map (row1 IntKind.i8) (tkW l k)).length + 1 ≤ 9223372036854775807 by (simp; omega)) <| .c (IntWalk.i64_in ((↑k : Int) + 1) (by omega)) <| .c (Weak.int (k := .i64) (show (((↑k : Int) + 1) : Int) = ((↑(k + 1) : Int)) from (by omega))) <| .c (show BlkW (Blk.slc 30 1 (List.map (row1 IntKind.i8) (tkW l k) ++ [[i8 (IntKind.i8.wrap ((dpW l k).getD 0 default))]])) (Blk.slc 30 1 (List.map (row1 IntKind.i8) (tkW l (k + 1)))) from (BlkW.rows (rows_to (row1 IntKind.i8) (r := List.map (row1 IntKind.i8) (tkW l k) ++ [[i8 (IntKind.i8.wrap ((dpW l k).getD 0 default))]]) (l := tkW l k ++ [IntKind.i8.wrap ((dpW l k).getD 0 default)]) (m := tkW l (k + 1)) (by first | (simp only [List.map_append, List.map_cons, List.map_nil, List.map_set, List.map_replicate, List.map_take, List.map_drop]; done) | rfl | (simp only [List.map_append, List.map_cons, List.map_nil, List.map_set, List.map_replicate, List.map_take, List.map_drop]; rfl)) (show (tkW l k ++ [IntKind.i8.wrap ((dpW l k).getD 0 default)]) = (tkW l (k + 1)) from (by rfl))))) <| .c (show BlkW (Blk.var [AV.sl 1 (List.map (row1 IntKind.u8) (List.drop 1 (dpW l k))), i64 0]) (Blk.var [AV.sl 1 (List.map (row1 IntKind.u8) (dpW l (k + 1))), i64 0]) from (BlkW.var (.cons (Weak.rows (rows_to (row1 IntKind.u8) (r := List.map (row1 IntKind.u8) (List.drop 1 (dpW l k))) (l := List.drop 1 (dpW l k)) (m := dpW l (k + 1)) rfl (show (List.drop 1 (dpW l k)) = (dpW l (k + 1)) from (by rfl)))) (.cons (.refl _) .nil)))) <| .n)
theorem all8_l_e (l : List Int) (n : Nat) (hb : ∀ x ∈ l, 0 ≤ x ∧ x ≤ 255) (hl : l.length ≤ 1000000) (h1 : n ≤ l.length) : VT Try.prog (fnC Try.f265 [1, 1, 1, 1, 0, 1, 0, 0]) (all8_l_I l n (n)) (.exit 0) (all8_l_Z l n) := by
  exact VT.run (W := [.r [] [], .br false]) (G := [.any [32], .sort]) (by kernel_rfl) (.c (decide_eq_false (p := ((↑n : Int) < (↑n : Int))) (by omega)) <| .n)
theorem all8_l (l : List Int) (n : Nat) (hb : ∀ x ∈ l, 0 ≤ x ∧ x ≤ 255) (hl : l.length ≤ 1000000) (h1 : n ≤ l.length) : VT Try.prog (fnC Try.f265 [1, 1, 1, 1, 0, 1, 0]) (all8_l_I l n 0) (.exit 0) (all8_l_Z l n) :=
  VT.loop (fun k => all8_l_I l n k) (n) (fun k hk => all8_l_s l n hb hl h1 k hk) (all8_l_e l n hb hl h1) (by intro h; cases h)
noncomputable def all32_l_I (l : List Int) (n : Nat) (k : Nat) : VS := stt 45 [(0, AV.ptr 100000 0 0), (2, .bnd 268 (.ptr 100000 0 0)), (7, .own 900), (30, i64 n), (31, i64 k)] [(900, .slc 21 1 ((itV (l, 0) k).map (row1 .i32))), (100000, .var (rdC (itS (l, 0) k)))]
noncomputable def all32_l_Z (l : List Int) (n : Nat) : VS := all32_l_I l n (n)
theorem all32_l_s (l : List Int) (n : Nat) (hb : ∀ x ∈ l, 0 ≤ x ∧ x ≤ 255) (hl : l.length ≤ 1000000) (h1 : n ≤ l.length) (k : Nat) (hk : k < n) : VT Try.prog (fnC Try.f267 [1, 1, 1, 1, 0, 1, 0, 0]) (all32_l_I l n k) .normal (all32_l_I l n (k + 1)) := by
  have q1 : (itS (l, 0) k).In := itS_in ⟨hb, hl⟩ k
  have q3 := itV_len (l, 0) k
  have oz1 := @int32_v (itS (l, 0) k) q1
  exact VT.run (W := [.r [] [], .br true, .r [] [.callm [(100000, 100000)] [] (rM oz1) (oM oz1)], .r [] [.n ((↑k : Int) + 1)]]) (G := [.any (rg [(32, 7)]), .drop [36], .ren 37 900, .weak 31 (i64 (↑(k + 1) : Int)), .blk 900 (Blk.slc 21 1 (List.map (row1 IntKind.i32) (itV (l, 0) (k + 1)))), .blk 100000 (Blk.var [AV.sl 1 (List.map (row1 IntKind.u8) (itS (l, 0) (k + 1)).fst), i64 (itS (l, 0) (k + 1)).snd]), .sort]) (by kernel_rfl) (.c (decide_eq_true (p := ((↑k : Int) < (↑n : Int))) (by omega)) <| .c oz1 <| .c (show ((List.map (row1 IntKind.i32) (itV (l, 0) k)).length + 1) * 4 ≤ 140737488355328 by (simp; omega)) <| .c (show (List.map (row1 IntKind.i32) (itV (l, 0) k)).length + 1 ≤ 9223372036854775807 by (simp; omega)) <| .c (IntWalk.i64_in ((↑k : Int) + 1) (by omega)) <| .c (Weak.int (k := .i64) (show (((↑k : Int) + 1) : Int) = ((↑(k + 1) : Int)) from (by omega))) <| .c (show BlkW (Blk.slc 21 1 (List.map (row1 IntKind.i32) (itV (l, 0) k) ++ [[i32 (intV (itS (l, 0) k) (-2147483648) 2147483647)]])) (Blk.slc 21 1 (List.map (row1 IntKind.i32) (itV (l, 0) (k + 1)))) from (BlkW.rows (rows_to (row1 IntKind.i32) (r := List.map (row1 IntKind.i32) (itV (l, 0) k) ++ [[i32 (intV (itS (l, 0) k) (-2147483648) 2147483647)]]) (l := itV (l, 0) k ++ [intV (itS (l, 0) k) (-2147483648) 2147483647]) (m := itV (l, 0) (k + 1)) (by first | (simp only [List.map_append, List.map_cons, List.map_nil, List.map_set, List.map_replicate, List.map_take, List.map_drop]; done) | rfl | (simp only [List.map_append, List.map_cons, List.map_nil, List.map_set, List.map_replicate, List.map_take, List.map_drop]; rfl)) (show (itV (l, 0) k ++ [intV (itS (l, 0) k) (-2147483648) 2147483647]) = (itV (l, 0) (k + 1)) from (by rfl))))) <| .c (show BlkW (Blk.var [AV.sl 1 (List.map (row1 IntKind.u8) (intS (itS (l, 0) k) (-2147483648) 2147483647).fst), i64 (intS (itS (l, 0) k) (-2147483648) 2147483647).snd]) (Blk.var [AV.sl 1 (List.map (row1 IntKind.u8) (itS (l, 0) (k + 1)).fst), i64 (itS (l, 0) (k + 1)).snd]) from (BlkW.var (.cons (Weak.rows (rows_to (row1 IntKind.u8) (r := List.map (row1 IntKind.u8) (intS (itS (l, 0) k) (-2147483648) 2147483647).fst) (l := (intS (itS (l, 0) k) (-2147483648) 2147483647).fst) (m := (itS (l, 0) (k + 1)).fst) rfl (show ((intS (itS (l, 0) k) (-2147483648) 2147483647).fst) = ((itS (l, 0) (k + 1)).fst) from (by rfl)))) (.cons (Weak.int (show (((intS (itS (l, 0) k) (-2147483648) 2147483647).snd) : Int) = ((itS (l, 0) (k + 1)).snd) from (by rfl))) .nil)))) <| .n)
theorem all32_l_e (l : List Int) (n : Nat) (hb : ∀ x ∈ l, 0 ≤ x ∧ x ≤ 255) (hl : l.length ≤ 1000000) (h1 : n ≤ l.length) : VT Try.prog (fnC Try.f267 [1, 1, 1, 1, 0, 1, 0, 0]) (all32_l_I l n (n)) (.exit 0) (all32_l_Z l n) := by
  exact VT.run (W := [.r [] [], .br false]) (G := [.any [32], .sort]) (by kernel_rfl) (.c (decide_eq_false (p := ((↑n : Int) < (↑n : Int))) (by omega)) <| .n)
theorem all32_l (l : List Int) (n : Nat) (hb : ∀ x ∈ l, 0 ≤ x ∧ x ≤ 255) (hl : l.length ≤ 1000000) (h1 : n ≤ l.length) : VT Try.prog (fnC Try.f267 [1, 1, 1, 1, 0, 1, 0]) (all32_l_I l n 0) (.exit 0) (all32_l_Z l n) :=
  VT.loop (fun k => all32_l_I l n k) (n) (fun k hk => all32_l_s l n hb hl h1 k hk) (all32_l_e l n hb hl h1) (by intro h; cases h)
theorem all8_y (l : List Int) (n : Nat) (hb : ∀ x ∈ l, 0 ≤ x ∧ x ≤ 255) (hl : l.length ≤ 1000000) (h0 : 1 ≤ n) (h1 : n ≤ l.length) : VM Try.prog 265 ([.ptr 100000 0 0, i64 n, .bnd 266 (.ptr 100000 0 0)]) ([(100000, .var (rdC (l, 0)))]) (.sl 1 ((tkW l n).map (row1 .i8))) ([(100000, .var (rdC (dpW l n, 0)))]) := by
  have q3 := tkW_len l n
  have oz0 := (show false = false by with_reducible rfl)
  have oz10 := @all8_l (l) (n) hb hl h1
  exact VM.run (fn := Try.f265) (W := [.r [] [], .r [] [.br true, .br true, .br true, .br true, .br true, .br false, .op false, .op false, .sel 1], .br false, .r [] [], .br false, .r [] [], .r [] [], .code [.any (rg [(1, 1), (6, 1), (8, 10), (20, 8)]), .weak 31 (i64 (↑0 : Int)), .nils 7 900 30 1, .blk 100000 (Blk.var [AV.sl 1 (List.map (row1 IntKind.u8) (dpW l 0)), i64 0]), .sort] (Exit.exit 0) (zO oz10), .r [] [], .br false, .r [] []]) (G := [.frz 900, .sort]) Try.func265 (by kernel_rfl) (.c oz0 <| .c oz0 <| .c oz0 <| .c oz0 <| .c oz0 <| .c oz0 <| .c (show ((l, 0).snd != 0 || decide ((↑n : Int) < 1)) = false by (refine decide_eq_false ?_; omega)) <| .c (show decide ((↑n : Int) > (↑(List.map (row1 IntKind.u8) (l, 0).fst).length : Int)) = false by (simp; omega)) <| .c (Weak.int (k := .i64) (show ((0) : Int) = ((↑0 : Int)) from (by omega))) <| .c (show BlkW (Blk.var [AV.sl 1 (List.map (row1 IntKind.u8) (l, 0).fst), i64 (l, 0).snd]) (Blk.var [AV.sl 1 (List.map (row1 IntKind.u8) (dpW l 0)), i64 0]) from (BlkW.var (.cons (Weak.rows (rows_to (row1 IntKind.u8) (r := List.map (row1 IntKind.u8) (l, 0).fst) (l := (l, 0).fst) (m := dpW l 0) rfl (show ((l, 0).fst) = (dpW l 0) from (by rfl)))) (.cons (.refl _) .nil)))) <| .c oz10 <| .c oz0 <| .n)
theorem all8_e (s : Rst) (n : Int) (h : s.2 ≠ 0) : VM Try.prog 265 ([.ptr 100000 0 0, i64 n, .bnd 266 (.ptr 100000 0 0)]) ([(100000, .var (rdC s))]) (.sl 1 (([] : List Int).map (row1 .i8))) ([(100000, .var (rdC s))]) := by
  have oz0 := (show false = false by with_reducible rfl)
  exact VM.run (fn := Try.f265) (W := [.r [] [], .r [] [.br true, .br true, .br true, .br true, .br true, .br false, .op false, .op false, .sel 1], .br true, .r [] []]) (G := [.weak 0 (AV.sl 1 []), .sort]) Try.func265 (by kernel_rfl) (.c oz0 <| .c oz0 <| .c oz0 <| .c oz0 <| .c oz0 <| .c oz0 <| .c (show (s.snd != 0 || decide (n < 1)) = true by (simp; omega)) <| .c (show Weak (AV.lit (Value.slice none 0 0)) (AV.sl 1 []) from (Weak.nil _)) <| .n)
theorem all8_n (l : List Int) (n : Int) (h : n < 1) : VM Try.prog 265 ([.ptr 100000 0 0, i64 n, .bnd 266 (.ptr 100000 0 0)]) ([(100000, .var (rdC (l, 0)))]) (.sl 1 (([] : List Int).map (row1 .i8))) ([(100000, .var (rdC (l, 0)))]) := by
  have oz0 := (show false = false by with_reducible rfl)
  exact VM.run (fn := Try.f265) (W := [.r [] [], .r [] [.br true, .br true, .br true, .br true, .br true, .br false, .op false, .op false, .sel 1], .br true, .r [] []]) (G := [.weak 0 (AV.sl 1 []), .sort]) Try.func265 (by kernel_rfl) (.c oz0 <| .c oz0 <| .c oz0 <| .c oz0 <| .c oz0 <| .c oz0 <| .c (show ((l, 0).snd != 0 || decide (n < 1)) = true by (refine decide_eq_true ?_; omega)) <| .c (show Weak (AV.lit (Value.slice none 0 0)) (AV.sl 1 []) from (Weak.nil _)) <| .n)
theorem all8_m (l : List Int) (n : Int) (h : 1 ≤ n) (h1 : (l.length : Int) < n) : VM Try.prog 265 ([.ptr 100000 0 0, i64 n, .bnd 266 (.ptr 100000 0 0)]) ([(100000, .var (rdC (l, 0)))]) (.sl 1 (([] : List Int).map (row1 .i8))) ([(100000, .var (rdC ([], 20)))]) := by
  have oz0 := (show false = false by with_reducible rfl)
  have oz8 := @rfail_v (l) (20)
  exact VM.run (fn := Try.f265) (W := [.r [] [], .r [] [.br true, .br true, .br true, .br true, .br true, .br false, .op false, .op false, .sel 1], .br false, .r [] [], .br true, .r [] [.callm [(100000, 100000)] [] (rM oz8) (oM oz8)], .r [] []]) (G := [.weak 0 (AV.sl 1 []), .sort]) Try.func265 (by kernel_rfl) (.c oz0 <| .c oz0 <| .c oz0 <| .c oz0 <| .c oz0 <| .c oz0 <| .c (show ((l, 0).snd != 0 || decide (n < 1)) = false by (refine decide_eq_false ?_; omega)) <| .c (show decide (n > (↑(List.map (row1 IntKind.u8) (l, 0).fst).length : Int)) = true by (simp; omega)) <| .c oz8 <| .c (show Weak (AV.lit (Value.slice none 0 0)) (AV.sl 1 []) from (Weak.nil _)) <| .n)
theorem all32_y (l : List Int) (n : Nat) (hb : ∀ x ∈ l, 0 ≤ x ∧ x ≤ 255) (hl : l.length ≤ 1000000) (h0 : 1 ≤ n) (h1 : n ≤ l.length) (h : (itS (l, 0) n).2 = 0) : VM Try.prog 267 ([.ptr 100000 0 0, i64 n, .bnd 268 (.ptr 100000 0 0)]) ([(100000, .var (rdC (l, 0)))]) (.sl 1 ((itV (l, 0) n).map (row1 .i32))) ([(100000, .var (rdC (itS (l, 0) n)))]) := by
  have q3 := itV_len (l, 0) n
  have oz0 := (show false = false by with_reducible rfl)
  have oz10 := @all32_l (l) (n) hb hl h1
  exact VM.run (fn := Try.f267) (W := [.r [] [], .r [] [.br true, .br true, .br true, .br true, .br true, .br false, .op false, .op false, .sel 1], .br false, .r [] [], .br false, .r [] [], .r [] [], .code [.any (rg [(1, 1), (6, 1), (8, 10), (20, 8)]), .weak 31 (i64 (↑0 : Int)), .nils 7 900 21 1, .blk 100000 (Blk.var [AV.sl 1 (List.map (row1 IntKind.u8) (itS (l, 0) 0).fst), i64 (itS (l, 0) 0).snd]), .sort] (Exit.exit 0) (zO oz10), .r [] [], .br false, .r [] []]) (G := [.frz 900, .sort]) Try.func267 (by kernel_rfl) (.c oz0 <| .c oz0 <| .c oz0 <| .c oz0 <| .c oz0 <| .c oz0 <| .c (show ((l, 0).snd != 0 || decide ((↑n : Int) < 1)) = false by (refine decide_eq_false ?_; omega)) <| .c (show decide ((↑n : Int) > (↑(List.map (row1 IntKind.u8) (l, 0).fst).length : Int)) = false by (simp; omega)) <| .c (Weak.int (k := .i64) (show ((0) : Int) = ((↑0 : Int)) from (by omega))) <| .c (show BlkW (Blk.var [AV.sl 1 (List.map (row1 IntKind.u8) (l, 0).fst), i64 (l, 0).snd]) (Blk.var [AV.sl 1 (List.map (row1 IntKind.u8) (itS (l, 0) 0).fst), i64 (itS (l, 0) 0).snd]) from (BlkW.var (.cons (Weak.rows (rows_to (row1 IntKind.u8) (r := List.map (row1 IntKind.u8) (l, 0).fst) (l := (l, 0).fst) (m := (itS (l, 0) 0).fst) rfl (show ((l, 0).fst) = ((itS (l, 0) 0).fst) from (by rfl)))) (.cons (Weak.int (show (((l, 0).snd) : Int) = ((itS (l, 0) 0).snd) from (by rfl))) .nil)))) <| .c oz10 <| .c (show ((itS (l, 0) n).snd != 0) = false by (simp; omega)) <| .n)
theorem all32_f (l : List Int) (n : Nat) (hb : ∀ x ∈ l, 0 ≤ x ∧ x ≤ 255) (hl : l.length ≤ 1000000) (h0 : 1 ≤ n) (h1 : n ≤ l.length) (h : (itS (l, 0) n).2 ≠ 0) : VM Try.prog 267 ([.ptr 100000 0 0, i64 n, .bnd 268 (.ptr 100000 0 0)]) ([(100000, .var (rdC (l, 0)))]) (.sl 1 (([] : List Int).map (row1 .i8))) ([(100000, .var (rdC (itS (l, 0) n)))]) := by
  have q3 := itV_len (l, 0) n
  have oz0 := (show false = false by with_reducible rfl)
  have oz10 := @all32_l (l) (n) hb hl h1
  exact VM.run (fn := Try.f267) (W := [.r [] [], .r [] [.br true, .br true, .br true, .br true, .br true, .br false, .op false, .op false, .sel 1], .br false, .r [] [], .br false, .r [] [], .r [] [], .code [.any (rg [(1, 1), (6, 1), (8, 10), (20, 8)]), .weak 31 (i64 (↑0 : Int)), .nils 7 900 21 1, .blk 100000 (Blk.var [AV.sl 1 (List.map (row1 IntKind.u8) (itS (l, 0) 0).fst), i64 (itS (l, 0) 0).snd]), .sort] (Exit.exit 0) (zO oz10), .r [] [], .br true, .r [] []]) (G := [.drop [900], .weak 0 (AV.sl 1 []), .sort]) Try.func267 (by kernel_rfl) (.c oz0 <| .c oz0 <| .c oz0 <| .c oz0 <| .c oz0 <| .c oz0 <| .c (show ((l, 0).snd != 0 || decide ((↑n : Int) < 1)) = false by (refine decide_eq_false ?_; omega)) <| .c (show decide ((↑n : Int) > (↑(List.map (row1 IntKind.u8) (l, 0).fst).length : Int)) = false by (simp; omega)) <| .c (Weak.int (k := .i64) (show ((0) : Int) = ((↑0 : Int)) from (by omega))) <| .c (show BlkW (Blk.var [AV.sl 1 (List.map (row1 IntKind.u8) (l, 0).fst), i64 (l, 0).snd]) (Blk.var [AV.sl 1 (List.map (row1 IntKind.u8) (itS (l, 0) 0).fst), i64 (itS (l, 0) 0).snd]) from (BlkW.var (.cons (Weak.rows (rows_to (row1 IntKind.u8) (r := List.map (row1 IntKind.u8) (l, 0).fst) (l := (l, 0).fst) (m := (itS (l, 0) 0).fst) rfl (show ((l, 0).fst) = ((itS (l, 0) 0).fst) from (by rfl)))) (.cons (Weak.int (show (((l, 0).snd) : Int) = ((itS (l, 0) 0).snd) from (by rfl))) .nil)))) <| .c oz10 <| .c (show ((itS (l, 0) n).snd != 0) = true by (simp; omega)) <| .c (show Weak (AV.lit (Value.slice none 0 0)) (AV.sl 1 []) from (Weak.nil _)) <| .n)
theorem all32_e (s : Rst) (n : Int) (h : s.2 ≠ 0) : VM Try.prog 267 ([.ptr 100000 0 0, i64 n, .bnd 268 (.ptr 100000 0 0)]) ([(100000, .var (rdC s))]) (.sl 1 (([] : List Int).map (row1 .i8))) ([(100000, .var (rdC s))]) := by
  have oz0 := (show false = false by with_reducible rfl)
  exact VM.run (fn := Try.f267) (W := [.r [] [], .r [] [.br true, .br true, .br true, .br true, .br true, .br false, .op false, .op false, .sel 1], .br true, .r [] []]) (G := [.weak 0 (AV.sl 1 []), .sort]) Try.func267 (by kernel_rfl) (.c oz0 <| .c oz0 <| .c oz0 <| .c oz0 <| .c oz0 <| .c oz0 <| .c (show (s.snd != 0 || decide (n < 1)) = true by (simp; omega)) <| .c (show Weak (AV.lit (Value.slice none 0 0)) (AV.sl 1 []) from (Weak.nil _)) <| .n)
theorem all32_n (l : List Int) (n : Int) (h : n < 1) : VM Try.prog 267 ([.ptr 100000 0 0, i64 n, .bnd 268 (.ptr 100000 0 0)]) ([(100000, .var (rdC (l, 0)))]) (.sl 1 (([] : List Int).map (row1 .i8))) ([(100000, .var (rdC (l, 0)))]) := by
  have oz0 := (show false = false by with_reducible rfl)
  exact VM.run (fn := Try.f267) (W := [.r [] [], .r [] [.br true, .br true, .br true, .br true, .br true, .br false, .op false, .op false, .sel 1], .br true, .r [] []]) (G := [.weak 0 (AV.sl 1 []), .sort]) Try.func267 (by kernel_rfl) (.c oz0 <| .c oz0 <| .c oz0 <| .c oz0 <| .c oz0 <| .c oz0 <| .c (show ((l, 0).snd != 0 || decide (n < 1)) = true by (refine decide_eq_true ?_; omega)) <| .c (show Weak (AV.lit (Value.slice none 0 0)) (AV.sl 1 []) from (Weak.nil _)) <| .n)
theorem all32_m (l : List Int) (n : Int) (h : 1 ≤ n) (h1 : (l.length : Int) < n) : VM Try.prog 267 ([.ptr 100000 0 0, i64 n, .bnd 268 (.ptr 100000 0 0)]) ([(100000, .var (rdC (l, 0)))]) (.sl 1 (([] : List Int).map (row1 .i8))) ([(100000, .var (rdC ([], 20)))]) := by
  have oz0 := (show false = false by with_reducible rfl)
  have oz8 := @rfail_v (l) (20)
  exact VM.run (fn := Try.f267) (W := [.r [] [], .r [] [.br true, .br true, .br true, .br true, .br true, .br false, .op false, .op false, .sel 1], .br false, .r [] [], .br true, .r [] [.callm [(100000, 100000)] [] (rM oz8) (oM oz8)], .r [] []]) (G := [.weak 0 (AV.sl 1 []), .sort]) Try.func267 (by kernel_rfl) (.c oz0 <| .c oz0 <| .c oz0 <| .c oz0 <| .c oz0 <| .c oz0 <| .c (show ((l, 0).snd != 0 || decide (n < 1)) = false by (refine decide_eq_false ?_; omega)) <| .c (show decide (n > (↑(List.map (row1 IntKind.u8) (l, 0).fst).length : Int)) = true by (simp; omega)) <| .c oz8 <| .c (show Weak (AV.lit (Value.slice none 0 0)) (AV.sl 1 []) from (Weak.nil _)) <| .n)
end Go.Proofs.Ytgecmooedhnenaa
/- A reader of bytes, of the program: its lists as one. No condition. -/
namespace Go.Proofs.Ytgecmooedhnenaa
open Go.RowKit
set_option linter.unusedSimpArgs false
set_option linter.unusedVariables false
set_option linter.unnecessarySimpa false
def smlS (s : Rst) (n : Int) : Rst :=
  if s.2 ≠ 0 then s else if n < 1 then s else if (s.1.length : Int) < n then ([], 20) else (dpW s.1 n.toNat, 0)
def smlV (s : Rst) (n : Int) : List Int :=
  if s.2 ≠ 0 then [] else if n < 1 then [] else if (s.1.length : Int) < n then [] else tkW s.1 n.toNat
theorem sml_in {s : Rst} (h : s.In) (n : Int) : (smlS s n).In := by
  unfold smlS
  split
  · exact h
  · split
    · exact h
    · split
      · exact ⟨by simp, by simp⟩
      · exact ⟨by dsimp only; rw [dpW_eq]; exact mem_drop' h.b, by dsimp only; rw [dpW_eq]; have := h.l; simp only [List.length_drop]; omega⟩
theorem smlV_len (s : Rst) (n : Int) : (smlV s n).length ≤ s.1.length := by
  unfold smlV
  split
  · simp
  · split
    · simp
    · split
      · simp
      · rw [tkW_len]; omega
theorem all8_v (s : Rst) (n : Int) (h : s.In) : VM Try.prog 265 [.ptr 100000 0 0, i64 n, .bnd 266 (.ptr 100000 0 0)] [(100000, .var (rdC s))] (.sl 1 ((smlV s n).map (row1 .i8))) [(100000, .var (rdC (smlS s n)))] := by
  obtain ⟨l, e⟩ := s
  by_cases he : e = 0
  · subst he
    by_cases h1 : n < 1
    · rw [show smlS (l, 0) n = (l, 0) from by simp [smlS, h1], show smlV (l, 0) n = [] from by simp [smlV, h1]]
      exact all8_n l n h1
    · by_cases h2 : (l.length : Int) < n
      · rw [show smlS (l, 0) n = ([], 20) from by simp [smlS, h1, h2], show smlV (l, 0) n = [] from by simp [smlV, h1, h2]]
        exact all8_m l n (by omega) h2
      · obtain ⟨m, rfl⟩ := Int.eq_ofNat_of_zero_le (show 0 ≤ n by omega)
        rw [show smlS (l, 0) (m : Int) = (dpW l m, 0) from by simp [smlS, h1, h2], show smlV (l, 0) (m : Int) = tkW l m from by simp [smlV, h1, h2]]
        exact all8_y l m h.b h.l (by omega) (by omega)
  · rw [show smlS (l, e) n = (l, e) from by simp [smlS, he], show smlV (l, e) n = [] from by simp [smlV, he]]
    exact all8_e (l, e) n he
def widS (s : Rst) (n : Int) : Rst :=
  if s.2 ≠ 0 then s else if n < 1 then s else if (s.1.length : Int) < n then ([], 20) else itS s n.toNat
def widV (s : Rst) (n : Int) : List Int :=
  if s.2 ≠ 0 then [] else if n < 1 then [] else if (s.1.length : Int) < n then [] else if (itS s n.toNat).2 ≠ 0 then [] else itV s n.toNat
theorem wid_in {s : Rst} (h : s.In) (n : Int) : (widS s n).In := by
  unfold widS
  split
  · exact h
  · split
    · exact h
    · split
      · exact ⟨by simp, by simp⟩
      · exact itS_in h _
theorem widV_len (s : Rst) (n : Int) : (widV s n).length ≤ s.1.length := by
  unfold widV
  split
  · simp
  · split
    · simp
    · split
      · simp
      · split
        · simp
        · rw [itV_len]; omega
theorem all32_v (s : Rst) (n : Int) (h : s.In) : VM Try.prog 267 [.ptr 100000 0 0, i64 n, .bnd 268 (.ptr 100000 0 0)] [(100000, .var (rdC s))] (.sl 1 ((widV s n).map (row1 .i32))) [(100000, .var (rdC (widS s n)))] := by
  obtain ⟨l, e⟩ := s
  by_cases he : e = 0
  · subst he
    by_cases h1 : n < 1
    · rw [show widS (l, 0) n = (l, 0) from by simp [widS, h1], show widV (l, 0) n = [] from by simp [widV, h1]]
      exact all32_n l n h1
    · by_cases h2 : (l.length : Int) < n
      · rw [show widS (l, 0) n = ([], 20) from by simp [widS, h1, h2], show widV (l, 0) n = [] from by simp [widV, h1, h2]]
        exact all32_m l n (by omega) h2
      · obtain ⟨m, rfl⟩ := Int.eq_ofNat_of_zero_le (show 0 ≤ n by omega)
        by_cases h3 : (itS (l, 0) m).2 = 0
        · rw [show widS (l, 0) (m : Int) = itS (l, 0) m from by simp [widS, h1, h2], show widV (l, 0) (m : Int) = itV (l, 0) m from by simp [widV, h1, h2, h3]]
          exact all32_y l m h.b h.l (by omega) (by omega) h3
        · rw [show widS (l, 0) (m : Int) = itS (l, 0) m from by simp [widS, h1, h2], show widV (l, 0) (m : Int) = [] from by simp [widV, h1, h2, h3]]
          exact all32_f l m h.b h.l (by omega) (by omega) h3
  · rw [show widS (l, e) n = (l, e) from by simp [widS, he], show widV (l, e) n = [] from by simp [widV, he]]
    exact all32_e (l, e) n he
theorem smallR_v (s : Rst) (n : Int) (h : s.In) : VM Try.prog 263 ([.ptr 100000 0 0, i64 n]) ([(100000, .var (rdC s))]) (.sl 1 ((smlV s n).map (row1 .i8))) ([(100000, .var (rdC (smlS s n)))]) := by
  have oz0 := @all8_v (s) (n) h
  exact VM.run (fn := Try.f263) (W := [.r [] [], .r [] [.callm [(100000, 100000)] [] (rM oz0) (oM oz0)]]) (G := [.sort]) Try.func263 (by kernel_rfl) (.c oz0 <| .n)
theorem wideR_v (s : Rst) (n : Int) (h : s.In) : VM Try.prog 264 ([.ptr 100000 0 0, i64 n]) ([(100000, .var (rdC s))]) (.sl 1 ((widV s n).map (row1 .i32))) ([(100000, .var (rdC (widS s n)))]) := by
  have oz0 := @all32_v (s) (n) h
  exact VM.run (fn := Try.f264) (W := [.r [] [], .r [] [.callm [(100000, 100000)] [] (rM oz0) (oM oz0)]]) (G := [.sort]) Try.func264 (by kernel_rfl) (.c oz0 <| .n)
end Go.Proofs.Ytgecmooedhnenaa
/- Layers of bytes and takers: one number. No condition. -/
namespace Go.Proofs.Ytgecmooedhnenaa
open Go.RowKit
set_option linter.unusedSimpArgs false
set_option linter.unusedVariables false
set_option linter.unnecessarySimpa false
def putN (x : Int) : List Int := putL (IntKind.u64.wrap x).toNat
theorem wrap_rng (x : Int) : 0 ≤ IntKind.u64.wrap x ∧ IntKind.u64.wrap x ≤ 18446744073709551615 := by
  rw [IntKind.wrap_u64]; omega
theorem putN_len (x : Int) : (putN x).length ≤ 10 := by
  have := wrap_rng x
  exact putL_len10 _ (by omega)
def PutsV (L : Int → List Int) : Prop := ∀ x : Int, VC Try.prog 176 [.lit (.int .u64 (IntKind.u64.wrap x))] (.sl 1 ((L x).map (row1 .u8)))
structure Puts (L : Int → List Int) : Prop where
  v : PutsV L
  l : ∀ x, (L x).length ≤ 10
def RPutsV (L : Int → List Int) : Prop := ∀ x : Int, VC Try.prog 177 [.lit (.int .u64 (IntKind.u64.wrap x))] (.sl 1 ((L x).map (row1 .u8)))
structure RPuts (L : Int → List Int) : Prop where
  v : RPutsV L
  l : ∀ x, (L x).length ≤ 10
theorem puts_v (L : Int → List Int) (hL : Puts L) (x : Int) : VC Try.prog 176 [.lit (.int .u64 (IntKind.u64.wrap x))] (.sl 1 ((L x).map (row1 .u8))) := hL.v x
theorem rputs_v (L : Int → List Int) (hL : RPuts L) (x : Int) : VC Try.prog 177 [.lit (.int .u64 (IntKind.u64.wrap x))] (.sl 1 ((L x).map (row1 .u8))) := hL.v x
theorem puts : Puts putN := ⟨fun x => put_v _ (wrap_rng x).1 (wrap_rng x).2, putN_len⟩
theorem rputs : RPuts putN := ⟨fun x => refPut_v _ (wrap_rng x).1 (wrap_rng x).2, putN_len⟩
theorem lnum_1 (B : List Int) (L : Int → List Int) (x most : Int) (hB : B.length ≤ 1000000) (hL : Puts L) : VM Try.prog 114 ([.ptr 100000 0 0, .ptr 100001 0 0, i64 most]) ([(950, .slc 5 1 (B.map (row1 .u8))), (100000, .var [.own 950]), (100001, .var [i64 x])]) (.tup []) ([(951, .slc 5 1 ((B ++ L x).map (row1 .u8))), (100000, .var [.own 951]), (100001, .var [i64 x])]) := by
  have q := hL.l x
  have oz0 := @puts_v (L) hL (x)
  exact VM.run (fn := Try.f114) (W := [.r [] [.w, .callr (rO oz0)]]) (G := [.ren 16 951, .blk 951 (Blk.slc 5 1 (List.map (row1 IntKind.u8) (B ++ L x))), .sort]) Try.func114 (by kernel_rfl) (.c oz0 <| .c (show ((List.map (row1 IntKind.u8) B).length + (List.map (row1 IntKind.u8) (L x)).length) * 1 ≤ 140737488355328 by (simp only [List.length_map]; omega)) <| .c (show (List.map (row1 IntKind.u8) B).length + (List.map (row1 IntKind.u8) (L x)).length ≤ 9223372036854775807 by (simp only [List.length_map]; omega)) <| .c (show BlkW (Blk.slc 5 1 (List.map (row1 IntKind.u8) B ++ List.map (row1 IntKind.u8) (L x))) (Blk.slc 5 1 (List.map (row1 IntKind.u8) (B ++ L x))) from (BlkW.rows (e := 5) (z := 1) (rows_to (row1 IntKind.u8) (r := List.map (row1 IntKind.u8) B ++ List.map (row1 IntKind.u8) (L x)) (l := B ++ L x) (m := B ++ L x) (by first | (simp only [List.map_append, List.map_cons, List.map_nil, List.map_set, List.map_replicate, List.map_take, List.map_drop]; done) | rfl | (simp only [List.map_append, List.map_cons, List.map_nil, List.map_set, List.map_replicate, List.map_take, List.map_drop]; rfl)) rfl))) <| .n)
theorem tnum_1 (s : Rst) (x most : Int) (h : s.In) (h0 : 0 ≤ most) (h1 : most ≤ 2147483647) : VM Try.prog 119 ([.agg [.ptr 100000 0 0], .ptr 100001 0 0, i64 most]) ([(100000, .var (rdC s)), (100001, .var [i64 x])]) (.tup []) ([(100000, .var (rdC (cntS s most))), (100001, .var [i64 (cntV s most)])]) := by
  have oz0 := @cnt_v (s) (most) h h0 h1
  exact VM.run (fn := Try.f119) (W := [.r [] [], .r [] [.callm [(100000, 100000)] [] (rM oz0) (oM oz0)]]) (G := [.drop [3], .sort]) Try.func119 (by kernel_rfl) (.c oz0 <| .n)
end Go.Proofs.Ytgecmooedhnenaa
/- Layers of bytes and takers: the numbers of a node. No condition. -/
namespace Go.Proofs.Ytgecmooedhnenaa
open Go.RowKit
set_option linter.unusedSimpArgs false
set_option linter.unusedVariables false
set_option linter.unnecessarySimpa false
theorem tnum_kd (s : Rst) (n : Nod) (most : Int) (h : s.In) (h0 : 0 ≤ most) (h1 : most ≤ 2147483647) : VM Try.prog 119 ([.agg [.ptr 100000 0 0], .ptr 100001 0 0, i64 most]) ([(100000, .var (rdC s)), (100001, .var (nodC n))]) (.tup []) ([(100000, .var (rdC (cntS s most))), (100001, .var (nodC { n with kd := cntV s most }))]) := by
  have oz0 := @cnt_v (s) (most) h h0 h1
  exact VM.run (fn := Try.f119) (W := [.r [] [], .r [] [.callm [(100000, 100000)] [] (rM oz0) (oM oz0)]]) (G := [.drop [3], .sort]) Try.func119 (by kernel_rfl) (.c oz0 <| .n)
theorem tnum_na (s : Rst) (n : Nod) (most : Int) (h : s.In) (h0 : 0 ≤ most) (h1 : most ≤ 2147483647) : VM Try.prog 119 ([.agg [.ptr 100000 0 0], .ptr 100001 0 1, i64 most]) ([(100000, .var (rdC s)), (100001, .var (nodC n))]) (.tup []) ([(100000, .var (rdC (cntS s most))), (100001, .var (nodC { n with na := cntV s most }))]) := by
  have oz0 := @cnt_v (s) (most) h h0 h1
  exact VM.run (fn := Try.f119) (W := [.r [] [], .r [] [.callm [(100000, 100000)] [] (rM oz0) (oM oz0)]]) (G := [.drop [3], .sort]) Try.func119 (by kernel_rfl) (.c oz0 <| .n)
theorem lnum_na (B : List Int) (L : Int → List Int) (n : Nod) (most : Int) (hB : B.length ≤ 1000000) (hL : Puts L) : VM Try.prog 114 ([.ptr 100000 0 0, .ptr 100001 0 1, i64 most]) ([(950, .slc 5 1 (B.map (row1 .u8))), (100000, .var [.own 950]), (100001, .var (nodC n))]) (.tup []) ([(951, .slc 5 1 ((B ++ L n.na).map (row1 .u8))), (100000, .var [.own 951]), (100001, .var (nodC n))]) := by
  have q := hL.l n.na
  have oz0 := @puts_v (L) hL (n.na)
  exact VM.run (fn := Try.f114) (W := [.r [] [.w, .callr (rO oz0)]]) (G := [.ren 16 951, .blk 951 (Blk.slc 5 1 (List.map (row1 IntKind.u8) (B ++ L n.na))), .sort]) Try.func114 (by kernel_rfl) (.c oz0 <| .c (show ((List.map (row1 IntKind.u8) B).length + (List.map (row1 IntKind.u8) (L n.na)).length) * 1 ≤ 140737488355328 by (simp only [List.length_map]; omega)) <| .c (show (List.map (row1 IntKind.u8) B).length + (List.map (row1 IntKind.u8) (L n.na)).length ≤ 9223372036854775807 by (simp only [List.length_map]; omega)) <| .c (show BlkW (Blk.slc 5 1 (List.map (row1 IntKind.u8) B ++ List.map (row1 IntKind.u8) (L n.na))) (Blk.slc 5 1 (List.map (row1 IntKind.u8) (B ++ L n.na))) from (BlkW.rows (e := 5) (z := 1) (rows_to (row1 IntKind.u8) (r := List.map (row1 IntKind.u8) B ++ List.map (row1 IntKind.u8) (L n.na)) (l := B ++ L n.na) (m := B ++ L n.na) (by first | (simp only [List.map_append, List.map_cons, List.map_nil, List.map_set, List.map_replicate, List.map_take, List.map_drop]; done) | rfl | (simp only [List.map_append, List.map_cons, List.map_nil, List.map_set, List.map_replicate, List.map_take, List.map_drop]; rfl)) rfl))) <| .n)
theorem tnum_nb (s : Rst) (n : Nod) (most : Int) (h : s.In) (h0 : 0 ≤ most) (h1 : most ≤ 2147483647) : VM Try.prog 119 ([.agg [.ptr 100000 0 0], .ptr 100001 0 2, i64 most]) ([(100000, .var (rdC s)), (100001, .var (nodC n))]) (.tup []) ([(100000, .var (rdC (cntS s most))), (100001, .var (nodC { n with nb := cntV s most }))]) := by
  have oz0 := @cnt_v (s) (most) h h0 h1
  exact VM.run (fn := Try.f119) (W := [.r [] [], .r [] [.callm [(100000, 100000)] [] (rM oz0) (oM oz0)]]) (G := [.drop [3], .sort]) Try.func119 (by kernel_rfl) (.c oz0 <| .n)
theorem lnum_nb (B : List Int) (L : Int → List Int) (n : Nod) (most : Int) (hB : B.length ≤ 1000000) (hL : Puts L) : VM Try.prog 114 ([.ptr 100000 0 0, .ptr 100001 0 2, i64 most]) ([(950, .slc 5 1 (B.map (row1 .u8))), (100000, .var [.own 950]), (100001, .var (nodC n))]) (.tup []) ([(951, .slc 5 1 ((B ++ L n.nb).map (row1 .u8))), (100000, .var [.own 951]), (100001, .var (nodC n))]) := by
  have q := hL.l n.nb
  have oz0 := @puts_v (L) hL (n.nb)
  exact VM.run (fn := Try.f114) (W := [.r [] [.w, .callr (rO oz0)]]) (G := [.ren 16 951, .blk 951 (Blk.slc 5 1 (List.map (row1 IntKind.u8) (B ++ L n.nb))), .sort]) Try.func114 (by kernel_rfl) (.c oz0 <| .c (show ((List.map (row1 IntKind.u8) B).length + (List.map (row1 IntKind.u8) (L n.nb)).length) * 1 ≤ 140737488355328 by (simp only [List.length_map]; omega)) <| .c (show (List.map (row1 IntKind.u8) B).length + (List.map (row1 IntKind.u8) (L n.nb)).length ≤ 9223372036854775807 by (simp only [List.length_map]; omega)) <| .c (show BlkW (Blk.slc 5 1 (List.map (row1 IntKind.u8) B ++ List.map (row1 IntKind.u8) (L n.nb))) (Blk.slc 5 1 (List.map (row1 IntKind.u8) (B ++ L n.nb))) from (BlkW.rows (e := 5) (z := 1) (rows_to (row1 IntKind.u8) (r := List.map (row1 IntKind.u8) B ++ List.map (row1 IntKind.u8) (L n.nb)) (l := B ++ L n.nb) (m := B ++ L n.nb) (by first | (simp only [List.map_append, List.map_cons, List.map_nil, List.map_set, List.map_replicate, List.map_take, List.map_drop]; done) | rfl | (simp only [List.map_append, List.map_cons, List.map_nil, List.map_set, List.map_replicate, List.map_take, List.map_drop]; rfl)) rfl))) <| .n)
theorem tnum_nk (s : Rst) (n : Nod) (most : Int) (h : s.In) (h0 : 0 ≤ most) (h1 : most ≤ 2147483647) : VM Try.prog 119 ([.agg [.ptr 100000 0 0], .ptr 100001 0 3, i64 most]) ([(100000, .var (rdC s)), (100001, .var (nodC n))]) (.tup []) ([(100000, .var (rdC (cntS s most))), (100001, .var (nodC { n with nk := cntV s most }))]) := by
  have oz0 := @cnt_v (s) (most) h h0 h1
  exact VM.run (fn := Try.f119) (W := [.r [] [], .r [] [.callm [(100000, 100000)] [] (rM oz0) (oM oz0)]]) (G := [.drop [3], .sort]) Try.func119 (by kernel_rfl) (.c oz0 <| .n)
theorem lnum_nk (B : List Int) (L : Int → List Int) (n : Nod) (most : Int) (hB : B.length ≤ 1000000) (hL : Puts L) : VM Try.prog 114 ([.ptr 100000 0 0, .ptr 100001 0 3, i64 most]) ([(950, .slc 5 1 (B.map (row1 .u8))), (100000, .var [.own 950]), (100001, .var (nodC n))]) (.tup []) ([(951, .slc 5 1 ((B ++ L n.nk).map (row1 .u8))), (100000, .var [.own 951]), (100001, .var (nodC n))]) := by
  have q := hL.l n.nk
  have oz0 := @puts_v (L) hL (n.nk)
  exact VM.run (fn := Try.f114) (W := [.r [] [.w, .callr (rO oz0)]]) (G := [.ren 16 951, .blk 951 (Blk.slc 5 1 (List.map (row1 IntKind.u8) (B ++ L n.nk))), .sort]) Try.func114 (by kernel_rfl) (.c oz0 <| .c (show ((List.map (row1 IntKind.u8) B).length + (List.map (row1 IntKind.u8) (L n.nk)).length) * 1 ≤ 140737488355328 by (simp only [List.length_map]; omega)) <| .c (show (List.map (row1 IntKind.u8) B).length + (List.map (row1 IntKind.u8) (L n.nk)).length ≤ 9223372036854775807 by (simp only [List.length_map]; omega)) <| .c (show BlkW (Blk.slc 5 1 (List.map (row1 IntKind.u8) B ++ List.map (row1 IntKind.u8) (L n.nk))) (Blk.slc 5 1 (List.map (row1 IntKind.u8) (B ++ L n.nk))) from (BlkW.rows (e := 5) (z := 1) (rows_to (row1 IntKind.u8) (r := List.map (row1 IntKind.u8) B ++ List.map (row1 IntKind.u8) (L n.nk)) (l := B ++ L n.nk) (m := B ++ L n.nk) (by first | (simp only [List.map_append, List.map_cons, List.map_nil, List.map_set, List.map_replicate, List.map_take, List.map_drop]; done) | rfl | (simp only [List.map_append, List.map_cons, List.map_nil, List.map_set, List.map_replicate, List.map_take, List.map_drop]; rfl)) rfl))) <| .n)
theorem tnum_ns (s : Rst) (n : Nod) (most : Int) (h : s.In) (h0 : 0 ≤ most) (h1 : most ≤ 2147483647) : VM Try.prog 119 ([.agg [.ptr 100000 0 0], .ptr 100001 0 4, i64 most]) ([(100000, .var (rdC s)), (100001, .var (nodC n))]) (.tup []) ([(100000, .var (rdC (cntS s most))), (100001, .var (nodC { n with ns := cntV s most }))]) := by
  have oz0 := @cnt_v (s) (most) h h0 h1
  exact VM.run (fn := Try.f119) (W := [.r [] [], .r [] [.callm [(100000, 100000)] [] (rM oz0) (oM oz0)]]) (G := [.drop [3], .sort]) Try.func119 (by kernel_rfl) (.c oz0 <| .n)
theorem lnum_ns (B : List Int) (L : Int → List Int) (n : Nod) (most : Int) (hB : B.length ≤ 1000000) (hL : Puts L) : VM Try.prog 114 ([.ptr 100000 0 0, .ptr 100001 0 4, i64 most]) ([(950, .slc 5 1 (B.map (row1 .u8))), (100000, .var [.own 950]), (100001, .var (nodC n))]) (.tup []) ([(951, .slc 5 1 ((B ++ L n.ns).map (row1 .u8))), (100000, .var [.own 951]), (100001, .var (nodC n))]) := by
  have q := hL.l n.ns
  have oz0 := @puts_v (L) hL (n.ns)
  exact VM.run (fn := Try.f114) (W := [.r [] [.w, .callr (rO oz0)]]) (G := [.ren 16 951, .blk 951 (Blk.slc 5 1 (List.map (row1 IntKind.u8) (B ++ L n.ns))), .sort]) Try.func114 (by kernel_rfl) (.c oz0 <| .c (show ((List.map (row1 IntKind.u8) B).length + (List.map (row1 IntKind.u8) (L n.ns)).length) * 1 ≤ 140737488355328 by (simp only [List.length_map]; omega)) <| .c (show (List.map (row1 IntKind.u8) B).length + (List.map (row1 IntKind.u8) (L n.ns)).length ≤ 9223372036854775807 by (simp only [List.length_map]; omega)) <| .c (show BlkW (Blk.slc 5 1 (List.map (row1 IntKind.u8) B ++ List.map (row1 IntKind.u8) (L n.ns))) (Blk.slc 5 1 (List.map (row1 IntKind.u8) (B ++ L n.ns))) from (BlkW.rows (e := 5) (z := 1) (rows_to (row1 IntKind.u8) (r := List.map (row1 IntKind.u8) B ++ List.map (row1 IntKind.u8) (L n.ns)) (l := B ++ L n.ns) (m := B ++ L n.ns) (by first | (simp only [List.map_append, List.map_cons, List.map_nil, List.map_set, List.map_replicate, List.map_take, List.map_drop]; done) | rfl | (simp only [List.map_append, List.map_cons, List.map_nil, List.map_set, List.map_replicate, List.map_take, List.map_drop]; rfl)) rfl))) <| .n)
theorem tnum_np (s : Rst) (n : Nod) (most : Int) (h : s.In) (h0 : 0 ≤ most) (h1 : most ≤ 2147483647) : VM Try.prog 119 ([.agg [.ptr 100000 0 0], .ptr 100001 0 5, i64 most]) ([(100000, .var (rdC s)), (100001, .var (nodC n))]) (.tup []) ([(100000, .var (rdC (cntS s most))), (100001, .var (nodC { n with np := cntV s most }))]) := by
  have oz0 := @cnt_v (s) (most) h h0 h1
  exact VM.run (fn := Try.f119) (W := [.r [] [], .r [] [.callm [(100000, 100000)] [] (rM oz0) (oM oz0)]]) (G := [.drop [3], .sort]) Try.func119 (by kernel_rfl) (.c oz0 <| .n)
theorem lnum_np (B : List Int) (L : Int → List Int) (n : Nod) (most : Int) (hB : B.length ≤ 1000000) (hL : Puts L) : VM Try.prog 114 ([.ptr 100000 0 0, .ptr 100001 0 5, i64 most]) ([(950, .slc 5 1 (B.map (row1 .u8))), (100000, .var [.own 950]), (100001, .var (nodC n))]) (.tup []) ([(951, .slc 5 1 ((B ++ L n.np).map (row1 .u8))), (100000, .var [.own 951]), (100001, .var (nodC n))]) := by
  have q := hL.l n.np
  have oz0 := @puts_v (L) hL (n.np)
  exact VM.run (fn := Try.f114) (W := [.r [] [.w, .callr (rO oz0)]]) (G := [.ren 16 951, .blk 951 (Blk.slc 5 1 (List.map (row1 IntKind.u8) (B ++ L n.np))), .sort]) Try.func114 (by kernel_rfl) (.c oz0 <| .c (show ((List.map (row1 IntKind.u8) B).length + (List.map (row1 IntKind.u8) (L n.np)).length) * 1 ≤ 140737488355328 by (simp only [List.length_map]; omega)) <| .c (show (List.map (row1 IntKind.u8) B).length + (List.map (row1 IntKind.u8) (L n.np)).length ≤ 9223372036854775807 by (simp only [List.length_map]; omega)) <| .c (show BlkW (Blk.slc 5 1 (List.map (row1 IntKind.u8) B ++ List.map (row1 IntKind.u8) (L n.np))) (Blk.slc 5 1 (List.map (row1 IntKind.u8) (B ++ L n.np))) from (BlkW.rows (e := 5) (z := 1) (rows_to (row1 IntKind.u8) (r := List.map (row1 IntKind.u8) B ++ List.map (row1 IntKind.u8) (L n.np)) (l := B ++ L n.np) (m := B ++ L n.np) (by first | (simp only [List.map_append, List.map_cons, List.map_nil, List.map_set, List.map_replicate, List.map_take, List.map_drop]; done) | rfl | (simp only [List.map_append, List.map_cons, List.map_nil, List.map_set, List.map_replicate, List.map_take, List.map_drop]; rfl)) rfl))) <| .n)
theorem tnum_no (s : Rst) (n : Nod) (most : Int) (h : s.In) (h0 : 0 ≤ most) (h1 : most ≤ 2147483647) : VM Try.prog 119 ([.agg [.ptr 100000 0 0], .ptr 100001 0 6, i64 most]) ([(100000, .var (rdC s)), (100001, .var (nodC n))]) (.tup []) ([(100000, .var (rdC (cntS s most))), (100001, .var (nodC { n with no := cntV s most }))]) := by
  have oz0 := @cnt_v (s) (most) h h0 h1
  exact VM.run (fn := Try.f119) (W := [.r [] [], .r [] [.callm [(100000, 100000)] [] (rM oz0) (oM oz0)]]) (G := [.drop [3], .sort]) Try.func119 (by kernel_rfl) (.c oz0 <| .n)
theorem lnum_no (B : List Int) (L : Int → List Int) (n : Nod) (most : Int) (hB : B.length ≤ 1000000) (hL : Puts L) : VM Try.prog 114 ([.ptr 100000 0 0, .ptr 100001 0 6, i64 most]) ([(950, .slc 5 1 (B.map (row1 .u8))), (100000, .var [.own 950]), (100001, .var (nodC n))]) (.tup []) ([(951, .slc 5 1 ((B ++ L n.no).map (row1 .u8))), (100000, .var [.own 951]), (100001, .var (nodC n))]) := by
  have q := hL.l n.no
  have oz0 := @puts_v (L) hL (n.no)
  exact VM.run (fn := Try.f114) (W := [.r [] [.w, .callr (rO oz0)]]) (G := [.ren 16 951, .blk 951 (Blk.slc 5 1 (List.map (row1 IntKind.u8) (B ++ L n.no))), .sort]) Try.func114 (by kernel_rfl) (.c oz0 <| .c (show ((List.map (row1 IntKind.u8) B).length + (List.map (row1 IntKind.u8) (L n.no)).length) * 1 ≤ 140737488355328 by (simp only [List.length_map]; omega)) <| .c (show (List.map (row1 IntKind.u8) B).length + (List.map (row1 IntKind.u8) (L n.no)).length ≤ 9223372036854775807 by (simp only [List.length_map]; omega)) <| .c (show BlkW (Blk.slc 5 1 (List.map (row1 IntKind.u8) B ++ List.map (row1 IntKind.u8) (L n.no))) (Blk.slc 5 1 (List.map (row1 IntKind.u8) (B ++ L n.no))) from (BlkW.rows (e := 5) (z := 1) (rows_to (row1 IntKind.u8) (r := List.map (row1 IntKind.u8) B ++ List.map (row1 IntKind.u8) (L n.no)) (l := B ++ L n.no) (m := B ++ L n.no) (by first | (simp only [List.map_append, List.map_cons, List.map_nil, List.map_set, List.map_replicate, List.map_take, List.map_drop]; done) | rfl | (simp only [List.map_append, List.map_cons, List.map_nil, List.map_set, List.map_replicate, List.map_take, List.map_drop]; rfl)) rfl))) <| .n)
theorem tnum_qs (s : Rst) (n : Nod) (most : Int) (h : s.In) (h0 : 0 ≤ most) (h1 : most ≤ 2147483647) : VM Try.prog 119 ([.agg [.ptr 100000 0 0], .ptr 100001 0 12, i64 most]) ([(100000, .var (rdC s)), (100001, .var (nodC n))]) (.tup []) ([(100000, .var (rdC (cntS s most))), (100001, .var (nodC { n with qs := cntV s most }))]) := by
  have oz0 := @cnt_v (s) (most) h h0 h1
  exact VM.run (fn := Try.f119) (W := [.r [] [], .r [] [.callm [(100000, 100000)] [] (rM oz0) (oM oz0)]]) (G := [.drop [3], .sort]) Try.func119 (by kernel_rfl) (.c oz0 <| .n)
theorem lnum_qs (B : List Int) (L : Int → List Int) (n : Nod) (most : Int) (hB : B.length ≤ 1000000) (hL : Puts L) : VM Try.prog 114 ([.ptr 100000 0 0, .ptr 100001 0 12, i64 most]) ([(950, .slc 5 1 (B.map (row1 .u8))), (100000, .var [.own 950]), (100001, .var (nodC n))]) (.tup []) ([(951, .slc 5 1 ((B ++ L n.qs).map (row1 .u8))), (100000, .var [.own 951]), (100001, .var (nodC n))]) := by
  have q := hL.l n.qs
  have oz0 := @puts_v (L) hL (n.qs)
  exact VM.run (fn := Try.f114) (W := [.r [] [.w, .callr (rO oz0)]]) (G := [.ren 16 951, .blk 951 (Blk.slc 5 1 (List.map (row1 IntKind.u8) (B ++ L n.qs))), .sort]) Try.func114 (by kernel_rfl) (.c oz0 <| .c (show ((List.map (row1 IntKind.u8) B).length + (List.map (row1 IntKind.u8) (L n.qs)).length) * 1 ≤ 140737488355328 by (simp only [List.length_map]; omega)) <| .c (show (List.map (row1 IntKind.u8) B).length + (List.map (row1 IntKind.u8) (L n.qs)).length ≤ 9223372036854775807 by (simp only [List.length_map]; omega)) <| .c (show BlkW (Blk.slc 5 1 (List.map (row1 IntKind.u8) B ++ List.map (row1 IntKind.u8) (L n.qs))) (Blk.slc 5 1 (List.map (row1 IntKind.u8) (B ++ L n.qs))) from (BlkW.rows (e := 5) (z := 1) (rows_to (row1 IntKind.u8) (r := List.map (row1 IntKind.u8) B ++ List.map (row1 IntKind.u8) (L n.qs)) (l := B ++ L n.qs) (m := B ++ L n.qs) (by first | (simp only [List.map_append, List.map_cons, List.map_nil, List.map_set, List.map_replicate, List.map_take, List.map_drop]; done) | rfl | (simp only [List.map_append, List.map_cons, List.map_nil, List.map_set, List.map_replicate, List.map_take, List.map_drop]; rfl)) rfl))) <| .n)
theorem tnum_rs (s : Rst) (n : Nod) (most : Int) (h : s.In) (h0 : 0 ≤ most) (h1 : most ≤ 2147483647) : VM Try.prog 119 ([.agg [.ptr 100000 0 0], .ptr 100001 0 15, i64 most]) ([(100000, .var (rdC s)), (100001, .var (nodC n))]) (.tup []) ([(100000, .var (rdC (cntS s most))), (100001, .var (nodC { n with rs := cntV s most }))]) := by
  have oz0 := @cnt_v (s) (most) h h0 h1
  exact VM.run (fn := Try.f119) (W := [.r [] [], .r [] [.callm [(100000, 100000)] [] (rM oz0) (oM oz0)]]) (G := [.drop [3], .sort]) Try.func119 (by kernel_rfl) (.c oz0 <| .n)
theorem lnum_rs (B : List Int) (L : Int → List Int) (n : Nod) (most : Int) (hB : B.length ≤ 1000000) (hL : Puts L) : VM Try.prog 114 ([.ptr 100000 0 0, .ptr 100001 0 15, i64 most]) ([(950, .slc 5 1 (B.map (row1 .u8))), (100000, .var [.own 950]), (100001, .var (nodC n))]) (.tup []) ([(951, .slc 5 1 ((B ++ L n.rs).map (row1 .u8))), (100000, .var [.own 951]), (100001, .var (nodC n))]) := by
  have q := hL.l n.rs
  have oz0 := @puts_v (L) hL (n.rs)
  exact VM.run (fn := Try.f114) (W := [.r [] [.w, .callr (rO oz0)]]) (G := [.ren 16 951, .blk 951 (Blk.slc 5 1 (List.map (row1 IntKind.u8) (B ++ L n.rs))), .sort]) Try.func114 (by kernel_rfl) (.c oz0 <| .c (show ((List.map (row1 IntKind.u8) B).length + (List.map (row1 IntKind.u8) (L n.rs)).length) * 1 ≤ 140737488355328 by (simp only [List.length_map]; omega)) <| .c (show (List.map (row1 IntKind.u8) B).length + (List.map (row1 IntKind.u8) (L n.rs)).length ≤ 9223372036854775807 by (simp only [List.length_map]; omega)) <| .c (show BlkW (Blk.slc 5 1 (List.map (row1 IntKind.u8) B ++ List.map (row1 IntKind.u8) (L n.rs))) (Blk.slc 5 1 (List.map (row1 IntKind.u8) (B ++ L n.rs))) from (BlkW.rows (e := 5) (z := 1) (rows_to (row1 IntKind.u8) (r := List.map (row1 IntKind.u8) B ++ List.map (row1 IntKind.u8) (L n.rs)) (l := B ++ L n.rs) (m := B ++ L n.rs) (by first | (simp only [List.map_append, List.map_cons, List.map_nil, List.map_set, List.map_replicate, List.map_take, List.map_drop]; done) | rfl | (simp only [List.map_append, List.map_cons, List.map_nil, List.map_set, List.map_replicate, List.map_take, List.map_drop]; rfl)) rfl))) <| .n)
theorem lnum_kd0 (L : Int → List Int) (n : Nod) (most : Int) (hL : Puts L) : VM Try.prog 114 ([.ptr 100000 0 0, .ptr 100001 0 0, i64 most]) ([(100000, .var [.lit (.slice none 0 0)]), (100001, .var (nodC n))]) (.tup []) ([(951, .slc 5 1 ((L n.kd).map (row1 .u8))), (100000, .var [.own 951]), (100001, .var (nodC n))]) := by
  have q := hL.l n.kd
  have oz0 := @puts_v (L) hL (n.kd)
  exact VM.run (fn := Try.f114) (W := [.r [] [.w, .callr (rO oz0)]]) (G := [.ren 16 951, .sort]) Try.func114 (by kernel_rfl) (.c oz0 <| .c (show (List.map (row1 IntKind.u8) (L n.kd)).length * 1 ≤ 140737488355328 by (simp only [List.length_map]; omega)) <| .c (show (List.map (row1 IntKind.u8) (L n.kd)).length ≤ 9223372036854775807 by (simp only [List.length_map]; omega)) <| .n)
end Go.Proofs.Ytgecmooedhnenaa
/- Layers of bytes and takers: the lists of a node. No condition. -/
namespace Go.Proofs.Ytgecmooedhnenaa
open Go.RowKit
set_option linter.unusedSimpArgs false
set_option linter.unusedVariables false
set_option linter.unnecessarySimpa false
theorem tsml_w (s : Rst) (n : Nod) (m : Int) (h : s.In) : VM Try.prog 261 ([.agg [.ptr 100000 0 0], .ptr 100001 0 9, i64 m]) ([(100000, .var (rdC s)), (100001, .var (nodC n))]) (.tup []) ([(100000, .var (rdC (smlS s m))), (100001, .var (nodC { n with w := smlV s m }))]) := by
  have oz0 := @smallR_v (s) (m) h
  exact VM.run (fn := Try.f261) (W := [.r [] [], .r [] [.callm [(100000, 100000)] [] (rM oz0) (oM oz0)]]) (G := [.drop [3], .sort]) Try.func261 (by kernel_rfl) (.c oz0 <| .n)
theorem twid_b (s : Rst) (n : Nod) (m : Int) (h : s.In) : VM Try.prog 262 ([.agg [.ptr 100000 0 0], .ptr 100001 0 10, i64 m]) ([(100000, .var (rdC s)), (100001, .var (nodC n))]) (.tup []) ([(100000, .var (rdC (widS s m))), (100001, .var (nodC { n with b := widV s m }))]) := by
  have oz0 := @wideR_v (s) (m) h
  exact VM.run (fn := Try.f262) (W := [.r [] [], .r [] [.callm [(100000, 100000)] [] (rM oz0) (oM oz0)]]) (G := [.drop [3], .sort]) Try.func262 (by kernel_rfl) (.c oz0 <| .n)
theorem lsml_w (B : List Int) (n : Nod) (m : Int) (hB : B.length ≤ 1000000) (hw : n.w.length ≤ 100000) : VM Try.prog 256 ([.ptr 100000 0 0, .ptr 100001 0 9, i64 m]) ([(950, .slc 5 1 (B.map (row1 .u8))), (100000, .var [.own 950]), (100001, .var (nodC n))]) (.tup []) ([(951, .slc 5 1 ((B ++ smallL n.w).map (row1 .u8))), (100000, .var [.own 951]), (100001, .var (nodC n))]) := by
  have q : (smallL n.w).length = n.w.length := List.length_map _
  have oz0 := @small_v (n.w) (by omega)
  exact VM.run (fn := Try.f256) (W := [.r [] [.callr (rO oz0)]]) (G := [.ren 15 951, .blk 951 (Blk.slc 5 1 (List.map (row1 IntKind.u8) (B ++ smallL n.w))), .sort]) Try.func256 (by kernel_rfl) (.c oz0 <| .c (show ((List.map (row1 IntKind.u8) B).length + (List.map (row1 IntKind.u8) (smallL n.w)).length) * 1 ≤ 140737488355328 by (simp only [List.length_map]; omega)) <| .c (show (List.map (row1 IntKind.u8) B).length + (List.map (row1 IntKind.u8) (smallL n.w)).length ≤ 9223372036854775807 by (simp only [List.length_map]; omega)) <| .c (show BlkW (Blk.slc 5 1 (List.map (row1 IntKind.u8) B ++ List.map (row1 IntKind.u8) (smallL n.w))) (Blk.slc 5 1 (List.map (row1 IntKind.u8) (B ++ smallL n.w))) from (BlkW.rows (e := 5) (z := 1) (rows_to (row1 IntKind.u8) (r := List.map (row1 IntKind.u8) B ++ List.map (row1 IntKind.u8) (smallL n.w)) (l := B ++ smallL n.w) (m := B ++ smallL n.w) (by first | (simp only [List.map_append, List.map_cons, List.map_nil, List.map_set, List.map_replicate, List.map_take, List.map_drop]; done) | rfl | (simp only [List.map_append, List.map_cons, List.map_nil, List.map_set, List.map_replicate, List.map_take, List.map_drop]; rfl)) rfl))) <| .n)
theorem lwid_b (B : List Int) (n : Nod) (m : Int) (hB : B.length ≤ 1000000) (hw : n.b.length ≤ 100000) (hb : ∀ x ∈ n.b, -2147483648 ≤ x ∧ x ≤ 2147483647) : VM Try.prog 257 ([.ptr 100000 0 0, .ptr 100001 0 10, i64 m]) ([(950, .slc 5 1 (B.map (row1 .u8))), (100000, .var [.own 950]), (100001, .var (nodC n))]) (.tup []) ([(951, .slc 5 1 ((B ++ wideL n.b).map (row1 .u8))), (100000, .var [.own 951]), (100001, .var (nodC n))]) := by
  have q := wideL_len n.b hb
  have oz0 := @wide_v (n.b) hb (by omega)
  exact VM.run (fn := Try.f257) (W := [.r [] [.callr (rO oz0)]]) (G := [.ren 15 951, .blk 951 (Blk.slc 5 1 (List.map (row1 IntKind.u8) (B ++ wideL n.b))), .sort]) Try.func257 (by kernel_rfl) (.c oz0 <| .c (show ((List.map (row1 IntKind.u8) B).length + (List.map (row1 IntKind.u8) (wideL n.b)).length) * 1 ≤ 140737488355328 by (simp only [List.length_map]; omega)) <| .c (show (List.map (row1 IntKind.u8) B).length + (List.map (row1 IntKind.u8) (wideL n.b)).length ≤ 9223372036854775807 by (simp only [List.length_map]; omega)) <| .c (show BlkW (Blk.slc 5 1 (List.map (row1 IntKind.u8) B ++ List.map (row1 IntKind.u8) (wideL n.b))) (Blk.slc 5 1 (List.map (row1 IntKind.u8) (B ++ wideL n.b))) from (BlkW.rows (e := 5) (z := 1) (rows_to (row1 IntKind.u8) (r := List.map (row1 IntKind.u8) B ++ List.map (row1 IntKind.u8) (wideL n.b)) (l := B ++ wideL n.b) (m := B ++ wideL n.b) (by first | (simp only [List.map_append, List.map_cons, List.map_nil, List.map_set, List.map_replicate, List.map_take, List.map_drop]; done) | rfl | (simp only [List.map_append, List.map_cons, List.map_nil, List.map_set, List.map_replicate, List.map_take, List.map_drop]; rfl)) rfl))) <| .n)
end Go.Proofs.Ytgecmooedhnenaa
/- Layers of bytes and takers: one number of a byte. No condition. -/
namespace Go.Proofs.Ytgecmooedhnenaa
open Go.RowKit
set_option linter.unusedSimpArgs false
set_option linter.unusedVariables false
set_option linter.unnecessarySimpa false
theorem tsml_1 (s : Rst) (m : Int) (h : s.In) : VM Try.prog 261 ([.agg [.ptr 100000 0 0], .ptr 100001 0 0, i64 m]) ([(100000, .var (rdC s)), (100001, .var [.any])]) (.tup []) ([(100000, .var (rdC (smlS s m))), (100001, .var [.sl 1 ((smlV s m).map (row1 .i8))])]) := by
  have oz0 := @smallR_v (s) (m) h
  exact VM.run (fn := Try.f261) (W := [.r [] [], .r [] [.callm [(100000, 100000)] [] (rM oz0) (oM oz0)]]) (G := [.drop [3], .sort]) Try.func261 (by kernel_rfl) (.c oz0 <| .n)
theorem tone_za_y (s : Rst) (n : Nod) (h : s.In) (h1 : (smlV s 1).length = 1) : VM Try.prog 167 ([.ifc 169 (.agg [.ptr 100000 0 0]), .ptr 100001 0 7]) ([(100000, .var (rdC s)), (100001, .var (nodC n))]) (.tup []) ([(100000, .var (rdC (smlS s 1))), (100001, .var (nodC { n with za := (smlV s 1).getD 0 default }))]) := by
  have oz0 := @tsml_1 (s) (1) h
  exact VM.run (fn := Try.f167) (W := [.r [] [], .r [] [.callm [(100000, 100000), (4, 100001)] [] (rM oz0) (oM oz0)], .r [] [], .br true, .r [] [.row [i8 ((smlV s 1).getD 0 0)]]]) (G := [.drop [8, 4], .blk 100001 (Blk.var [i64 n.kd, i64 n.na, i64 n.nb, i64 n.nk, i64 n.ns, i64 n.np, i64 n.no, i8 ((smlV s 1).getD 0 default), i8 n.zb, AV.sl 1 (List.map (row1 IntKind.i8) n.w), AV.sl 1 (List.map (row1 IntKind.i32) n.b), i32 n.qm, i64 n.qs, i8 n.qz, i32 n.rm, i64 n.rs, i8 n.rz, i8 n.lo, i8 n.hi]), .sort]) Try.func167 (by kernel_rfl) (.c oz0 <| .c (show MethodIs Try.prog (169 : Nat) "stepwell/pack.small" (methF Try.prog (169 : Nat) "stepwell/pack.small") from (methodIs (by kernel_rfl))) <| .c (show ((↑(List.map (row1 IntKind.i8) (smlV s 1)).length : Int) == 1) = true by (simp; omega)) <| .c (show (0 : Int) ≤ (0 : Int) by omega) <| .c (map_at (row1 IntKind.i8) (0) (l := smlV s 1) (i := 0) (by omega)) <| .c (show BlkW (Blk.var [i64 n.kd, i64 n.na, i64 n.nb, i64 n.nk, i64 n.ns, i64 n.np, i64 n.no, i8 ((smlV s 1).getD 0 0), i8 n.zb, AV.sl 1 (List.map (row1 IntKind.i8) n.w), AV.sl 1 (List.map (row1 IntKind.i32) n.b), i32 n.qm, i64 n.qs, i8 n.qz, i32 n.rm, i64 n.rs, i8 n.rz, i8 n.lo, i8 n.hi]) (Blk.var [i64 n.kd, i64 n.na, i64 n.nb, i64 n.nk, i64 n.ns, i64 n.np, i64 n.no, i8 ((smlV s 1).getD 0 default), i8 n.zb, AV.sl 1 (List.map (row1 IntKind.i8) n.w), AV.sl 1 (List.map (row1 IntKind.i32) n.b), i32 n.qm, i64 n.qs, i8 n.qz, i32 n.rm, i64 n.rs, i8 n.rz, i8 n.lo, i8 n.hi]) from (BlkW.var (.cons (.refl _) (.cons (.refl _) (.cons (.refl _) (.cons (.refl _) (.cons (.refl _) (.cons (.refl _) (.cons (.refl _) (.cons (Weak.int (show (((smlV s 1).getD 0 0) : Int) = ((smlV s 1).getD 0 default) from (by (simp; done)))) (.cons (.refl _) (.cons (.refl _) (.cons (.refl _) (.cons (.refl _) (.cons (.refl _) (.cons (.refl _) (.cons (.refl _) (.cons (.refl _) (.cons (.refl _) (.cons (.refl _) (.cons (.refl _) .nil))))))))))))))))))))) <| .n)
theorem tone_za_n (s : Rst) (n : Nod) (h : s.In) (h1 : (smlV s 1).length ≠ 1) (h2 : (smlV s 1).length ≤ 1000000) : VM Try.prog 167 ([.ifc 169 (.agg [.ptr 100000 0 0]), .ptr 100001 0 7]) ([(100000, .var (rdC s)), (100001, .var (nodC n))]) (.tup []) ([(100000, .var (rdC (smlS s 1))), (100001, .var (nodC n))]) := by
  have oz0 := @tsml_1 (s) (1) h
  exact VM.run (fn := Try.f167) (W := [.r [] [], .r [] [.callm [(100000, 100000), (4, 100001)] [] (rM oz0) (oM oz0)], .r [] [], .br false]) (G := [.drop [8, 4], .sort]) Try.func167 (by kernel_rfl) (.c oz0 <| .c (show MethodIs Try.prog (169 : Nat) "stepwell/pack.small" (methF Try.prog (169 : Nat) "stepwell/pack.small") from (methodIs (by kernel_rfl))) <| .c (show ((↑(List.map (row1 IntKind.i8) (smlV s 1)).length : Int) == 1) = false by (simp; omega)) <| .n)
end Go.Proofs.Ytgecmooedhnenaa
/- Layers of bytes and takers: one number of a byte, at the other places. No condition. -/
namespace Go.Proofs.Ytgecmooedhnenaa
open Go.RowKit
set_option linter.unusedSimpArgs false
set_option linter.unusedVariables false
set_option linter.unnecessarySimpa false
theorem tone_zb_y (s : Rst) (n : Nod) (h : s.In) (h1 : (smlV s 1).length = 1) : VM Try.prog 167 ([.ifc 169 (.agg [.ptr 100000 0 0]), .ptr 100001 0 8]) ([(100000, .var (rdC s)), (100001, .var (nodC n))]) (.tup []) ([(100000, .var (rdC (smlS s 1))), (100001, .var (nodC { n with zb := (smlV s 1).getD 0 default }))]) := by
  have oz0 := @tsml_1 (s) (1) h
  exact VM.run (fn := Try.f167) (W := [.r [] [], .r [] [.callm [(100000, 100000), (4, 100001)] [] (rM oz0) (oM oz0)], .r [] [], .br true, .r [] [.row [i8 ((smlV s 1).getD 0 0)]]]) (G := [.drop [8, 4], .blk 100001 (Blk.var [i64 n.kd, i64 n.na, i64 n.nb, i64 n.nk, i64 n.ns, i64 n.np, i64 n.no, i8 n.za, i8 ((smlV s 1).getD 0 default), AV.sl 1 (List.map (row1 IntKind.i8) n.w), AV.sl 1 (List.map (row1 IntKind.i32) n.b), i32 n.qm, i64 n.qs, i8 n.qz, i32 n.rm, i64 n.rs, i8 n.rz, i8 n.lo, i8 n.hi]), .sort]) Try.func167 (by kernel_rfl) (.c oz0 <| .c (show MethodIs Try.prog (169 : Nat) "stepwell/pack.small" (methF Try.prog (169 : Nat) "stepwell/pack.small") from (methodIs (by kernel_rfl))) <| .c (show ((↑(List.map (row1 IntKind.i8) (smlV s 1)).length : Int) == 1) = true by (simp; omega)) <| .c (show (0 : Int) ≤ (0 : Int) by omega) <| .c (map_at (row1 IntKind.i8) (0) (l := smlV s 1) (i := 0) (by omega)) <| .c (show BlkW (Blk.var [i64 n.kd, i64 n.na, i64 n.nb, i64 n.nk, i64 n.ns, i64 n.np, i64 n.no, i8 n.za, i8 ((smlV s 1).getD 0 0), AV.sl 1 (List.map (row1 IntKind.i8) n.w), AV.sl 1 (List.map (row1 IntKind.i32) n.b), i32 n.qm, i64 n.qs, i8 n.qz, i32 n.rm, i64 n.rs, i8 n.rz, i8 n.lo, i8 n.hi]) (Blk.var [i64 n.kd, i64 n.na, i64 n.nb, i64 n.nk, i64 n.ns, i64 n.np, i64 n.no, i8 n.za, i8 ((smlV s 1).getD 0 default), AV.sl 1 (List.map (row1 IntKind.i8) n.w), AV.sl 1 (List.map (row1 IntKind.i32) n.b), i32 n.qm, i64 n.qs, i8 n.qz, i32 n.rm, i64 n.rs, i8 n.rz, i8 n.lo, i8 n.hi]) from (BlkW.var (.cons (.refl _) (.cons (.refl _) (.cons (.refl _) (.cons (.refl _) (.cons (.refl _) (.cons (.refl _) (.cons (.refl _) (.cons (.refl _) (.cons (Weak.int (show (((smlV s 1).getD 0 0) : Int) = ((smlV s 1).getD 0 default) from (by (simp; done)))) (.cons (.refl _) (.cons (.refl _) (.cons (.refl _) (.cons (.refl _) (.cons (.refl _) (.cons (.refl _) (.cons (.refl _) (.cons (.refl _) (.cons (.refl _) (.cons (.refl _) .nil))))))))))))))))))))) <| .n)
theorem tone_zb_n (s : Rst) (n : Nod) (h : s.In) (h1 : (smlV s 1).length ≠ 1) (h2 : (smlV s 1).length ≤ 1000000) : VM Try.prog 167 ([.ifc 169 (.agg [.ptr 100000 0 0]), .ptr 100001 0 8]) ([(100000, .var (rdC s)), (100001, .var (nodC n))]) (.tup []) ([(100000, .var (rdC (smlS s 1))), (100001, .var (nodC n))]) := by
  have oz0 := @tsml_1 (s) (1) h
  exact VM.run (fn := Try.f167) (W := [.r [] [], .r [] [.callm [(100000, 100000), (4, 100001)] [] (rM oz0) (oM oz0)], .r [] [], .br false]) (G := [.drop [8, 4], .sort]) Try.func167 (by kernel_rfl) (.c oz0 <| .c (show MethodIs Try.prog (169 : Nat) "stepwell/pack.small" (methF Try.prog (169 : Nat) "stepwell/pack.small") from (methodIs (by kernel_rfl))) <| .c (show ((↑(List.map (row1 IntKind.i8) (smlV s 1)).length : Int) == 1) = false by (simp; omega)) <| .n)
theorem tone_qz_y (s : Rst) (n : Nod) (h : s.In) (h1 : (smlV s 1).length = 1) : VM Try.prog 167 ([.ifc 169 (.agg [.ptr 100000 0 0]), .ptr 100001 0 13]) ([(100000, .var (rdC s)), (100001, .var (nodC n))]) (.tup []) ([(100000, .var (rdC (smlS s 1))), (100001, .var (nodC { n with qz := (smlV s 1).getD 0 default }))]) := by
  have oz0 := @tsml_1 (s) (1) h
  exact VM.run (fn := Try.f167) (W := [.r [] [], .r [] [.callm [(100000, 100000), (4, 100001)] [] (rM oz0) (oM oz0)], .r [] [], .br true, .r [] [.row [i8 ((smlV s 1).getD 0 0)]]]) (G := [.drop [8, 4], .blk 100001 (Blk.var [i64 n.kd, i64 n.na, i64 n.nb, i64 n.nk, i64 n.ns, i64 n.np, i64 n.no, i8 n.za, i8 n.zb, AV.sl 1 (List.map (row1 IntKind.i8) n.w), AV.sl 1 (List.map (row1 IntKind.i32) n.b), i32 n.qm, i64 n.qs, i8 ((smlV s 1).getD 0 default), i32 n.rm, i64 n.rs, i8 n.rz, i8 n.lo, i8 n.hi]), .sort]) Try.func167 (by kernel_rfl) (.c oz0 <| .c (show MethodIs Try.prog (169 : Nat) "stepwell/pack.small" (methF Try.prog (169 : Nat) "stepwell/pack.small") from (methodIs (by kernel_rfl))) <| .c (show ((↑(List.map (row1 IntKind.i8) (smlV s 1)).length : Int) == 1) = true by (simp; omega)) <| .c (show (0 : Int) ≤ (0 : Int) by omega) <| .c (map_at (row1 IntKind.i8) (0) (l := smlV s 1) (i := 0) (by omega)) <| .c (show BlkW (Blk.var [i64 n.kd, i64 n.na, i64 n.nb, i64 n.nk, i64 n.ns, i64 n.np, i64 n.no, i8 n.za, i8 n.zb, AV.sl 1 (List.map (row1 IntKind.i8) n.w), AV.sl 1 (List.map (row1 IntKind.i32) n.b), i32 n.qm, i64 n.qs, i8 ((smlV s 1).getD 0 0), i32 n.rm, i64 n.rs, i8 n.rz, i8 n.lo, i8 n.hi]) (Blk.var [i64 n.kd, i64 n.na, i64 n.nb, i64 n.nk, i64 n.ns, i64 n.np, i64 n.no, i8 n.za, i8 n.zb, AV.sl 1 (List.map (row1 IntKind.i8) n.w), AV.sl 1 (List.map (row1 IntKind.i32) n.b), i32 n.qm, i64 n.qs, i8 ((smlV s 1).getD 0 default), i32 n.rm, i64 n.rs, i8 n.rz, i8 n.lo, i8 n.hi]) from (BlkW.var (.cons (.refl _) (.cons (.refl _) (.cons (.refl _) (.cons (.refl _) (.cons (.refl _) (.cons (.refl _) (.cons (.refl _) (.cons (.refl _) (.cons (.refl _) (.cons (.refl _) (.cons (.refl _) (.cons (.refl _) (.cons (.refl _) (.cons (Weak.int (show (((smlV s 1).getD 0 0) : Int) = ((smlV s 1).getD 0 default) from (by (simp; done)))) (.cons (.refl _) (.cons (.refl _) (.cons (.refl _) (.cons (.refl _) (.cons (.refl _) .nil))))))))))))))))))))) <| .n)
theorem tone_qz_n (s : Rst) (n : Nod) (h : s.In) (h1 : (smlV s 1).length ≠ 1) (h2 : (smlV s 1).length ≤ 1000000) : VM Try.prog 167 ([.ifc 169 (.agg [.ptr 100000 0 0]), .ptr 100001 0 13]) ([(100000, .var (rdC s)), (100001, .var (nodC n))]) (.tup []) ([(100000, .var (rdC (smlS s 1))), (100001, .var (nodC n))]) := by
  have oz0 := @tsml_1 (s) (1) h
  exact VM.run (fn := Try.f167) (W := [.r [] [], .r [] [.callm [(100000, 100000), (4, 100001)] [] (rM oz0) (oM oz0)], .r [] [], .br false]) (G := [.drop [8, 4], .sort]) Try.func167 (by kernel_rfl) (.c oz0 <| .c (show MethodIs Try.prog (169 : Nat) "stepwell/pack.small" (methF Try.prog (169 : Nat) "stepwell/pack.small") from (methodIs (by kernel_rfl))) <| .c (show ((↑(List.map (row1 IntKind.i8) (smlV s 1)).length : Int) == 1) = false by (simp; omega)) <| .n)
theorem tone_lo_y (s : Rst) (n : Nod) (h : s.In) (h1 : (smlV s 1).length = 1) : VM Try.prog 167 ([.ifc 169 (.agg [.ptr 100000 0 0]), .ptr 100001 0 17]) ([(100000, .var (rdC s)), (100001, .var (nodC n))]) (.tup []) ([(100000, .var (rdC (smlS s 1))), (100001, .var (nodC { n with lo := (smlV s 1).getD 0 default }))]) := by
  have oz0 := @tsml_1 (s) (1) h
  exact VM.run (fn := Try.f167) (W := [.r [] [], .r [] [.callm [(100000, 100000), (4, 100001)] [] (rM oz0) (oM oz0)], .r [] [], .br true, .r [] [.row [i8 ((smlV s 1).getD 0 0)]]]) (G := [.drop [8, 4], .blk 100001 (Blk.var [i64 n.kd, i64 n.na, i64 n.nb, i64 n.nk, i64 n.ns, i64 n.np, i64 n.no, i8 n.za, i8 n.zb, AV.sl 1 (List.map (row1 IntKind.i8) n.w), AV.sl 1 (List.map (row1 IntKind.i32) n.b), i32 n.qm, i64 n.qs, i8 n.qz, i32 n.rm, i64 n.rs, i8 n.rz, i8 ((smlV s 1).getD 0 default), i8 n.hi]), .sort]) Try.func167 (by kernel_rfl) (.c oz0 <| .c (show MethodIs Try.prog (169 : Nat) "stepwell/pack.small" (methF Try.prog (169 : Nat) "stepwell/pack.small") from (methodIs (by kernel_rfl))) <| .c (show ((↑(List.map (row1 IntKind.i8) (smlV s 1)).length : Int) == 1) = true by (simp; omega)) <| .c (show (0 : Int) ≤ (0 : Int) by omega) <| .c (map_at (row1 IntKind.i8) (0) (l := smlV s 1) (i := 0) (by omega)) <| .c (show BlkW (Blk.var [i64 n.kd, i64 n.na, i64 n.nb, i64 n.nk, i64 n.ns, i64 n.np, i64 n.no, i8 n.za, i8 n.zb, AV.sl 1 (List.map (row1 IntKind.i8) n.w), AV.sl 1 (List.map (row1 IntKind.i32) n.b), i32 n.qm, i64 n.qs, i8 n.qz, i32 n.rm, i64 n.rs, i8 n.rz, i8 ((smlV s 1).getD 0 0), i8 n.hi]) (Blk.var [i64 n.kd, i64 n.na, i64 n.nb, i64 n.nk, i64 n.ns, i64 n.np, i64 n.no, i8 n.za, i8 n.zb, AV.sl 1 (List.map (row1 IntKind.i8) n.w), AV.sl 1 (List.map (row1 IntKind.i32) n.b), i32 n.qm, i64 n.qs, i8 n.qz, i32 n.rm, i64 n.rs, i8 n.rz, i8 ((smlV s 1).getD 0 default), i8 n.hi]) from (BlkW.var (.cons (.refl _) (.cons (.refl _) (.cons (.refl _) (.cons (.refl _) (.cons (.refl _) (.cons (.refl _) (.cons (.refl _) (.cons (.refl _) (.cons (.refl _) (.cons (.refl _) (.cons (.refl _) (.cons (.refl _) (.cons (.refl _) (.cons (.refl _) (.cons (.refl _) (.cons (.refl _) (.cons (.refl _) (.cons (Weak.int (show (((smlV s 1).getD 0 0) : Int) = ((smlV s 1).getD 0 default) from (by (simp; done)))) (.cons (.refl _) .nil))))))))))))))))))))) <| .n)
theorem tone_lo_n (s : Rst) (n : Nod) (h : s.In) (h1 : (smlV s 1).length ≠ 1) (h2 : (smlV s 1).length ≤ 1000000) : VM Try.prog 167 ([.ifc 169 (.agg [.ptr 100000 0 0]), .ptr 100001 0 17]) ([(100000, .var (rdC s)), (100001, .var (nodC n))]) (.tup []) ([(100000, .var (rdC (smlS s 1))), (100001, .var (nodC n))]) := by
  have oz0 := @tsml_1 (s) (1) h
  exact VM.run (fn := Try.f167) (W := [.r [] [], .r [] [.callm [(100000, 100000), (4, 100001)] [] (rM oz0) (oM oz0)], .r [] [], .br false]) (G := [.drop [8, 4], .sort]) Try.func167 (by kernel_rfl) (.c oz0 <| .c (show MethodIs Try.prog (169 : Nat) "stepwell/pack.small" (methF Try.prog (169 : Nat) "stepwell/pack.small") from (methodIs (by kernel_rfl))) <| .c (show ((↑(List.map (row1 IntKind.i8) (smlV s 1)).length : Int) == 1) = false by (simp; omega)) <| .n)
theorem tone_hi_y (s : Rst) (n : Nod) (h : s.In) (h1 : (smlV s 1).length = 1) : VM Try.prog 167 ([.ifc 169 (.agg [.ptr 100000 0 0]), .ptr 100001 0 18]) ([(100000, .var (rdC s)), (100001, .var (nodC n))]) (.tup []) ([(100000, .var (rdC (smlS s 1))), (100001, .var (nodC { n with hi := (smlV s 1).getD 0 default }))]) := by
  have oz0 := @tsml_1 (s) (1) h
  exact VM.run (fn := Try.f167) (W := [.r [] [], .r [] [.callm [(100000, 100000), (4, 100001)] [] (rM oz0) (oM oz0)], .r [] [], .br true, .r [] [.row [i8 ((smlV s 1).getD 0 0)]]]) (G := [.drop [8, 4], .blk 100001 (Blk.var [i64 n.kd, i64 n.na, i64 n.nb, i64 n.nk, i64 n.ns, i64 n.np, i64 n.no, i8 n.za, i8 n.zb, AV.sl 1 (List.map (row1 IntKind.i8) n.w), AV.sl 1 (List.map (row1 IntKind.i32) n.b), i32 n.qm, i64 n.qs, i8 n.qz, i32 n.rm, i64 n.rs, i8 n.rz, i8 n.lo, i8 ((smlV s 1).getD 0 default)]), .sort]) Try.func167 (by kernel_rfl) (.c oz0 <| .c (show MethodIs Try.prog (169 : Nat) "stepwell/pack.small" (methF Try.prog (169 : Nat) "stepwell/pack.small") from (methodIs (by kernel_rfl))) <| .c (show ((↑(List.map (row1 IntKind.i8) (smlV s 1)).length : Int) == 1) = true by (simp; omega)) <| .c (show (0 : Int) ≤ (0 : Int) by omega) <| .c (map_at (row1 IntKind.i8) (0) (l := smlV s 1) (i := 0) (by omega)) <| .c (show BlkW (Blk.var [i64 n.kd, i64 n.na, i64 n.nb, i64 n.nk, i64 n.ns, i64 n.np, i64 n.no, i8 n.za, i8 n.zb, AV.sl 1 (List.map (row1 IntKind.i8) n.w), AV.sl 1 (List.map (row1 IntKind.i32) n.b), i32 n.qm, i64 n.qs, i8 n.qz, i32 n.rm, i64 n.rs, i8 n.rz, i8 n.lo, i8 ((smlV s 1).getD 0 0)]) (Blk.var [i64 n.kd, i64 n.na, i64 n.nb, i64 n.nk, i64 n.ns, i64 n.np, i64 n.no, i8 n.za, i8 n.zb, AV.sl 1 (List.map (row1 IntKind.i8) n.w), AV.sl 1 (List.map (row1 IntKind.i32) n.b), i32 n.qm, i64 n.qs, i8 n.qz, i32 n.rm, i64 n.rs, i8 n.rz, i8 n.lo, i8 ((smlV s 1).getD 0 default)]) from (BlkW.var (.cons (.refl _) (.cons (.refl _) (.cons (.refl _) (.cons (.refl _) (.cons (.refl _) (.cons (.refl _) (.cons (.refl _) (.cons (.refl _) (.cons (.refl _) (.cons (.refl _) (.cons (.refl _) (.cons (.refl _) (.cons (.refl _) (.cons (.refl _) (.cons (.refl _) (.cons (.refl _) (.cons (.refl _) (.cons (.refl _) (.cons (Weak.int (show (((smlV s 1).getD 0 0) : Int) = ((smlV s 1).getD 0 default) from (by (simp; done)))) .nil))))))))))))))))))))) <| .n)
theorem tone_hi_n (s : Rst) (n : Nod) (h : s.In) (h1 : (smlV s 1).length ≠ 1) (h2 : (smlV s 1).length ≤ 1000000) : VM Try.prog 167 ([.ifc 169 (.agg [.ptr 100000 0 0]), .ptr 100001 0 18]) ([(100000, .var (rdC s)), (100001, .var (nodC n))]) (.tup []) ([(100000, .var (rdC (smlS s 1))), (100001, .var (nodC n))]) := by
  have oz0 := @tsml_1 (s) (1) h
  exact VM.run (fn := Try.f167) (W := [.r [] [], .r [] [.callm [(100000, 100000), (4, 100001)] [] (rM oz0) (oM oz0)], .r [] [], .br false]) (G := [.drop [8, 4], .sort]) Try.func167 (by kernel_rfl) (.c oz0 <| .c (show MethodIs Try.prog (169 : Nat) "stepwell/pack.small" (methF Try.prog (169 : Nat) "stepwell/pack.small") from (methodIs (by kernel_rfl))) <| .c (show ((↑(List.map (row1 IntKind.i8) (smlV s 1)).length : Int) == 1) = false by (simp; omega)) <| .n)
end Go.Proofs.Ytgecmooedhnenaa
/- What a kind tells; one number of a byte. No condition. -/
namespace Go.Proofs.Ytgecmooedhnenaa
open Go.RowKit
set_option linter.unusedSimpArgs false
set_option linter.unusedVariables false
set_option linter.unnecessarySimpa false
def oneV (s : Rst) : Int := (smlV s 1).getD 0 0
theorem one_len (s : Rst) : (smlV s 1).length = 0 ∨ (smlV s 1).length = 1 := by
  unfold smlV
  split
  · exact .inl rfl
  · split
    · exact .inl rfl
    · split
      · exact .inl rfl
      · exact .inr (tkW_len _ _)
theorem oneV_0 {s : Rst} (h : (smlV s 1).length = 0) : oneV s = 0 := by
  unfold oneV; rw [List.length_eq_zero_iff.1 h]; rfl
theorem tone_za (s : Rst) (n : Nod) (h : s.In) (h0 : n.za = 0) : VM Try.prog 167 [.ifc 169 (.agg [.ptr 100000 0 0]), .ptr 100001 0 7] [(100000, .var (rdC s)), (100001, .var (nodC n))] (.tup []) [(100000, .var (rdC (smlS s 1))), (100001, .var (nodC { n with za := oneV s }))] := by
  rcases one_len s with h1 | h1
  · have e : { n with za := oneV s } = n := by rw [oneV_0 h1, ← h0]
    rw [e]
    exact tone_za_n s n h (by omega) (by omega)
  · exact tone_za_y s n h h1
theorem tone_zb (s : Rst) (n : Nod) (h : s.In) (h0 : n.zb = 0) : VM Try.prog 167 [.ifc 169 (.agg [.ptr 100000 0 0]), .ptr 100001 0 8] [(100000, .var (rdC s)), (100001, .var (nodC n))] (.tup []) [(100000, .var (rdC (smlS s 1))), (100001, .var (nodC { n with zb := oneV s }))] := by
  rcases one_len s with h1 | h1
  · have e : { n with zb := oneV s } = n := by rw [oneV_0 h1, ← h0]
    rw [e]
    exact tone_zb_n s n h (by omega) (by omega)
  · exact tone_zb_y s n h h1
theorem tone_qz (s : Rst) (n : Nod) (h : s.In) (h0 : n.qz = 0) : VM Try.prog 167 [.ifc 169 (.agg [.ptr 100000 0 0]), .ptr 100001 0 13] [(100000, .var (rdC s)), (100001, .var (nodC n))] (.tup []) [(100000, .var (rdC (smlS s 1))), (100001, .var (nodC { n with qz := oneV s }))] := by
  rcases one_len s with h1 | h1
  · have e : { n with qz := oneV s } = n := by rw [oneV_0 h1, ← h0]
    rw [e]
    exact tone_qz_n s n h (by omega) (by omega)
  · exact tone_qz_y s n h h1
theorem tone_lo (s : Rst) (n : Nod) (h : s.In) (h0 : n.lo = 0) : VM Try.prog 167 [.ifc 169 (.agg [.ptr 100000 0 0]), .ptr 100001 0 17] [(100000, .var (rdC s)), (100001, .var (nodC n))] (.tup []) [(100000, .var (rdC (smlS s 1))), (100001, .var (nodC { n with lo := oneV s }))] := by
  rcases one_len s with h1 | h1
  · have e : { n with lo := oneV s } = n := by rw [oneV_0 h1, ← h0]
    rw [e]
    exact tone_lo_n s n h (by omega) (by omega)
  · exact tone_lo_y s n h h1
theorem tone_hi (s : Rst) (n : Nod) (h : s.In) (h0 : n.hi = 0) : VM Try.prog 167 [.ifc 169 (.agg [.ptr 100000 0 0]), .ptr 100001 0 18] [(100000, .var (rdC s)), (100001, .var (nodC n))] (.tup []) [(100000, .var (rdC (smlS s 1))), (100001, .var (nodC { n with hi := oneV s }))] := by
  rcases one_len s with h1 | h1
  · have e : { n with hi := oneV s } = n := by rw [oneV_0 h1, ← h0]
    rw [e]
    exact tone_hi_n s n h (by omega) (by omega)
  · exact tone_hi_y s n h h1
theorem of_1 (k : Int) (h : k = 1) : VC Try.prog 165 ([i64 k]) (.agg [bv false, bv true, bv true, bv true, bv true, bv true]) := by
  have oz0 := (show (k == 1) = !false by (refine decide_eq_true ?_; omega))
  have oz2 := (show (k == 1) = true by (refine decide_eq_true ?_; omega))
  have oz3 := (show true = !false by (simp; done))
  have oz5 := (show true = true by with_reducible rfl)
  exact (VC.run (fn := Try.f165) (W := [.r [] [], .r [] [.br false, .br false, .br true, .br false, .br false, .br true], .r [] [.br false, .br false, .br true, .br false, .br false, .br true, .br false, .br false, .br true], .r [] [.br false, .br false, .br true, .br false, .br false, .br true], .r [] [.br false, .br false, .br true, .br false, .br false, .br true]]) (r := AV.agg [bv (k == 6), bv true, bv true, bv true, bv true, bv true]) Try.func165 (by kernel_rfl) (.c oz0 <| .c oz0 <| .c oz2 <| .c oz3 <| .c oz3 <| .c oz5 <| .c oz0 <| .c oz0 <| .c oz2 <| .c oz3 <| .c oz3 <| .c oz5 <| .c oz3 <| .c oz3 <| .c oz5 <| .c oz3 <| .c oz3 <| .c oz5 <| .c oz3 <| .c oz3 <| .c oz5 <| .c oz0 <| .c oz0 <| .c oz2 <| .c oz3 <| .c oz3 <| .c oz5 <| .n)).weak (WeakL.refl _) (Weak.agg (.cons (Weak.bool (show ((k == 6) : Bool) = (false) from (by (refine decide_eq_false ?_; omega)))) (.cons (.refl _) (.cons (.refl _) (.cons (.refl _) (.cons (.refl _) (.cons (.refl _) .nil)))))))
theorem of_2 (k : Int) (h : k = 2) : VC Try.prog 165 ([i64 k]) (.agg [bv false, bv true, bv false, bv true, bv true, bv true]) := by
  have oz0 := (show (k == 1) = false by (refine decide_eq_false ?_; omega))
  have oz3 := (show (k == 2) = !false by (refine decide_eq_true ?_; omega))
  have oz5 := (show (k == 2) = true by (refine decide_eq_true ?_; omega))
  have oz12 := (show true = !false by (simp; done))
  have oz14 := (show true = true by with_reducible rfl)
  exact (VC.run (fn := Try.f165) (W := [.r [] [], .r [] [.br true, .br true, .br false, .br false, .br false, .br true], .r [] [.br true, .br true, .br false, .br false, .br false, .br true, .br false, .br false, .br true], .r [] [.br false, .br false, .br true, .br false, .br false, .br true], .r [] [.br true, .br true, .br false, .br false, .br false, .br true]]) (r := AV.agg [bv (k == 6), bv true, bv (k == 3), bv true, bv true, bv true]) Try.func165 (by kernel_rfl) (.c oz0 <| .c oz0 <| .c oz0 <| .c oz3 <| .c oz3 <| .c oz5 <| .c oz0 <| .c oz0 <| .c oz0 <| .c oz3 <| .c oz3 <| .c oz5 <| .c oz12 <| .c oz12 <| .c oz14 <| .c oz12 <| .c oz12 <| .c oz14 <| .c oz12 <| .c oz12 <| .c oz14 <| .c oz0 <| .c oz0 <| .c oz0 <| .c oz12 <| .c oz12 <| .c oz14 <| .n)).weak (WeakL.refl _) (Weak.agg (.cons (Weak.bool (show ((k == 6) : Bool) = (false) from (by (refine decide_eq_false ?_; omega)))) (.cons (.refl _) (.cons (Weak.bool (show ((k == 3) : Bool) = (false) from (by (refine decide_eq_false ?_; omega)))) (.cons (.refl _) (.cons (.refl _) (.cons (.refl _) .nil)))))))
theorem of_3 (k : Int) (h : k = 3) : VC Try.prog 165 ([i64 k]) (.agg [bv false, bv false, bv true, bv true, bv true, bv true]) := by
  have oz0 := (show (k == 1) = false by (refine decide_eq_false ?_; omega))
  have oz3 := (show (k == 2) = false by (refine decide_eq_false ?_; omega))
  have oz12 := (show (k == 4) = false by (refine decide_eq_false ?_; omega))
  have oz15 := (show (k == 3) = !false by (refine decide_eq_true ?_; omega))
  have oz18 := (show true = !false by (simp; done))
  have oz20 := (show true = true by with_reducible rfl)
  exact (VC.run (fn := Try.f165) (W := [.r [] [], .r [] [.br true, .br true, .br false, .br true, .br true, .br false], .r [] [.br true, .br true, .br false, .br true, .br true, .br false, .br true, .br true, .br false], .r [] [.br false, .br false, .br true, .br false, .br false, .br true], .r [] [.br true, .br true, .br false, .br false, .br false, .br true]]) (r := AV.agg [bv (k == 6), bv (k == 5), bv (k == 3), bv true, bv (k == 3), bv true]) Try.func165 (by kernel_rfl) (.c oz0 <| .c oz0 <| .c oz0 <| .c oz3 <| .c oz3 <| .c oz3 <| .c oz0 <| .c oz0 <| .c oz0 <| .c oz3 <| .c oz3 <| .c oz3 <| .c oz12 <| .c oz12 <| .c oz12 <| .c oz15 <| .c oz15 <| .c (show (k == 3) = true by (refine decide_eq_true ?_; omega)) <| .c oz18 <| .c oz18 <| .c oz20 <| .c oz0 <| .c oz0 <| .c oz0 <| .c oz18 <| .c oz18 <| .c oz20 <| .n)).weak (WeakL.refl _) (Weak.agg (.cons (Weak.bool (show ((k == 6) : Bool) = (false) from (by (refine decide_eq_false ?_; omega)))) (.cons (Weak.bool (show ((k == 5) : Bool) = (false) from (by (refine decide_eq_false ?_; omega)))) (.cons (Weak.bool (show ((k == 3) : Bool) = (true) from (by (refine decide_eq_true ?_; omega)))) (.cons (.refl _) (.cons (Weak.bool (show ((k == 3) : Bool) = (true) from (by (refine decide_eq_true ?_; omega)))) (.cons (.refl _) .nil)))))))
theorem of_4 (k : Int) (h : k = 4 ∨ k = 5) : VC Try.prog 165 ([i64 k]) (.agg [bv false, bv true, bv false, bv false, bv false, bv false]) := by
  have oz0 := (show (k == 1) = false by (refine decide_eq_false ?_; omega))
  have oz3 := (show (k == 2) = false by (refine decide_eq_false ?_; omega))
  have oz12 := (show (k == 3) = false by (refine decide_eq_false ?_; omega))
  have oz15 := (show (k == 6) = false by (refine decide_eq_false ?_; omega))
  have oz21 := (show (k == 7) = false by (refine decide_eq_false ?_; omega))
  exact (VC.run (fn := Try.f165) (W := [.r [] [], .r [] [.br true, .br true, .br false, .br true, .br true, .br false], .r [] [.br true, .br true, .br false, .br true, .br true, .br false, .op false, .op false, .sel 1], .r [] [.br true, .br true, .br false, .br true, .br true, .br false], .r [] [.br true, .br true, .br false, .br true, .br true, .br false]]) (r := AV.agg [bv (k == 6), bv (k == 4 || k == 5), bv (k == 3), bv (k == 8), bv (k == 3), bv (k == 7)]) Try.func165 (by kernel_rfl) (.c oz0 <| .c oz0 <| .c oz0 <| .c oz3 <| .c oz3 <| .c oz3 <| .c oz0 <| .c oz0 <| .c oz0 <| .c oz3 <| .c oz3 <| .c oz3 <| .c oz12 <| .c oz12 <| .c oz12 <| .c oz15 <| .c oz15 <| .c oz15 <| .c oz0 <| .c oz0 <| .c oz0 <| .c oz21 <| .c oz21 <| .c oz21 <| .n)).weak (WeakL.refl _) (Weak.agg (.cons (Weak.bool (show ((k == 6) : Bool) = (false) from (by (refine decide_eq_false ?_; omega)))) (.cons (Weak.bool (show ((k == 4 || k == 5) : Bool) = (true) from (by (simp; omega)))) (.cons (Weak.bool (show ((k == 3) : Bool) = (false) from (by (refine decide_eq_false ?_; omega)))) (.cons (Weak.bool (show ((k == 8) : Bool) = (false) from (by (refine decide_eq_false ?_; omega)))) (.cons (Weak.bool (show ((k == 3) : Bool) = (false) from (by (refine decide_eq_false ?_; omega)))) (.cons (Weak.bool (show ((k == 7) : Bool) = (false) from (by (refine decide_eq_false ?_; omega)))) .nil)))))))
theorem of_6 (k : Int) (h : k = 6) : VC Try.prog 165 ([i64 k]) (.agg [bv true, bv false, bv false, bv true, bv false, bv true]) := by
  have oz0 := (show (k == 1) = false by (refine decide_eq_false ?_; omega))
  have oz3 := (show (k == 2) = false by (refine decide_eq_false ?_; omega))
  have oz12 := (show (k == 4) = false by (refine decide_eq_false ?_; omega))
  have oz15 := (show (k == 3) = false by (refine decide_eq_false ?_; omega))
  have oz18 := (show (k == 6) = !false by (refine decide_eq_true ?_; omega))
  have oz24 := (show true = !false by (simp; done))
  exact (VC.run (fn := Try.f165) (W := [.r [] [], .r [] [.br true, .br true, .br false, .br true, .br true, .br false], .r [] [.br true, .br true, .br false, .br true, .br true, .br false, .br true, .br true, .br false], .r [] [.br true, .br true, .br false, .br false, .br false, .br true], .r [] [.br true, .br true, .br false, .br false, .br false, .br true]]) (r := AV.agg [bv (k == 6), bv (k == 5), bv (k == 3), bv true, bv (k == 3), bv true]) Try.func165 (by kernel_rfl) (.c oz0 <| .c oz0 <| .c oz0 <| .c oz3 <| .c oz3 <| .c oz3 <| .c oz0 <| .c oz0 <| .c oz0 <| .c oz3 <| .c oz3 <| .c oz3 <| .c oz12 <| .c oz12 <| .c oz12 <| .c oz15 <| .c oz15 <| .c oz15 <| .c oz18 <| .c oz18 <| .c (show (k == 6) = true by (refine decide_eq_true ?_; omega)) <| .c oz0 <| .c oz0 <| .c oz0 <| .c oz24 <| .c oz24 <| .c (show true = true by with_reducible rfl) <| .n)).weak (WeakL.refl _) (Weak.agg (.cons (Weak.bool (show ((k == 6) : Bool) = (true) from (by (refine decide_eq_true ?_; omega)))) (.cons (Weak.bool (show ((k == 5) : Bool) = (false) from (by (refine decide_eq_false ?_; omega)))) (.cons (Weak.bool (show ((k == 3) : Bool) = (false) from (by (refine decide_eq_false ?_; omega)))) (.cons (.refl _) (.cons (Weak.bool (show ((k == 3) : Bool) = (false) from (by (refine decide_eq_false ?_; omega)))) (.cons (.refl _) .nil)))))))
theorem of_7 (k : Int) (h : k = 7) : VC Try.prog 165 ([i64 k]) (.agg [bv false, bv false, bv false, bv true, bv false, bv true]) := by
  have oz0 := (show (k == 1) = false by (refine decide_eq_false ?_; omega))
  have oz3 := (show (k == 2) = false by (refine decide_eq_false ?_; omega))
  have oz12 := (show (k == 4) = false by (refine decide_eq_false ?_; omega))
  have oz15 := (show (k == 3) = false by (refine decide_eq_false ?_; omega))
  have oz18 := (show (k == 6) = false by (refine decide_eq_false ?_; omega))
  have oz24 := (show (k == 7) = !false by (refine decide_eq_true ?_; omega))
  exact (VC.run (fn := Try.f165) (W := [.r [] [], .r [] [.br true, .br true, .br false, .br true, .br true, .br false], .r [] [.br true, .br true, .br false, .br true, .br true, .br false, .br true, .br true, .br false], .r [] [.br true, .br true, .br false, .br true, .br true, .br false], .r [] [.br true, .br true, .br false, .br false, .br false, .br true]]) (r := AV.agg [bv (k == 6), bv (k == 5), bv (k == 3), bv true, bv (k == 3), bv (k == 7)]) Try.func165 (by kernel_rfl) (.c oz0 <| .c oz0 <| .c oz0 <| .c oz3 <| .c oz3 <| .c oz3 <| .c oz0 <| .c oz0 <| .c oz0 <| .c oz3 <| .c oz3 <| .c oz3 <| .c oz12 <| .c oz12 <| .c oz12 <| .c oz15 <| .c oz15 <| .c oz15 <| .c oz18 <| .c oz18 <| .c oz18 <| .c oz0 <| .c oz0 <| .c oz0 <| .c oz24 <| .c oz24 <| .c (show (k == 7) = true by (refine decide_eq_true ?_; omega)) <| .n)).weak (WeakL.refl _) (Weak.agg (.cons (Weak.bool (show ((k == 6) : Bool) = (false) from (by (refine decide_eq_false ?_; omega)))) (.cons (Weak.bool (show ((k == 5) : Bool) = (false) from (by (refine decide_eq_false ?_; omega)))) (.cons (Weak.bool (show ((k == 3) : Bool) = (false) from (by (refine decide_eq_false ?_; omega)))) (.cons (.refl _) (.cons (Weak.bool (show ((k == 3) : Bool) = (false) from (by (refine decide_eq_false ?_; omega)))) (.cons (Weak.bool (show ((k == 7) : Bool) = (true) from (by (refine decide_eq_true ?_; omega)))) .nil)))))))
theorem of_8 (k : Int) (h : k = 8) : VC Try.prog 165 ([i64 k]) (.agg [bv false, bv false, bv false, bv true, bv false, bv false]) := by
  have oz0 := (show (k == 1) = false by (refine decide_eq_false ?_; omega))
  have oz3 := (show (k == 2) = false by (refine decide_eq_false ?_; omega))
  have oz12 := (show (k == 4) = false by (refine decide_eq_false ?_; omega))
  have oz15 := (show (k == 3) = false by (refine decide_eq_false ?_; omega))
  have oz18 := (show (k == 6) = false by (refine decide_eq_false ?_; omega))
  have oz24 := (show (k == 7) = false by (refine decide_eq_false ?_; omega))
  exact (VC.run (fn := Try.f165) (W := [.r [] [], .r [] [.br true, .br true, .br false, .br true, .br true, .br false], .r [] [.br true, .br true, .br false, .br true, .br true, .br false, .br true, .br true, .br false], .r [] [.br true, .br true, .br false, .br true, .br true, .br false], .r [] [.br true, .br true, .br false, .br true, .br true, .br false]]) (r := AV.agg [bv (k == 6), bv (k == 5), bv (k == 3), bv (k == 8), bv (k == 3), bv (k == 7)]) Try.func165 (by kernel_rfl) (.c oz0 <| .c oz0 <| .c oz0 <| .c oz3 <| .c oz3 <| .c oz3 <| .c oz0 <| .c oz0 <| .c oz0 <| .c oz3 <| .c oz3 <| .c oz3 <| .c oz12 <| .c oz12 <| .c oz12 <| .c oz15 <| .c oz15 <| .c oz15 <| .c oz18 <| .c oz18 <| .c oz18 <| .c oz0 <| .c oz0 <| .c oz0 <| .c oz24 <| .c oz24 <| .c oz24 <| .n)).weak (WeakL.refl _) (Weak.agg (.cons (Weak.bool (show ((k == 6) : Bool) = (false) from (by (refine decide_eq_false ?_; omega)))) (.cons (Weak.bool (show ((k == 5) : Bool) = (false) from (by (refine decide_eq_false ?_; omega)))) (.cons (Weak.bool (show ((k == 3) : Bool) = (false) from (by (refine decide_eq_false ?_; omega)))) (.cons (Weak.bool (show ((k == 8) : Bool) = (true) from (by (refine decide_eq_true ?_; omega)))) (.cons (Weak.bool (show ((k == 3) : Bool) = (false) from (by (refine decide_eq_false ?_; omega)))) (.cons (Weak.bool (show ((k == 7) : Bool) = (false) from (by (refine decide_eq_false ?_; omega)))) .nil)))))))
theorem of_9 (k : Int) (h : k < 1 ∨ 8 < k) : VC Try.prog 165 ([i64 k]) (.agg [bv false, bv false, bv false, bv false, bv false, bv false]) := by
  have oz0 := (show (k == 1) = false by (refine decide_eq_false ?_; omega))
  have oz3 := (show (k == 2) = false by (refine decide_eq_false ?_; omega))
  have oz12 := (show (k == 4) = false by (refine decide_eq_false ?_; omega))
  have oz15 := (show (k == 3) = false by (refine decide_eq_false ?_; omega))
  have oz18 := (show (k == 6) = false by (refine decide_eq_false ?_; omega))
  have oz24 := (show (k == 7) = false by (refine decide_eq_false ?_; omega))
  exact (VC.run (fn := Try.f165) (W := [.r [] [], .r [] [.br true, .br true, .br false, .br true, .br true, .br false], .r [] [.br true, .br true, .br false, .br true, .br true, .br false, .br true, .br true, .br false], .r [] [.br true, .br true, .br false, .br true, .br true, .br false], .r [] [.br true, .br true, .br false, .br true, .br true, .br false]]) (r := AV.agg [bv (k == 6), bv (k == 5), bv (k == 3), bv (k == 8), bv (k == 3), bv (k == 7)]) Try.func165 (by kernel_rfl) (.c oz0 <| .c oz0 <| .c oz0 <| .c oz3 <| .c oz3 <| .c oz3 <| .c oz0 <| .c oz0 <| .c oz0 <| .c oz3 <| .c oz3 <| .c oz3 <| .c oz12 <| .c oz12 <| .c oz12 <| .c oz15 <| .c oz15 <| .c oz15 <| .c oz18 <| .c oz18 <| .c oz18 <| .c oz0 <| .c oz0 <| .c oz0 <| .c oz24 <| .c oz24 <| .c oz24 <| .n)).weak (WeakL.refl _) (Weak.agg (.cons (Weak.bool (show ((k == 6) : Bool) = (false) from (by (refine decide_eq_false ?_; omega)))) (.cons (Weak.bool (show ((k == 5) : Bool) = (false) from (by (refine decide_eq_false ?_; omega)))) (.cons (Weak.bool (show ((k == 3) : Bool) = (false) from (by (refine decide_eq_false ?_; omega)))) (.cons (Weak.bool (show ((k == 8) : Bool) = (false) from (by (refine decide_eq_false ?_; omega)))) (.cons (Weak.bool (show ((k == 3) : Bool) = (false) from (by (refine decide_eq_false ?_; omega)))) (.cons (Weak.bool (show ((k == 7) : Bool) = (false) from (by (refine decide_eq_false ?_; omega)))) .nil)))))))
end Go.Proofs.Ytgecmooedhnenaa
/- Lists and scales of a taker. No condition. -/
namespace Go.Proofs.Ytgecmooedhnenaa
open Go.RowKit
set_option linter.unusedSimpArgs false
set_option linter.unusedVariables false
set_option linter.unnecessarySimpa false
theorem tlists_0 (s : Rst) (n : Nod) (h : s.In) : VM Try.prog 168 ([.ifc 169 (.agg [.ptr 100000 0 0]), .ptr 100001 0 9, .ptr 100001 0 10]) ([(100000, .var (rdC s)), (100001, .var (nodC n))]) (.tup []) ([(100000, .var (rdC (widS (cntS (smlS (cntS s 16384) (cntV s 16384)) 16384) (cntV (smlS (cntS s 16384) (cntV s 16384)) 16384)))), (100001, .var (nodC { n with w := smlV (cntS s 16384) (cntV s 16384), b := widV (cntS (smlS (cntS s 16384) (cntV s 16384)) 16384) (cntV (smlS (cntS s 16384) (cntV s 16384)) 16384) }))]) := by
  have oz0 := @tnum_1 (s) ((↑(List.map (row1 IntKind.i8) n.w).length : Int)) (16384) h (by omega) (by omega)
  have oz1 := (show MethodIs Try.prog (169 : Nat) "stepwell/pack.number" (methF Try.prog (169 : Nat) "stepwell/pack.number") from (methodIs (by kernel_rfl)))
  have oz2 := @tsml_w (cntS s 16384) (n) (cntV s 16384) (by (repeat first | exact h | apply cnt_in | apply sml_in))
  have oz4 := @tnum_1 (smlS (cntS s 16384) (cntV s 16384)) ((↑(List.map (row1 IntKind.i32) n.b).length : Int)) (16384) (by (repeat first | exact h | apply cnt_in | apply sml_in)) (by omega) (by omega)
  have oz6 := @twid_b (cntS (smlS (cntS s 16384) (cntV s 16384)) 16384) (Nod.mk n.kd n.na n.nb n.nk n.ns n.np n.no n.za n.zb (smlV (cntS s 16384) (cntV s 16384)) n.b n.qm n.qs n.qz n.rm n.rs n.rz n.lo n.hi) (cntV (smlS (cntS s 16384) (cntV s 16384)) 16384) (by (repeat first | exact h | apply cnt_in | apply sml_in))
  exact VM.run (fn := Try.f168) (W := [.r [] [], .r [] [.callm [(100000, 100000), (6, 100001)] [] (rM oz0) (oM oz0)], .r [] [.callm [(100000, 100000), (100001, 100001)] [] (rM oz2) (oM oz2)], .r [] [], .r [] [.callm [(100000, 100000), (7, 100001)] [] (rM oz4) (oM oz4)], .r [] [.callm [(100000, 100000), (100001, 100001)] [] (rM oz6) (oM oz6)]]) (G := [.drop [6, 7], .sort]) Try.func168 (by kernel_rfl) (.c oz0 <| .c oz1 <| .c oz2 <| .c (show MethodIs Try.prog (169 : Nat) "stepwell/pack.small" (methF Try.prog (169 : Nat) "stepwell/pack.small") from (methodIs (by kernel_rfl))) <| .c oz4 <| .c oz1 <| .c oz6 <| .c (show MethodIs Try.prog (169 : Nat) "stepwell/pack.wides" (methF Try.prog (169 : Nat) "stepwell/pack.wides") from (methodIs (by kernel_rfl))) <| .n)
theorem tscale_q (s : Rst) (n : Nod) (h : s.In) : VM Try.prog 169 ([.ifc 169 (.agg [.ptr 100000 0 0]), .ptr 100001 0 11]) ([(100000, .var (rdC s)), (100001, .var (nodC n))]) (.tup []) ([(100000, .var (rdC (cntS (cntS s 2147483647) 62))), (100001, .var (nodC { n with qm := cntV s 2147483647, qs := cntV (cntS s 2147483647) 62 }))]) := by
  have q := @cntV_rng s 2147483647 h (by decide)
  have oz0 := @tnum_1 (s) (IntKind.i64.wrap n.qm) (2147483647) h (by omega) (by omega)
  have oz1 := (show MethodIs Try.prog (169 : Nat) "stepwell/pack.number" (methF Try.prog (169 : Nat) "stepwell/pack.number") from (methodIs (by kernel_rfl)))
  have oz4 := @tnum_qs (cntS s 2147483647) (Nod.mk n.kd n.na n.nb n.nk n.ns n.np n.no n.za n.zb n.w n.b (cntV s 2147483647) n.qs n.qz n.rm n.rs n.rz n.lo n.hi) (62) (by (repeat first | exact h | apply cnt_in | apply sml_in)) (by omega) (by omega)
  exact VM.run (fn := Try.f169) (W := [.r [] [.w], .r [] [.callm [(100000, 100000), (4, 100001)] [] (rM oz0) (oM oz0)], .r [] [.n (cntV s 2147483647)], .r [] [.callm [(100000, 100000), (100001, 100001)] [] (rM oz4) (oM oz4)]]) (G := [.drop [4], .sort]) Try.func169 (by kernel_rfl) (.c oz0 <| .c oz1 <| .c (IntWalk.i32_in (cntV s 2147483647) (by omega)) <| .c (show NilNo Try.prog (169 : Nat) "stepwell/pack.number" from (nilNo (f := 119) (by kernel_rfl))) <| .c oz4 <| .c oz1 <| .n)
theorem tscale_r (s : Rst) (n : Nod) (h : s.In) : VM Try.prog 169 ([.ifc 169 (.agg [.ptr 100000 0 0]), .ptr 100001 0 14]) ([(100000, .var (rdC s)), (100001, .var (nodC n))]) (.tup []) ([(100000, .var (rdC (cntS (cntS s 2147483647) 62))), (100001, .var (nodC { n with rm := cntV s 2147483647, rs := cntV (cntS s 2147483647) 62 }))]) := by
  have q := @cntV_rng s 2147483647 h (by decide)
  have oz0 := @tnum_1 (s) (IntKind.i64.wrap n.rm) (2147483647) h (by omega) (by omega)
  have oz1 := (show MethodIs Try.prog (169 : Nat) "stepwell/pack.number" (methF Try.prog (169 : Nat) "stepwell/pack.number") from (methodIs (by kernel_rfl)))
  have oz4 := @tnum_rs (cntS s 2147483647) (Nod.mk n.kd n.na n.nb n.nk n.ns n.np n.no n.za n.zb n.w n.b n.qm n.qs n.qz (cntV s 2147483647) n.rs n.rz n.lo n.hi) (62) (by (repeat first | exact h | apply cnt_in | apply sml_in)) (by omega) (by omega)
  exact VM.run (fn := Try.f169) (W := [.r [] [.w], .r [] [.callm [(100000, 100000), (4, 100001)] [] (rM oz0) (oM oz0)], .r [] [.n (cntV s 2147483647)], .r [] [.callm [(100000, 100000), (100001, 100001)] [] (rM oz4) (oM oz4)]]) (G := [.drop [4], .sort]) Try.func169 (by kernel_rfl) (.c oz0 <| .c oz1 <| .c (IntWalk.i32_in (cntV s 2147483647) (by omega)) <| .c (show NilNo Try.prog (169 : Nat) "stepwell/pack.number" from (nilNo (f := 119) (by kernel_rfl))) <| .c oz4 <| .c oz1 <| .n)
end Go.Proofs.Ytgecmooedhnenaa
/- The closure of pack.sides. No condition. -/
namespace Go.Proofs.Ytgecmooedhnenaa
open Go.RowKit
set_option linter.unusedSimpArgs false
set_option linter.unusedVariables false
set_option linter.unnecessarySimpa false
theorem tside_nb (s : Rst) (n : Nod) (h : s.In) : VM Try.prog 209 ([bv true, .ptr 100001 0 2, .ptr 100002 0 0]) ([(100000, .var (rdC s)), (100001, .var (nodC n)), (100002, .var [.ifc 169 (.agg [.ptr 100000 0 0])])]) (.tup []) ([(100000, .var (rdC (cntS s 1024))), (100001, .var (nodC { n with nb := cntV s 1024 })), (100002, .var [.ifc 169 (.agg [.ptr 100000 0 0])])]) := by
  have oz1 := @tnum_nb (s) (n) (1024) h (by omega) (by omega)
  exact VM.run (fn := Try.f209) (W := [.r [] [], .br true, .r [] [.callm [(100000, 100000), (100001, 100001)] [] (rM oz1) (oM oz1)]]) (G := [.sort]) Try.func209 (by kernel_rfl) (.c (show true = true by with_reducible rfl) <| .c oz1 <| .c (show MethodIs Try.prog (169 : Nat) "stepwell/pack.number" (methF Try.prog (169 : Nat) "stepwell/pack.number") from (methodIs (by kernel_rfl))) <| .n)
theorem lside_nb (B : List Int) (L : Int → List Int) (n : Nod) (hB : B.length ≤ 1000000) (hL : Puts L) : VM Try.prog 209 ([bv true, .ptr 100001 0 2, .ptr 100002 0 0]) ([(950, .slc 5 1 (B.map (row1 .u8))), (100000, .var [.own 950]), (100001, .var (nodC n)), (100002, .var [.ifc 160 (.ptr 100000 0 0)])]) (.tup []) ([(951, .slc 5 1 ((B ++ L n.nb).map (row1 .u8))), (100000, .var [.own 951]), (100001, .var (nodC n)), (100002, .var [.ifc 160 (.ptr 100000 0 0)])]) := by
  have oz1 := @lnum_nb (B) (L) (n) (1024) hB hL
  exact VM.run (fn := Try.f209) (W := [.r [] [], .br true, .r [] [.callm [(950, 950), (100000, 100000), (100001, 100001)] [(951, 20000)] (rM oz1) (oM oz1)]]) (G := [.ren 20000 951, .sort]) Try.func209 (by kernel_rfl) (.c (show true = true by with_reducible rfl) <| .c oz1 <| .c (show MethodIs Try.prog (160 : Nat) "stepwell/pack.number" (methF Try.prog (160 : Nat) "stepwell/pack.number") from (methodIs (by kernel_rfl))) <| .n)
theorem tside_nk (s : Rst) (n : Nod) (h : s.In) : VM Try.prog 209 ([bv true, .ptr 100001 0 3, .ptr 100002 0 0]) ([(100000, .var (rdC s)), (100001, .var (nodC n)), (100002, .var [.ifc 169 (.agg [.ptr 100000 0 0])])]) (.tup []) ([(100000, .var (rdC (cntS s 1024))), (100001, .var (nodC { n with nk := cntV s 1024 })), (100002, .var [.ifc 169 (.agg [.ptr 100000 0 0])])]) := by
  have oz1 := @tnum_nk (s) (n) (1024) h (by omega) (by omega)
  exact VM.run (fn := Try.f209) (W := [.r [] [], .br true, .r [] [.callm [(100000, 100000), (100001, 100001)] [] (rM oz1) (oM oz1)]]) (G := [.sort]) Try.func209 (by kernel_rfl) (.c (show true = true by with_reducible rfl) <| .c oz1 <| .c (show MethodIs Try.prog (169 : Nat) "stepwell/pack.number" (methF Try.prog (169 : Nat) "stepwell/pack.number") from (methodIs (by kernel_rfl))) <| .n)
theorem lside_nk (B : List Int) (L : Int → List Int) (n : Nod) (hB : B.length ≤ 1000000) (hL : Puts L) : VM Try.prog 209 ([bv true, .ptr 100001 0 3, .ptr 100002 0 0]) ([(950, .slc 5 1 (B.map (row1 .u8))), (100000, .var [.own 950]), (100001, .var (nodC n)), (100002, .var [.ifc 160 (.ptr 100000 0 0)])]) (.tup []) ([(951, .slc 5 1 ((B ++ L n.nk).map (row1 .u8))), (100000, .var [.own 951]), (100001, .var (nodC n)), (100002, .var [.ifc 160 (.ptr 100000 0 0)])]) := by
  have oz1 := @lnum_nk (B) (L) (n) (1024) hB hL
  exact VM.run (fn := Try.f209) (W := [.r [] [], .br true, .r [] [.callm [(950, 950), (100000, 100000), (100001, 100001)] [(951, 20000)] (rM oz1) (oM oz1)]]) (G := [.ren 20000 951, .sort]) Try.func209 (by kernel_rfl) (.c (show true = true by with_reducible rfl) <| .c oz1 <| .c (show MethodIs Try.prog (160 : Nat) "stepwell/pack.number" (methF Try.prog (160 : Nat) "stepwell/pack.number") from (methodIs (by kernel_rfl))) <| .n)
theorem tside_ns (s : Rst) (n : Nod) (h : s.In) : VM Try.prog 209 ([bv true, .ptr 100001 0 4, .ptr 100002 0 0]) ([(100000, .var (rdC s)), (100001, .var (nodC n)), (100002, .var [.ifc 169 (.agg [.ptr 100000 0 0])])]) (.tup []) ([(100000, .var (rdC (cntS s 1024))), (100001, .var (nodC { n with ns := cntV s 1024 })), (100002, .var [.ifc 169 (.agg [.ptr 100000 0 0])])]) := by
  have oz1 := @tnum_ns (s) (n) (1024) h (by omega) (by omega)
  exact VM.run (fn := Try.f209) (W := [.r [] [], .br true, .r [] [.callm [(100000, 100000), (100001, 100001)] [] (rM oz1) (oM oz1)]]) (G := [.sort]) Try.func209 (by kernel_rfl) (.c (show true = true by with_reducible rfl) <| .c oz1 <| .c (show MethodIs Try.prog (169 : Nat) "stepwell/pack.number" (methF Try.prog (169 : Nat) "stepwell/pack.number") from (methodIs (by kernel_rfl))) <| .n)
theorem lside_ns (B : List Int) (L : Int → List Int) (n : Nod) (hB : B.length ≤ 1000000) (hL : Puts L) : VM Try.prog 209 ([bv true, .ptr 100001 0 4, .ptr 100002 0 0]) ([(950, .slc 5 1 (B.map (row1 .u8))), (100000, .var [.own 950]), (100001, .var (nodC n)), (100002, .var [.ifc 160 (.ptr 100000 0 0)])]) (.tup []) ([(951, .slc 5 1 ((B ++ L n.ns).map (row1 .u8))), (100000, .var [.own 951]), (100001, .var (nodC n)), (100002, .var [.ifc 160 (.ptr 100000 0 0)])]) := by
  have oz1 := @lnum_ns (B) (L) (n) (1024) hB hL
  exact VM.run (fn := Try.f209) (W := [.r [] [], .br true, .r [] [.callm [(950, 950), (100000, 100000), (100001, 100001)] [(951, 20000)] (rM oz1) (oM oz1)]]) (G := [.ren 20000 951, .sort]) Try.func209 (by kernel_rfl) (.c (show true = true by with_reducible rfl) <| .c oz1 <| .c (show MethodIs Try.prog (160 : Nat) "stepwell/pack.number" (methF Try.prog (160 : Nat) "stepwell/pack.number") from (methodIs (by kernel_rfl))) <| .n)
theorem tside_np (s : Rst) (n : Nod) (h : s.In) : VM Try.prog 209 ([bv true, .ptr 100001 0 5, .ptr 100002 0 0]) ([(100000, .var (rdC s)), (100001, .var (nodC n)), (100002, .var [.ifc 169 (.agg [.ptr 100000 0 0])])]) (.tup []) ([(100000, .var (rdC (cntS s 1024))), (100001, .var (nodC { n with np := cntV s 1024 })), (100002, .var [.ifc 169 (.agg [.ptr 100000 0 0])])]) := by
  have oz1 := @tnum_np (s) (n) (1024) h (by omega) (by omega)
  exact VM.run (fn := Try.f209) (W := [.r [] [], .br true, .r [] [.callm [(100000, 100000), (100001, 100001)] [] (rM oz1) (oM oz1)]]) (G := [.sort]) Try.func209 (by kernel_rfl) (.c (show true = true by with_reducible rfl) <| .c oz1 <| .c (show MethodIs Try.prog (169 : Nat) "stepwell/pack.number" (methF Try.prog (169 : Nat) "stepwell/pack.number") from (methodIs (by kernel_rfl))) <| .n)
theorem lside_np (B : List Int) (L : Int → List Int) (n : Nod) (hB : B.length ≤ 1000000) (hL : Puts L) : VM Try.prog 209 ([bv true, .ptr 100001 0 5, .ptr 100002 0 0]) ([(950, .slc 5 1 (B.map (row1 .u8))), (100000, .var [.own 950]), (100001, .var (nodC n)), (100002, .var [.ifc 160 (.ptr 100000 0 0)])]) (.tup []) ([(951, .slc 5 1 ((B ++ L n.np).map (row1 .u8))), (100000, .var [.own 951]), (100001, .var (nodC n)), (100002, .var [.ifc 160 (.ptr 100000 0 0)])]) := by
  have oz1 := @lnum_np (B) (L) (n) (1024) hB hL
  exact VM.run (fn := Try.f209) (W := [.r [] [], .br true, .r [] [.callm [(950, 950), (100000, 100000), (100001, 100001)] [(951, 20000)] (rM oz1) (oM oz1)]]) (G := [.ren 20000 951, .sort]) Try.func209 (by kernel_rfl) (.c (show true = true by with_reducible rfl) <| .c oz1 <| .c (show MethodIs Try.prog (160 : Nat) "stepwell/pack.number" (methF Try.prog (160 : Nat) "stepwell/pack.number") from (methodIs (by kernel_rfl))) <| .n)
theorem tside_no (s : Rst) (n : Nod) (h : s.In) : VM Try.prog 209 ([bv true, .ptr 100001 0 6, .ptr 100002 0 0]) ([(100000, .var (rdC s)), (100001, .var (nodC n)), (100002, .var [.ifc 169 (.agg [.ptr 100000 0 0])])]) (.tup []) ([(100000, .var (rdC (cntS s 1024))), (100001, .var (nodC { n with no := cntV s 1024 })), (100002, .var [.ifc 169 (.agg [.ptr 100000 0 0])])]) := by
  have oz1 := @tnum_no (s) (n) (1024) h (by omega) (by omega)
  exact VM.run (fn := Try.f209) (W := [.r [] [], .br true, .r [] [.callm [(100000, 100000), (100001, 100001)] [] (rM oz1) (oM oz1)]]) (G := [.sort]) Try.func209 (by kernel_rfl) (.c (show true = true by with_reducible rfl) <| .c oz1 <| .c (show MethodIs Try.prog (169 : Nat) "stepwell/pack.number" (methF Try.prog (169 : Nat) "stepwell/pack.number") from (methodIs (by kernel_rfl))) <| .n)
theorem lside_no (B : List Int) (L : Int → List Int) (n : Nod) (hB : B.length ≤ 1000000) (hL : Puts L) : VM Try.prog 209 ([bv true, .ptr 100001 0 6, .ptr 100002 0 0]) ([(950, .slc 5 1 (B.map (row1 .u8))), (100000, .var [.own 950]), (100001, .var (nodC n)), (100002, .var [.ifc 160 (.ptr 100000 0 0)])]) (.tup []) ([(951, .slc 5 1 ((B ++ L n.no).map (row1 .u8))), (100000, .var [.own 951]), (100001, .var (nodC n)), (100002, .var [.ifc 160 (.ptr 100000 0 0)])]) := by
  have oz1 := @lnum_no (B) (L) (n) (1024) hB hL
  exact VM.run (fn := Try.f209) (W := [.r [] [], .br true, .r [] [.callm [(950, 950), (100000, 100000), (100001, 100001)] [(951, 20000)] (rM oz1) (oM oz1)]]) (G := [.ren 20000 951, .sort]) Try.func209 (by kernel_rfl) (.c (show true = true by with_reducible rfl) <| .c oz1 <| .c (show MethodIs Try.prog (160 : Nat) "stepwell/pack.number" (methF Try.prog (160 : Nat) "stepwell/pack.number") from (methodIs (by kernel_rfl))) <| .n)
theorem side_n   : VM Try.prog 209 ([bv false, .any, .any]) ([]) (.tup []) ([]) := by
  exact VM.run (fn := Try.f209) (W := [.r [] [], .br false]) (G := [.sort]) Try.func209 (by kernel_rfl) (.c (show false = false by with_reducible rfl) <| .n)
end Go.Proofs.Ytgecmooedhnenaa
/- One number of a byte, by the layer. No condition. -/
namespace Go.Proofs.Ytgecmooedhnenaa
open Go.RowKit
set_option linter.unusedSimpArgs false
set_option linter.unusedVariables false
set_option linter.unnecessarySimpa false
theorem small1 (x : Int) : smallL [x] = [IntKind.u8.wrap x] := by simp [smallL, IntKind.wrap_u8']
theorem lsml_1 (B : List Int) (x m : Int) (hB : B.length ≤ 1000000) : VM Try.prog 256 ([.ptr 100000 0 0, .ptr 100001 0 0, i64 m]) ([(950, .slc 5 1 (B.map (row1 .u8))), (951, .slc 30 1 ([x].map (row1 .i8))), (100000, .var [.own 950]), (100001, .var [.own 951])]) (.tup []) ([(951, .slc 5 1 ((B ++ [IntKind.u8.wrap x]).map (row1 .u8))), (100000, .var [.own 951]), (100001, .var [.sl 1 ([x].map (row1 .i8))])]) := by
  have e1 := small1 x
  have oz1 := @small_v ([x]) (by (simp; done))
  exact VM.run (fn := Try.f256) (W := [.r [.frz 951] [.call (aO oz1) (rO oz1)]]) (G := [.ren 15 951, .blk 951 (Blk.slc 5 1 (List.map (row1 IntKind.u8) (B ++ [IntKind.u8.wrap x]))), .sort]) Try.func256 (by kernel_rfl) (.c (show WeakL [AV.sl 1 [[i8 x]]] [AV.sl 1 [[i8 x]]] from (.cons (Weak.rows (rows_to (row1 IntKind.i8) (r := [[i8 x]]) (l := [x]) (m := [x]) (by first | (simp only [List.map_append, List.map_cons, List.map_nil, List.map_set, List.map_replicate, List.map_take, List.map_drop]; done) | rfl | (simp only [List.map_append, List.map_cons, List.map_nil, List.map_set, List.map_replicate, List.map_take, List.map_drop]; rfl)) rfl)) .nil)) <| .c oz1 <| .c (show ((List.map (row1 IntKind.u8) B).length + 1) * 1 ≤ 140737488355328 by (simp only [List.length_map]; omega)) <| .c (show (List.map (row1 IntKind.u8) B).length + 1 ≤ 9223372036854775807 by (simp only [List.length_map]; omega)) <| .c (show BlkW (Blk.slc 5 1 (List.map (row1 IntKind.u8) B ++ [[u8 (x % 256)]])) (Blk.slc 5 1 (List.map (row1 IntKind.u8) (B ++ [IntKind.u8.wrap x]))) from (BlkW.rows (e := 5) (z := 1) (rows_to (row1 IntKind.u8) (r := List.map (row1 IntKind.u8) B ++ [[u8 (x % 256)]]) (l := B ++ [x % 256]) (m := B ++ [IntKind.u8.wrap x]) (by first | (simp only [List.map_append, List.map_cons, List.map_nil, List.map_set, List.map_replicate, List.map_take, List.map_drop]; done) | rfl | (simp only [List.map_append, List.map_cons, List.map_nil, List.map_set, List.map_replicate, List.map_take, List.map_drop]; rfl)) (show (B ++ [x % 256]) = (B ++ [IntKind.u8.wrap x]) from (by (simp [IntKind.wrap_u8']; done)))))) <| .n)
theorem lone_za (B : List Int) (n : Nod) (hB : B.length ≤ 1000000) : VM Try.prog 167 ([.ifc 160 (.ptr 100000 0 0), .ptr 100001 0 7]) ([(950, .slc 5 1 (B.map (row1 .u8))), (100000, .var [.own 950]), (100001, .var (nodC n))]) (.tup []) ([(951, .slc 5 1 ((B ++ [IntKind.u8.wrap n.za]).map (row1 .u8))), (100000, .var [.own 951]), (100001, .var (nodC n))]) := by
  have oz0 := @lsml_1 (B) (n.za) (1) hB
  exact VM.run (fn := Try.f167) (W := [.r [] [], .r [] [.callm [(950, 950), (8, 951), (100000, 100000), (4, 100001)] [(951, 20000)] (rM oz0) (oM oz0)], .r [] [], .br true, .r [] [.row [i8 n.za]]]) (G := [.drop [4], .ren 20000 951, .sort]) Try.func167 (by kernel_rfl) (.c oz0 <| .c (show MethodIs Try.prog (160 : Nat) "stepwell/pack.small" (methF Try.prog (160 : Nat) "stepwell/pack.small") from (methodIs (by kernel_rfl))) <| .c (show ((↑1 : Int) == 1) = true by (refine decide_eq_true ?_; omega)) <| .c (show (0 : Int) ≤ (0 : Int) by omega) <| .c (show [[i8 n.za]][Int.toNat 0]? = some [i8 n.za] from rfl) <| .n)
theorem lone_zb (B : List Int) (n : Nod) (hB : B.length ≤ 1000000) : VM Try.prog 167 ([.ifc 160 (.ptr 100000 0 0), .ptr 100001 0 8]) ([(950, .slc 5 1 (B.map (row1 .u8))), (100000, .var [.own 950]), (100001, .var (nodC n))]) (.tup []) ([(951, .slc 5 1 ((B ++ [IntKind.u8.wrap n.zb]).map (row1 .u8))), (100000, .var [.own 951]), (100001, .var (nodC n))]) := by
  have oz0 := @lsml_1 (B) (n.zb) (1) hB
  exact VM.run (fn := Try.f167) (W := [.r [] [], .r [] [.callm [(950, 950), (8, 951), (100000, 100000), (4, 100001)] [(951, 20000)] (rM oz0) (oM oz0)], .r [] [], .br true, .r [] [.row [i8 n.zb]]]) (G := [.drop [4], .ren 20000 951, .sort]) Try.func167 (by kernel_rfl) (.c oz0 <| .c (show MethodIs Try.prog (160 : Nat) "stepwell/pack.small" (methF Try.prog (160 : Nat) "stepwell/pack.small") from (methodIs (by kernel_rfl))) <| .c (show ((↑1 : Int) == 1) = true by (refine decide_eq_true ?_; omega)) <| .c (show (0 : Int) ≤ (0 : Int) by omega) <| .c (show [[i8 n.zb]][Int.toNat 0]? = some [i8 n.zb] from rfl) <| .n)
theorem lone_qz (B : List Int) (n : Nod) (hB : B.length ≤ 1000000) : VM Try.prog 167 ([.ifc 160 (.ptr 100000 0 0), .ptr 100001 0 13]) ([(950, .slc 5 1 (B.map (row1 .u8))), (100000, .var [.own 950]), (100001, .var (nodC n))]) (.tup []) ([(951, .slc 5 1 ((B ++ [IntKind.u8.wrap n.qz]).map (row1 .u8))), (100000, .var [.own 951]), (100001, .var (nodC n))]) := by
  have oz0 := @lsml_1 (B) (n.qz) (1) hB
  exact VM.run (fn := Try.f167) (W := [.r [] [], .r [] [.callm [(950, 950), (8, 951), (100000, 100000), (4, 100001)] [(951, 20000)] (rM oz0) (oM oz0)], .r [] [], .br true, .r [] [.row [i8 n.qz]]]) (G := [.drop [4], .ren 20000 951, .sort]) Try.func167 (by kernel_rfl) (.c oz0 <| .c (show MethodIs Try.prog (160 : Nat) "stepwell/pack.small" (methF Try.prog (160 : Nat) "stepwell/pack.small") from (methodIs (by kernel_rfl))) <| .c (show ((↑1 : Int) == 1) = true by (refine decide_eq_true ?_; omega)) <| .c (show (0 : Int) ≤ (0 : Int) by omega) <| .c (show [[i8 n.qz]][Int.toNat 0]? = some [i8 n.qz] from rfl) <| .n)
theorem lone_lo (B : List Int) (n : Nod) (hB : B.length ≤ 1000000) : VM Try.prog 167 ([.ifc 160 (.ptr 100000 0 0), .ptr 100001 0 17]) ([(950, .slc 5 1 (B.map (row1 .u8))), (100000, .var [.own 950]), (100001, .var (nodC n))]) (.tup []) ([(951, .slc 5 1 ((B ++ [IntKind.u8.wrap n.lo]).map (row1 .u8))), (100000, .var [.own 951]), (100001, .var (nodC n))]) := by
  have oz0 := @lsml_1 (B) (n.lo) (1) hB
  exact VM.run (fn := Try.f167) (W := [.r [] [], .r [] [.callm [(950, 950), (8, 951), (100000, 100000), (4, 100001)] [(951, 20000)] (rM oz0) (oM oz0)], .r [] [], .br true, .r [] [.row [i8 n.lo]]]) (G := [.drop [4], .ren 20000 951, .sort]) Try.func167 (by kernel_rfl) (.c oz0 <| .c (show MethodIs Try.prog (160 : Nat) "stepwell/pack.small" (methF Try.prog (160 : Nat) "stepwell/pack.small") from (methodIs (by kernel_rfl))) <| .c (show ((↑1 : Int) == 1) = true by (refine decide_eq_true ?_; omega)) <| .c (show (0 : Int) ≤ (0 : Int) by omega) <| .c (show [[i8 n.lo]][Int.toNat 0]? = some [i8 n.lo] from rfl) <| .n)
theorem lone_hi (B : List Int) (n : Nod) (hB : B.length ≤ 1000000) : VM Try.prog 167 ([.ifc 160 (.ptr 100000 0 0), .ptr 100001 0 18]) ([(950, .slc 5 1 (B.map (row1 .u8))), (100000, .var [.own 950]), (100001, .var (nodC n))]) (.tup []) ([(951, .slc 5 1 ((B ++ [IntKind.u8.wrap n.hi]).map (row1 .u8))), (100000, .var [.own 951]), (100001, .var (nodC n))]) := by
  have oz0 := @lsml_1 (B) (n.hi) (1) hB
  exact VM.run (fn := Try.f167) (W := [.r [] [], .r [] [.callm [(950, 950), (8, 951), (100000, 100000), (4, 100001)] [(951, 20000)] (rM oz0) (oM oz0)], .r [] [], .br true, .r [] [.row [i8 n.hi]]]) (G := [.drop [4], .ren 20000 951, .sort]) Try.func167 (by kernel_rfl) (.c oz0 <| .c (show MethodIs Try.prog (160 : Nat) "stepwell/pack.small" (methF Try.prog (160 : Nat) "stepwell/pack.small") from (methodIs (by kernel_rfl))) <| .c (show ((↑1 : Int) == 1) = true by (refine decide_eq_true ?_; omega)) <| .c (show (0 : Int) ≤ (0 : Int) by omega) <| .c (show [[i8 n.hi]][Int.toNat 0]? = some [i8 n.hi] from rfl) <| .n)
end Go.Proofs.Ytgecmooedhnenaa
/- Scales and lists, by the layer. No condition. -/
namespace Go.Proofs.Ytgecmooedhnenaa
open Go.RowKit
set_option linter.unusedSimpArgs false
set_option linter.unusedVariables false
set_option linter.unnecessarySimpa false
theorem lscale_q (B : List Int) (L : Int → List Int) (n : Nod) (hB : B.length ≤ 900000) (hL : Puts L) (hq : In32 n.qm) : VM Try.prog 169 ([.ifc 160 (.ptr 100000 0 0), .ptr 100001 0 11]) ([(950, .slc 5 1 (B.map (row1 .u8))), (100000, .var [.own 950]), (100001, .var (nodC n))]) (.tup []) ([(951, .slc 5 1 ((B ++ L n.qm ++ L n.qs).map (row1 .u8))), (100000, .var [.own 951]), (100001, .var (nodC n))]) := by
  have q1 := hL.l n.qm
  have q2 : (B ++ L n.qm).length = B.length + (L n.qm).length := List.length_append
  have oz1 := @lnum_1 (B) (L) (n.qm) (2147483647) (by omega) hL
  have oz2 := (show MethodIs Try.prog (160 : Nat) "stepwell/pack.number" (methF Try.prog (160 : Nat) "stepwell/pack.number") from (methodIs (by kernel_rfl)))
  have oz5 := @lnum_qs (B ++ L n.qm) (L) (n) (62) (by omega) hL
  exact VM.run (fn := Try.f169) (W := [.r [] [.n n.qm], .r [] [.callm [(950, 950), (100000, 100000), (4, 100001)] [(951, 20000)] (rM oz1) (oM oz1)], .r [] [.n n.qm], .r [] [.callm [(20000, 950), (100000, 100000), (100001, 100001)] [(951, 20001)] (rM oz5) (oM oz5)]]) (G := [.drop [4], .ren 20001 951, .sort]) Try.func169 (by kernel_rfl) (.c (IntWalk.i64_in n.qm (by omega)) <| .c oz1 <| .c oz2 <| .c (IntWalk.i32_in n.qm (by omega)) <| .c (show NilNo Try.prog (160 : Nat) "stepwell/pack.number" from (nilNo (f := 114) (by kernel_rfl))) <| .c oz5 <| .c oz2 <| .n)
theorem lscale_r (B : List Int) (L : Int → List Int) (n : Nod) (hB : B.length ≤ 900000) (hL : Puts L) (hq : In32 n.rm) : VM Try.prog 169 ([.ifc 160 (.ptr 100000 0 0), .ptr 100001 0 14]) ([(950, .slc 5 1 (B.map (row1 .u8))), (100000, .var [.own 950]), (100001, .var (nodC n))]) (.tup []) ([(951, .slc 5 1 ((B ++ L n.rm ++ L n.rs).map (row1 .u8))), (100000, .var [.own 951]), (100001, .var (nodC n))]) := by
  have q1 := hL.l n.rm
  have q2 : (B ++ L n.rm).length = B.length + (L n.rm).length := List.length_append
  have oz1 := @lnum_1 (B) (L) (n.rm) (2147483647) (by omega) hL
  have oz2 := (show MethodIs Try.prog (160 : Nat) "stepwell/pack.number" (methF Try.prog (160 : Nat) "stepwell/pack.number") from (methodIs (by kernel_rfl)))
  have oz5 := @lnum_rs (B ++ L n.rm) (L) (n) (62) (by omega) hL
  exact VM.run (fn := Try.f169) (W := [.r [] [.n n.rm], .r [] [.callm [(950, 950), (100000, 100000), (4, 100001)] [(951, 20000)] (rM oz1) (oM oz1)], .r [] [.n n.rm], .r [] [.callm [(20000, 950), (100000, 100000), (100001, 100001)] [(951, 20001)] (rM oz5) (oM oz5)]]) (G := [.drop [4], .ren 20001 951, .sort]) Try.func169 (by kernel_rfl) (.c (IntWalk.i64_in n.rm (by omega)) <| .c oz1 <| .c oz2 <| .c (IntWalk.i32_in n.rm (by omega)) <| .c (show NilNo Try.prog (160 : Nat) "stepwell/pack.number" from (nilNo (f := 114) (by kernel_rfl))) <| .c oz5 <| .c oz2 <| .n)
theorem llists_v (B : List Int) (L : Int → List Int) (n : Nod) (hB : B.length ≤ 500000) (hL : Puts L) (hw : n.w.length ≤ 100000) (hb : n.b.length ≤ 16384) (hx : ∀ x ∈ n.b, -2147483648 ≤ x ∧ x ≤ 2147483647) : VM Try.prog 168 ([.ifc 160 (.ptr 100000 0 0), .ptr 100001 0 9, .ptr 100001 0 10]) ([(950, .slc 5 1 (B.map (row1 .u8))), (100000, .var [.own 950]), (100001, .var (nodC n))]) (.tup []) ([(951, .slc 5 1 ((B ++ L (n.w.length : Int) ++ smallL n.w ++ L (n.b.length : Int) ++ wideL n.b).map (row1 .u8))), (100000, .var [.own 951]), (100001, .var (nodC n))]) := by
  have q1 := hL.l (n.w.length : Int)
  have q3 := hL.l (n.b.length : Int)
  have q2 : (smallL n.w).length = n.w.length := List.length_map _
  have q4 : (B ++ L (n.w.length : Int)).length = B.length + (L (n.w.length : Int)).length := List.length_append
  have q5 : (B ++ L (n.w.length : Int) ++ smallL n.w).length = B.length + (L (n.w.length : Int)).length + n.w.length := by rw [List.length_append, q4, q2]
  have q6 : (B ++ L (n.w.length : Int) ++ smallL n.w ++ L (n.b.length : Int)).length = B.length + (L (n.w.length : Int)).length + n.w.length + (L (n.b.length : Int)).length := by rw [List.length_append, q5]
  have oz0 := @lnum_1 (B) (L) ((↑(List.map (row1 IntKind.i8) n.w).length : Int)) (16384) (by omega) hL
  have oz1 := (show MethodIs Try.prog (160 : Nat) "stepwell/pack.number" (methF Try.prog (160 : Nat) "stepwell/pack.number") from (methodIs (by kernel_rfl)))
  have oz2 := @lsml_w (B ++ L (↑(List.map (row1 IntKind.i8) n.w).length : Int)) (n) ((↑(List.map (row1 IntKind.i8) n.w).length : Int)) (by (simp only [List.length_map]; omega)) hw
  have oz4 := @lnum_1 (B ++ L (↑(List.map (row1 IntKind.i8) n.w).length : Int) ++ smallL n.w) (L) ((↑(List.map (row1 IntKind.i32) n.b).length : Int)) (16384) (by (simp only [List.length_map]; omega)) hL
  have oz6 := @lwid_b (B ++ L (↑(List.map (row1 IntKind.i8) n.w).length : Int) ++ smallL n.w ++ L (↑(List.map (row1 IntKind.i32) n.b).length : Int)) (n) ((↑(List.map (row1 IntKind.i32) n.b).length : Int)) (by (simp only [List.length_map]; omega)) (by omega) hx
  exact VM.run (fn := Try.f168) (W := [.r [] [], .r [] [.callm [(950, 950), (100000, 100000), (6, 100001)] [(951, 20000)] (rM oz0) (oM oz0)], .r [] [.callm [(20000, 950), (100000, 100000), (100001, 100001)] [(951, 20001)] (rM oz2) (oM oz2)], .r [] [], .r [] [.callm [(20001, 950), (100000, 100000), (7, 100001)] [(951, 20002)] (rM oz4) (oM oz4)], .r [] [.callm [(20002, 950), (100000, 100000), (100001, 100001)] [(951, 20003)] (rM oz6) (oM oz6)]]) (G := [.drop [6, 7], .ren 20003 951, .blk 951 (Blk.slc 5 1 (List.map (row1 IntKind.u8) (B ++ L (↑n.w.length : Int) ++ smallL n.w ++ L (↑n.b.length : Int) ++ wideL n.b))), .sort]) Try.func168 (by kernel_rfl) (.c oz0 <| .c oz1 <| .c oz2 <| .c (show MethodIs Try.prog (160 : Nat) "stepwell/pack.small" (methF Try.prog (160 : Nat) "stepwell/pack.small") from (methodIs (by kernel_rfl))) <| .c oz4 <| .c oz1 <| .c oz6 <| .c (show MethodIs Try.prog (160 : Nat) "stepwell/pack.wides" (methF Try.prog (160 : Nat) "stepwell/pack.wides") from (methodIs (by kernel_rfl))) <| .c (show BlkW (Blk.slc 5 1 (List.map (row1 IntKind.u8) (B ++ L (↑(List.map (row1 IntKind.i8) n.w).length : Int) ++ smallL n.w ++ L (↑(List.map (row1 IntKind.i32) n.b).length : Int) ++ wideL n.b))) (Blk.slc 5 1 (List.map (row1 IntKind.u8) (B ++ L (↑n.w.length : Int) ++ smallL n.w ++ L (↑n.b.length : Int) ++ wideL n.b))) from (BlkW.rows (e := 5) (z := 1) (rows_to (row1 IntKind.u8) (r := List.map (row1 IntKind.u8) (B ++ L (↑(List.map (row1 IntKind.i8) n.w).length : Int) ++ smallL n.w ++ L (↑(List.map (row1 IntKind.i32) n.b).length : Int) ++ wideL n.b)) (l := B ++ L (↑(List.map (row1 IntKind.i8) n.w).length : Int) ++ smallL n.w ++ L (↑(List.map (row1 IntKind.i32) n.b).length : Int) ++ wideL n.b) (m := B ++ L (↑n.w.length : Int) ++ smallL n.w ++ L (↑n.b.length : Int) ++ wideL n.b) rfl (show (B ++ L (↑(List.map (row1 IntKind.i8) n.w).length : Int) ++ smallL n.w ++ L (↑(List.map (row1 IntKind.i32) n.b).length : Int) ++ wideL n.b) = (B ++ L (↑n.w.length : Int) ++ smallL n.w ++ L (↑n.b.length : Int) ++ wideL n.b) from (by (simp; done)))))) <| .n)
end Go.Proofs.Ytgecmooedhnenaa
