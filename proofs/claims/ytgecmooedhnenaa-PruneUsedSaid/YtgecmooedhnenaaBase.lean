/- Words that all texts of this seat share: a slice that reads as a list of values, and how that reading is kept. No condition. -/
import Derived.Test.YtgecmooedhnenaaProg
import Derived.WalkKit
import Derived.Below
import Derived.LoopTactic
import Derived.RegionTactic
import Derived.ChangeAlike
import Derived.BigRegion
import Derived.Deep.QuietTactic
import Derived.BigQuiet
import Derived.Lib.Hide
import Derived.WalkSpells
import Derived.WalkLawsBesides
import Derived.WalkSmall
import Derived.Laws.BytesString
import Derived.Laws.IdiomStrings
import Derived.Laws.BitsAllLaws
import Derived.Laws.AppendOwnNone
import Derived.PlainAid
namespace Go.Proofs.Ytgecmooedhnenaa
open Go.RowKit

theorem ret_int {k : IntKind} {a b : Int} (h : a = b) : Ending.returned (.int k a) = .returned (.int k b) := by rw [h]
theorem ret_bool {a b : Bool} (h : a = b) : Ending.returned (.bool a) = .returned (.bool b) := by rw [h]

/-- The slice value v reads as the list xs (one cell an element) in the world w. -/
def Rd (w : World) (v : Value) (xs : List Value) : Prop :=
  ∃ ao cap, v = .slice ao xs.length cap ∧ (xs.length ≤ cap ∧ cap ≤ maxLen ∧ (ao = none → cap = 0)) ∧ (xs ≠ [] → ∃ b off, ao = some ⟨b, off, none⟩ ∧ ∀ j (h : j < xs.length), w.cell? ⟨b, off + j, none⟩ = some xs[j])

theorem Rd.nil (w : World) : Rd w (.slice none 0 0) [] := ⟨none, 0, rfl, ⟨Nat.le_refl _, Nat.zero_le _, fun _ => rfl⟩, fun h => absurd rfl h⟩

theorem lt_of_cell {w : World} {a : Addr} {v : Value} (h : w.cell? a = some v) : a.block < w.heap.size := World.block_lt_of_cell? w a h

theorem Rd.below {B : Nat} {w w' : World} {v : Value} {xs : List Value} (h : Rd w v xs) (hb : Below B w w') (hB : w.heap.size ≤ B) : Rd w' v xs := by
  obtain ⟨ao, cap, rfl, hcap, h⟩ := h
  refine ⟨ao, cap, rfl, hcap, fun hx => ?_⟩
  obtain ⟨b, off, rfl, hc⟩ := h hx
  refine ⟨b, off, rfl, fun j hj => ?_⟩
  rw [hb.cell (p := ⟨b, off + j, none⟩) (Nat.lt_of_lt_of_le (lt_of_cell (hc j hj)) hB)]
  exact hc j hj

/-- The call's own row of one-cell elements. -/
def Own (B : Nat) (w : World) (e : TypeId) (v : Value) (xs : List Value) : Prop := w.ownsRow B e 1 v xs.length xs

theorem Own.nil (B : Nat) (w : World) (e : TypeId) : Own B w e (.slice none 0 0) [] := World.ownsRow_nil _ _ _ _

theorem Own.rd {B : Nat} {w : World} {e : TypeId} {v : Value} {xs : List Value} (h : Own B w e v xs) : Rd w v xs := by
  have h0 := h
  obtain ⟨_, hcase⟩ := h
  rcases hcase with ⟨rfl, hn⟩ | ⟨g, cap, cur, rfl, hg, hh, hn, hcap, hsz, htake⟩
  · have : xs = [] := List.eq_nil_of_length_eq_zero hn
    subst this
    exact Rd.nil w
  · refine ⟨_, _, rfl, ⟨hn, hcap, by simp⟩, fun _ => ⟨g, 0, rfl, fun j hj => ?_⟩⟩
    rw [Nat.zero_add, World.ownsRow.cellAt h0 j (by omega), List.getElem?_eq_getElem hj]

theorem Own.mono {B B' : Nat} {w : World} {e : TypeId} {v : Value} {xs : List Value} (h : Own B w e v xs) (hB : B' ≤ B) : Own B' w e v xs := by
  refine ⟨h.1, ?_⟩
  rcases h.2 with h2 | ⟨g, cap, cur, hv, hg, r⟩
  · exact .inl h2
  · exact .inr ⟨g, cap, cur, hv, by omega, r⟩

theorem Own.below {B C : Nat} {w w' : World} {e : TypeId} {v : Value} {xs : List Value} (h : Own B w e v xs) (hb : Below C w w') (hC : w.heap.size ≤ C) : Own B w' e v xs := by
  refine ⟨h.1, ?_⟩
  rcases h.2 with h2 | ⟨g, cap, cur, hv, hg, hh, r⟩
  · exact .inl h2
  · refine .inr ⟨g, cap, cur, hv, hg, ?_, r⟩
    rw [hb.block g (Nat.lt_of_lt_of_le (Array.getElem?_eq_some_iff.1 hh).1 hC)]
    exact hh

/-- Two steps one behind the other, each seen from its own beginning. -/
theorem bl_step {w w1 w2 : World} (h : Below w.heap.size w w1) (k : Below w1.heap.size w1 w2) : Below w.heap.size w w2 :=
  h.trans (k.mono h.size)
theorem bl_stepB {B : Nat} {w w1 w2 : World} (h : Below B w w1) (k : Below w1.heap.size w1 w2) (hB : B ≤ w1.heap.size) : Below B w w2 :=
  h.trans (k.mono hB)

theorem bl_get {w w' : World} (hb : Below w.heap.size w w') {b o : Nat} {v : Value} (h : w.cell? ⟨b, o, none⟩ = some v) : w'.cell? ⟨b, o, none⟩ = some v :=
  (hb.cell (p := ⟨b, o, none⟩) (lt_of_cell h)).trans h

theorem one_new (w : World) (x : Value) (t : TypeId) : ∀ j u, [x][j]? = some u → (w.alloc (.cells #[x] t)).cell? ((⟨w.heap.size, 0, none⟩ : Addr).add j) = some u := by
  intro j u hj
  match j, hj with
  | 0, hj =>
    simp at hj; subst hj
    rw [show (⟨w.heap.size, 0, none⟩ : Addr).add 0 = ⟨w.heap.size, 0, none⟩ from by simp [Addr.add], World.cell?_alloc_at _ _ _ _ rfl]; rfl

theorem one_cell (x : Value) (h : x.oneCell' = true) : ∀ u ∈ [x], u.oneCell' = true := by intro u hu; simp at hu; subst hu; exact h

/-- A goal at which the walk is to stand still: 'go_wp2_with (at_builtin; refine hold ?_)', then 'refine unheld ?_'. -/
def Held (p : Prop) : Prop := p
theorem hold {p : Prop} (h : Held p) : p := h
theorem unheld {p : Prop} (h : p) : Held p := h

/-- 'append(v, u)' of one element that has just been laid in a block of its own. -/
theorem wpList_app1 {P : Program} {ops : Array Oper} {rest : List Oper} {o : Oper} {a : Act} {Q : Exit → Act → World → Prop} (hgd : o.guard = none) (s x : Operand) (t : TypeId)
    (ho : o.op = .call { callee := .builtin .append, args := #[s, x], argTypes := #[t, t] })
    (B : Nat) (e : TypeId) (i : TypeInfo) (z : Value) (bytes : Nat) (ht : P.underlying t = some (.slice e)) (hi : P.info? e = some i) (hz : i.zero = some z)
    (hsize : i.size = 1) (hby : i.bytes = bytes) (hbs : bytes ≤ 64) (hzs : z.cells.size = 1)
    (v : Value) (xs : List Value) (w0 : World) (u : Value) (te : TypeId)
    (hown : Own B w0 e v xs) (hs : a.eval s = v) (hx : a.eval x = .slice (some ⟨w0.heap.size, 0, none⟩) 1 1) (hu : u.oneCell' = true) (hlen : xs.length + 1 ≤ 1099511627776) (hB : B ≤ w0.heap.size)
    (h : ∀ v' w', Own B w' e v' (xs ++ [u]) → Below B w0 w' → wpList P ops Q rest (a.put o.dst v') w') :
    wpList P ops Q (o :: rest) a (w0.alloc (.cells #[u] te)) := by
  have h63 : xs.length + 1 ≤ maxLen := by unfold maxLen; omega
  have hbytes : (xs.length + 1) * bytes ≤ 140737488355328 := Nat.le_trans (Nat.mul_le_mul hlen hbs) (by decide)
  refine wpList_append_own _ hgd s x t ho B e i z 1 bytes ht hi hz hsize hby hzs (by decide) v xs.length xs hs (World.ownsRow.alloc hown _) ⟨w0.heap.size, 0, none⟩ 1 1 [u] hx rfl (one_new w0 u te) (one_cell u hu) h63 hbytes (by simp; omega) ?_
  intro v' w' hown' hgrow _
  refine h v' w' ?_ ?_
  · unfold Own; rw [List.length_append]; exact hown'
  · exact ((Below.refl B w0).alloc hB _).grown hgrow (by simp; omega) (fun k hk => (hown.lt k hk).1)

/-- The string of some bytes. -/
def bstr (xs : List Int) : ByteArray := xs.foldl (fun r n => r.push (UInt8.ofNat n.toNat)) ByteArray.empty

theorem bstr_from : ∀ (xs : List Int) (r : ByteArray), xs.foldl (fun r n => r.push (UInt8.ofNat n.toNat)) r = ⟨r.data ++ (xs.map fun n => UInt8.ofNat n.toNat).toArray⟩
  | [], r => by simp
  | b :: l, r => by
    simp only [List.map_cons, List.foldl_cons]
    rw [bstr_from l]
    simp [ByteArray.push]
theorem bstr_eq (xs : List Int) : bstr xs = ⟨(xs.map fun n => UInt8.ofNat n.toNat).toArray⟩ := by
  unfold bstr; rw [bstr_from]; have he0 : ByteArray.empty.data = #[] := rfl
  rw [he0]; simp

theorem add_off (b off j : Nat) : (⟨b, off, none⟩ : Addr).add j = ⟨b, off + j, none⟩ := by unfold Addr.add; split <;> simp_all

theorem run_str {P : Program} {w : World} {src dst e : TypeId} {v : Value} {xs : List Int} (hs : P.underlying src = some (.slice e)) (he : P.underlying e = some (.int .u8)) (hd : P.underlying dst = some .string)
    (h : Rd w v (xs.map (Value.int .u8))) : (convert src dst v).run P w = .ok (.string (bstr xs)) w := by
  obtain ⟨ao, cap, rfl, _, hc⟩ := h
  by_cases hne : xs = []
  · subst hne
    rw [run_convert_bytes_string w src dst e _ _ cap hs he hd]
    cases ao with
    | none => rfl
    | some a => 
      have hl := run_loadCells_list (P := P) w a (([] : List Int).map (Value.int .u8)) (fun j v hj => by simp at hj)
      rw [run_bytesToString w _ _ cap [] hl]; rfl
  · obtain ⟨b, off, rfl, hk⟩ := hc (by simpa using hne)
    rw [run_convert_bytes_string w src dst e _ _ cap hs he hd]
    have hl := run_loadCells_list (P := P) w ⟨b, off, none⟩ (xs.map (Value.int .u8)) (fun j v hj => by
      obtain ⟨hj', rfl⟩ := List.getElem?_eq_some_iff.1 hj
      rw [add_off]; exact hk j hj')
    rw [run_bytesToString w _ _ cap xs hl]
    rfl

/-- A slice of integers that came in: it is nil; or it leads to a row of 'cap' cells, the numbers 'zs' (the first 'len' are its elements). -/
def IsRow (k : IntKind) (w : World) (a : Option Addr) (len cap : Nat) (zs : List Int) : Prop :=
  (a = none ∧ len = 0 ∧ cap = 0 ∧ zs = []) ∨
  ∃ x, a = some x ∧ len ≤ cap ∧ cap ≤ maxLen ∧ zs.length = cap ∧ (∀ i, i < zs.length → w.cell? (x.add i) = some (.int k (zs.getD i 0))) ∧ ∀ n ∈ zs, (Lit.int k n).wf = true

theorem IsRow.len {k : IntKind} {w : World} {a : Option Addr} {len cap : Nat} {zs : List Int} (h : IsRow k w a len cap zs) : (zs.take len).length = len := by
  rcases h with ⟨rfl, rfl, rfl, rfl⟩ | ⟨x, rfl, hl, hm, hz, hcell, hwz⟩
  · rfl
  · simp; omega
theorem IsRow.rd {k : IntKind} {w : World} {a : Option Addr} {len cap : Nat} {zs : List Int} (h : IsRow k w a len cap zs) : Rd w (.slice a len cap) ((zs.take len).map (Value.int k)) := by
  have hlen := h.len
  rcases h with ⟨rfl, rfl, rfl, rfl⟩ | ⟨x, rfl, hl, hm, hz, hcell, hwz⟩
  · exact Rd.nil w
  · refine ⟨some x, cap, by rw [List.length_map, hlen], ⟨by rw [List.length_map, hlen]; exact hl, hm, by simp⟩, fun hne => ?_⟩
    obtain ⟨b, off, spot⟩ := x
    have h0 : 0 < zs.length := by
      rcases Nat.eq_zero_or_pos zs.length with h | h
      · exact absurd (by rw [List.eq_nil_of_length_eq_zero h]; simp) hne
      · exact h
    have hspot : spot = none := by simpa [Addr.add] using World.cell?_spot (hcell 0 h0)
    subst hspot
    refine ⟨b, off, rfl, fun j hj => ?_⟩
    rw [List.length_map, hlen] at hj
    have := hcell j (by omega)
    rw [add_off] at this
    rw [this, List.getElem_map, List.getElem_take]
    simp [List.getD, List.getElem?_eq_getElem (show j < zs.length by omega)]
theorem IsRow.wf {k : IntKind} {w : World} {a : Option Addr} {len cap : Nat} {zs : List Int} (h : IsRow k w a len cap zs) : ∀ n ∈ zs.take len, (Lit.int k n).wf = true := by
  intro n hn
  have hn := List.mem_of_mem_take hn
  rcases h with ⟨rfl, rfl, rfl, rfl⟩ | ⟨x, rfl, hl, hm, hz, hcell, hwz⟩
  · simp at hn
  · exact hwz n hn

theorem wf_u64 {n : Int} (h : (Lit.int .u64 n).wf = true) : 0 ≤ n ∧ n ≤ 18446744073709551615 := by
  simp only [Lit.wf, IntKind.min, IntKind.max, IntKind.signed, IntKind.bits, Bool.and_eq_true] at h; simp at h; omega
theorem wf_i64 {n : Int} (h : (Lit.int .i64 n).wf = true) : -9223372036854775808 ≤ n ∧ n ≤ 9223372036854775807 := by
  simp only [Lit.wf, IntKind.min, IntKind.max, IntKind.signed, IntKind.bits, Bool.and_eq_true, decide_eq_true_eq] at h; simp at h; omega
theorem wf_u32 {n : Int} (h : (Lit.int .u32 n).wf = true) : 0 ≤ n ∧ n ≤ 4294967295 := by
  simp only [Lit.wf, IntKind.min, IntKind.max, IntKind.signed, IntKind.bits, Bool.and_eq_true] at h; simp at h; omega
theorem wf_i32 {n : Int} (h : (Lit.int .i32 n).wf = true) : -2147483648 ≤ n ∧ n ≤ 2147483647 := by
  simp only [Lit.wf, IntKind.min, IntKind.max, IntKind.signed, IntKind.bits, Bool.and_eq_true] at h; simp at h; omega
theorem wf_u16 {n : Int} (h : (Lit.int .u16 n).wf = true) : 0 ≤ n ∧ n ≤ 65535 := by
  simp only [Lit.wf, IntKind.min, IntKind.max, IntKind.signed, IntKind.bits, Bool.and_eq_true] at h; simp at h; omega
theorem wf_i16 {n : Int} (h : (Lit.int .i16 n).wf = true) : -32768 ≤ n ∧ n ≤ 32767 := by
  simp only [Lit.wf, IntKind.min, IntKind.max, IntKind.signed, IntKind.bits, Bool.and_eq_true] at h; simp at h; omega
theorem wf_u8 {n : Int} (h : (Lit.int .u8 n).wf = true) : 0 ≤ n ∧ n ≤ 255 := by
  simp only [Lit.wf, IntKind.min, IntKind.max, IntKind.signed, IntKind.bits, Bool.and_eq_true] at h; simp at h; omega
theorem wf_i8 {n : Int} (h : (Lit.int .i8 n).wf = true) : -128 ≤ n ∧ n ≤ 127 := by
  simp only [Lit.wf, IntKind.min, IntKind.max, IntKind.signed, IntKind.bits, Bool.and_eq_true] at h; simp at h; omega

theorem Rd.take {w : World} {ao : Option Addr} {n cap : Nat} {xs : List Value} (h : Rd w (.slice ao n cap) xs) (k : Nat) (hk : k ≤ n) : Rd w (.slice ao k cap) (xs.take k) := by
  obtain ⟨ao', cap', he, hcap, hc⟩ := h
  injection he with h1 h2 h3
  subst h1 h2 h3
  refine ⟨ao, cap, by rw [List.length_take, Nat.min_eq_left hk], ⟨by simp; omega, hcap.2⟩, fun hne => ?_⟩
  obtain ⟨b, off, rfl, hk⟩ := hc (by intro h; subst h; simp at hne)
  refine ⟨b, off, rfl, fun j hj => ?_⟩
  rw [List.getElem_take]
  exact hk j (by simp at hj; omega)

theorem Rd.length {w : World} {ao : Option Addr} {n cap : Nat} {xs : List Value} (h : Rd w (.slice ao n cap) xs) : n = xs.length := by
  obtain ⟨ao', cap', he, hcap, hc⟩ := h
  injection he with h1 h2 h3

theorem Own.empty (B : Nat) (w : World) (e : TypeId) (hB : B ≤ w.heap.size) : Own B (w.alloc (.cells #[] e)) e (.slice (some ⟨w.heap.size, 0, none⟩) 0 0) [] :=
  World.ownsRow_made (size := 1) w #[] 0 hB (Nat.zero_le _) rfl

theorem ints_one (k : IntKind) (zs : List Int) : ∀ u ∈ zs.map (Value.int k), u.oneCell' = true := ints_oneCell k zs

/-- 'append(v, src...)', v the call's own, src whatever slice that reads as one-cell values. -/
theorem wpList_appS {P : Program} {ops : Array Oper} {rest : List Oper} {o : Oper} {a : Act} {w : World} {Q : Exit → Act → World → Prop} (hgd : o.guard = none) (s x : Operand) (t : TypeId)
    (ho : o.op = .call { callee := .builtin .append, args := #[s, x], argTypes := #[t, t] })
    (B : Nat) (e : TypeId) (i : TypeInfo) (z : Value) (bytes : Nat) (ht : P.underlying t = some (.slice e)) (hi : P.info? e = some i) (hz : i.zero = some z)
    (hsize : i.size = 1) (hby : i.bytes = bytes) (hbs : bytes ≤ 64) (hzs : z.cells.size = 1)
    (v sv : Value) (xs news : List Value) (hown : Own B w e v xs) (hsrc : Rd w sv news) (hs : a.eval s = v) (hx : a.eval x = sv)
    (hu : ∀ u ∈ news, u.oneCell' = true) (hlen : xs.length + news.length ≤ 1099511627776) (hB : B ≤ w.heap.size)
    (h : ∀ v' w', Own B w' e v' (xs ++ news) → Below B w w' → wpList P ops Q rest (a.put o.dst v') w') :
    wpList P ops Q (o :: rest) a w := by
  have h63 : xs.length + news.length ≤ maxLen := by unfold maxLen; omega
  have hbytes : (xs.length + news.length) * bytes ≤ 140737488355328 := Nat.le_trans (Nat.mul_le_mul hlen hbs) (by decide)
  obtain ⟨ao, cap, rfl, hcap, hc⟩ := hsrc
  have fin : ∀ (ad : Addr), ao = some ad → (∀ j u, news[j]? = some u → w.cell? (ad.add j) = some u) → wpList P ops Q (o :: rest) a w := by
    rintro ad rfl hcells
    refine wpList_append_own _ hgd s x t ho B e i z 1 bytes ht hi hz hsize hby hzs (by decide) v xs.length xs hs hown ad news.length cap news hx (by simp) hcells hu h63 hbytes hB ?_
    intro v' w' hown' hgrow _
    refine h v' w' ?_ ?_
    · unfold Own; rw [List.length_append]; exact hown'
    · exact (Below.refl B w).grown hgrow hB (fun k hk => (hown.lt k hk).1)
  by_cases hne : news = []
  · subst hne
    cases ao with
    | none =>
      obtain rfl : cap = 0 := hcap.2.2 rfl
      refine wpList_append_own_none hgd s x t ho B e i 1 ht hi v xs.length xs hs hown hx ?_
      refine h v w (by rw [List.append_nil]; exact hown) (Below.refl B w)
    | some ad => exact fin ad rfl (by intro j u hj; simp at hj)
  · obtain ⟨b, off, rfl, hk⟩ := hc hne
    refine fin _ rfl (fun j u hj => ?_)
    obtain ⟨hj', rfl⟩ := List.getElem?_eq_some_iff.1 hj
    rw [add_off]; exact hk j hj'
end Go.Proofs.Ytgecmooedhnenaa
