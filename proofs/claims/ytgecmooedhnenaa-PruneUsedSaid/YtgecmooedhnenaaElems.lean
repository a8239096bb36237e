/- Slices whose elements have more than one cell: how they read, and the call's own ones. No condition. -/
import Derived.Test.YtgecmooedhnenaaOwn
namespace Go.Proofs.Ytgecmooedhnenaa
open Go.RowKit
set_option linter.unusedVariables false
set_option linter.unusedSimpArgs false

/-- The slice value v reads as the rows rs, each of c cells. -/
def RdN (c : Nat) (w : World) (v : Value) (rs : List (List Value)) : Prop :=
  (∀ r ∈ rs, r.length = c) ∧ ∃ ao cap, v = .slice ao rs.length cap ∧ (rs.length ≤ cap ∧ cap ≤ maxLen ∧ (ao = none → cap = 0)) ∧
    (rs ≠ [] → ∃ b off, ao = some ⟨b, off, none⟩ ∧ ∀ j r i u, rs[j]? = some r → r[i]? = some u → w.cell? ⟨b, off + j * c + i, none⟩ = some u)

theorem RdN.nil (c : Nat) (w : World) : RdN c w (.slice none 0 0) [] := ⟨by simp, none, 0, rfl, ⟨Nat.le_refl _, Nat.zero_le _, fun _ => rfl⟩, fun h => absurd rfl h⟩
theorem RdN.keep {c : Nat} {w w' : World} {v : Value} {rs : List (List Value)} (h : RdN c w v rs) (hk : ∀ b o u, w.cell? ⟨b, o, none⟩ = some u → w'.cell? ⟨b, o, none⟩ = some u) : RdN c w' v rs := by
  obtain ⟨hl, ao, cap, hv, hcap, h⟩ := h
  refine ⟨hl, ao, cap, hv, hcap, fun hx => ?_⟩
  obtain ⟨b, off, ha, hc⟩ := h hx
  exact ⟨b, off, ha, fun j r i u hj hi => hk _ _ _ (hc j r i u hj hi)⟩
theorem RdN.below {c B : Nat} {w w' : World} {v : Value} {rs : List (List Value)} (h : RdN c w v rs) (hb : Below B w w') (hB : w.heap.size ≤ B) : RdN c w' v rs :=
  h.keep fun b o u hc => (hb.cell (p := ⟨b, o, none⟩) (Nat.lt_of_lt_of_le (lt_of_cell hc) hB)).trans hc
theorem RdN.len {c : Nat} {w : World} {v : Value} {rs : List (List Value)} (h : RdN c w v rs) : ∃ ao cap, v = .slice ao rs.length cap ∧ rs.length ≤ cap ∧ cap ≤ 9223372036854775807 ∧
    (rs ≠ [] → ∃ b off, ao = some ⟨b, off, none⟩ ∧ ∀ j r i u, rs[j]? = some r → r[i]? = some u → w.cell? ⟨b, off + j * c + i, none⟩ = some u) := by
  obtain ⟨hl, ao, cap, hv, hcap, h⟩ := h
  exact ⟨ao, cap, hv, hcap.1, by have := hcap.2.1; unfold maxLen at this; exact this, h⟩

theorem flat_len {c : Nat} : ∀ (rs : List (List Value)), (∀ r ∈ rs, r.length = c) → rs.flatten.length = rs.length * c
  | [], _ => by simp
  | r :: l, h => by
    simp only [List.flatten_cons, List.length_append, List.length_cons, Nat.add_mul, Nat.one_mul]
    rw [flat_len l (fun x hx => h x (by simp [hx])), h r (by simp)]; omega
theorem flat_get {c : Nat} : ∀ (rs : List (List Value)) (j i : Nat) (r : List Value), (∀ r ∈ rs, r.length = c) → rs[j]? = some r → i < c → rs.flatten[j * c + i]? = r[i]?
  | [], j, i, r, _, hj, _ => by simp at hj
  | q :: l, 0, i, r, h, hj, hi => by
    simp at hj; subst hj
    have hq := h q (by simp)
    rw [List.flatten_cons, Nat.zero_mul, Nat.zero_add, List.getElem?_append_left (by omega)]
  | q :: l, j + 1, i, r, h, hj, hi => by
    have hq := h q (by simp)
    rw [List.flatten_cons, List.getElem?_append_right (by rw [hq, Nat.add_mul]; omega), hq, show (j + 1) * c + i - c = j * c + i from by rw [Nat.add_mul]; omega]
    exact flat_get l j i r (fun x hx => h x (by simp [hx])) (by simpa using hj) hi

/-- The call's own row of elements of c cells. -/
def OwnN (B c : Nat) (w : World) (e : TypeId) (v : Value) (rs : List (List Value)) : Prop := (∀ r ∈ rs, r.length = c) ∧ w.ownsRow B e c v rs.length rs.flatten
theorem OwnN.nil (B c : Nat) (w : World) (e : TypeId) : OwnN B c w e (.slice none 0 0) [] := ⟨by simp, by have := World.ownsRow_nil w B e c; simpa using this⟩
theorem OwnN.below {B C c : Nat} {w w' : World} {e : TypeId} {v : Value} {rs : List (List Value)} (h : OwnN B c w e v rs) (hb : Below C w w') (hC : w.heap.size ≤ C) : OwnN B c w' e v rs := by
  refine ⟨h.1, h.2.1, ?_⟩
  rcases h.2.2 with h2 | ⟨g, cap, cur, hv, hg, hh, r⟩
  · exact .inl h2
  · refine .inr ⟨g, cap, cur, hv, hg, ?_, r⟩
    rw [hb.block g (Nat.lt_of_lt_of_le (Array.getElem?_eq_some_iff.1 hh).1 hC)]
    exact hh
theorem OwnN.mono {B B' c : Nat} {w : World} {e : TypeId} {v : Value} {rs : List (List Value)} (h : OwnN B c w e v rs) (hB : B' ≤ B) : OwnN B' c w e v rs := by
  refine ⟨h.1, h.2.1, ?_⟩
  rcases h.2.2 with h2 | ⟨g, cap, cur, hv, hg, r⟩
  · exact .inl h2
  · exact .inr ⟨g, cap, cur, hv, by omega, r⟩
theorem OwnN.rd {B c : Nat} {w : World} {e : TypeId} {v : Value} {rs : List (List Value)} (h : OwnN B c w e v rs) : RdN c w v rs := by
  refine ⟨h.1, ?_⟩
  have h0 := h.2
  obtain ⟨hl, hcase⟩ := h.2
  rcases hcase with ⟨rfl, hn⟩ | ⟨g, cap, cur, rfl, hg, hh, hn, hcap, hsz, htake⟩
  · have : rs = [] := List.eq_nil_of_length_eq_zero hn
    subst this
    exact ⟨none, 0, rfl, ⟨Nat.le_refl _, Nat.zero_le _, fun _ => rfl⟩, fun h => absurd rfl h⟩
  · refine ⟨_, _, rfl, ⟨hn, hcap, by simp⟩, fun _ => ⟨g, 0, rfl, fun j r i u hj hi => ?_⟩⟩
    have hrc := h.1 r (List.mem_of_getElem? hj)
    have hi' : i < c := by have := (List.getElem?_eq_some_iff.1 hi).1; omega
    have hjl := (List.getElem?_eq_some_iff.1 hj).1
    have hlt : j * c + i < rs.length * c := by
      calc j * c + i < j * c + c := by omega
        _ = (j + 1) * c := by rw [Nat.add_mul]; omega
        _ ≤ rs.length * c := Nat.mul_le_mul_right c hjl
    rw [Nat.zero_add, World.ownsRow.cellAt h0 (j * c + i) hlt, flat_get rs j i r h.1 hj hi']
    exact hi

/-- 'append(v, u)' of one element of c cells that lies in a block of its own. -/
theorem wpList_appGN {P : Program} {ops : Array Oper} {rest : List Oper} {o : Oper} {a : Act} {Q : Exit → Act → World → Prop} (hgd : o.guard = none) (s x : Operand) (t : TypeId)
    (ho : o.op = .call { callee := .builtin .append, args := #[s, x], argTypes := #[t, t] })
    (B c : Nat) (e : TypeId) (i : TypeInfo) (z : Value) (bytes : Nat) (ht : P.underlying t = some (.slice e)) (hi : P.info? e = some i) (hz : i.zero = some z)
    (hsize : i.size = c) (hby : i.bytes = bytes) (hbs : bytes ≤ 4096) (hzs : z.cells.size = c) (hc0 : 0 < c)
    (v : Value) (rs : List (List Value)) (w : World) (r : List Value) (g : Nat)
    (hown : OwnN B c w e v rs) (hs : a.eval s = v) (hx : a.eval x = .slice (some ⟨g, 0, none⟩) 1 1) (hc : ∀ i u, r[i]? = some u → w.cell? ⟨g, i, none⟩ = some u) (hr : r.length = c) (hu : ∀ u ∈ r, u.oneCell' = true) (hlen : rs.length + 1 ≤ 4294967296) (hB : B ≤ w.heap.size)
    (h : ∀ v' w', OwnN B c w' e v' (rs ++ [r]) → Below B w w' → wpList P ops Q rest (a.put o.dst v') w') :
    wpList P ops Q (o :: rest) a w := by
  have h63 : rs.length + 1 ≤ maxLen := by unfold maxLen; omega
  have hbytes : (rs.length + 1) * bytes ≤ 140737488355328 := Nat.le_trans (Nat.mul_le_mul hlen hbs) (by decide)
  refine wpList_append_own _ hgd s x t ho B e i z c bytes ht hi hz hsize hby hzs hc0 v rs.length rs.flatten hs hown.2 ⟨g, 0, none⟩ 1 1 r hx (by rw [hr]; omega) (fun j y hj => by rw [add_off, Nat.zero_add]; exact hc j y hj) hu h63 hbytes hB ?_
  intro v' w' hown' hgrow _
  refine h v' w' ⟨fun q hq => ?_, ?_⟩ ((Below.refl B w).grown hgrow hB (fun k hk => (hown.2.lt k hk).1))
  · rcases List.mem_append.1 hq with h | h
    · exact hown.1 q h
    · simp at h; subst h; exact hr
  · rw [List.length_append]
    simpa using hown'

/-- A slice of one element of c cells in a block of its own. -/
def OneN (r : List Value) (v : Value) (w : World) : Prop := ∃ g, v = .slice (some ⟨g, 0, none⟩) 1 1 ∧ ∀ i u, r[i]? = some u → w.cell? ⟨g, i, none⟩ = some u
theorem bl_oneN {r : List Value} {v : Value} {w w' : World} (h : OneN r v w) (hb : Below w.heap.size w w') : OneN r v w' := by
  obtain ⟨g, h1, h2⟩ := h; exact ⟨g, h1, fun i u hi => bl_get hb (h2 i u hi)⟩
theorem OneN.new (w : World) (t : TypeId) (r : List Value) : OneN r (.slice (some ⟨w.heap.size, 0, none⟩) 1 1) (w.alloc (.cells r.toArray t)) :=
  ⟨_, rfl, fun i u hi => by rw [World.cell?_alloc_at _ _ _ _ rfl]; simpa using hi⟩
end Go.Proofs.Ytgecmooedhnenaa
