/- What an argument's reading tells of its cells: numbers, slices of numbers, fields of structs, elements of arrays. No condition. -/
import Derived.Test.YtgecmooedhnenaaElems
import Derived.Deep.Slices
import Derived.ProofKit
import Derived.OpenShut
import Derived.ShutString
import Derived.ChangeOld
namespace Go.Proofs.Ytgecmooedhnenaa
open Go.RowKit Go.ChangeShapes Go.WideShapes

section
variable {H : Type} {enc : TypeId × Value → H} {P : Program} {w : World} {sp : Nat → Bool} {held : Bool}

/-- Cells that can be read as of a type. -/
def Can {H : Type} (enc : TypeId × Value → H) (P : Program) (w : World) (sp : Nat → Bool) (held : Bool) (t : TypeId) (cs : List Value) : Prop := ∃ m x, DataW.trod enc P w 0 sp held m t cs = some x

theorem Can.of {t : TypeId} {v : Value} {d : DataW H} {p : List MemPlace} (h : DataW.Trod enc P w 0 sp held t v d p) : Can enc P w sp held t v.cells.toList := by
  obtain ⟨m, h⟩ := h; exact ⟨m, _, h⟩

theorem Can.int {t : TypeId} {k : IntKind} {c : Value} (ht : P.underlying t = some (.int k)) (h : Can enc P w sp held t [c]) : ∃ n, c = .int k n ∧ (Lit.int k n).wf = true := by
  obtain ⟨m, x, h⟩ := h
  obtain ⟨n, hc, _, hw⟩ := DataW.trod_int ht h
  exact ⟨n, by simpa using hc, hw⟩

theorem Can.bool {t : TypeId} {c : Value} (ht : P.underlying t = some .bool) (h : Can enc P w sp held t [c]) : ∃ b, c = .bool b := by
  obtain ⟨m, x, h⟩ := h
  obtain ⟨n, hc, _⟩ := DataW.trod_bool ht h
  exact ⟨n, by simpa using hc⟩

theorem Can.ints {t e : TypeId} {k : IntKind} {c : Value} (ht : P.underlying t = some (.slice e)) (he : P.underlying e = some (.int k)) (hc : P.cellsOf e = 1) (h : Can enc P w sp held t [c]) :
    ∃ zs : List Int, Rd w c (zs.map (Value.int k)) ∧ ∀ n ∈ zs, (Lit.int k n).wf = true := by
  obtain ⟨m, x, h⟩ := h
  rcases open_ints ht he hc h with ⟨hcs, _⟩ | ⟨a, len, cap, zs, hcs, _, hl, hm, hz, _, hcell, hwz⟩
  · refine ⟨[], ?_, by simp⟩
    simp only [List.cons.injEq, and_true] at hcs
    rw [hcs]; exact Rd.nil w
  · simp only [List.cons.injEq, and_true] at hcs
    subst hcs
    have hlz : len ≤ zs.length := by rw [hz]; split <;> omega
    have ht : (zs.take len).length = len := by simp; omega
    refine ⟨zs.take len, ?_, fun n hn => hwz n (List.mem_of_mem_take hn)⟩
    refine ⟨some a, cap, ?_, ?_, ?_⟩
    · rw [List.length_map, ht]
    · rw [List.length_map, ht]; exact ⟨hl, hm, by simp⟩
    · intro hne
      have h0 : 0 < len := by
        rcases Nat.eq_zero_or_pos len with h0 | h0
        · subst h0; simp at hne
        · exact h0
      obtain ⟨b, off, spot⟩ := a
      have g0 := hcell 0 (by omega)
      have hs : spot = none := by simpa [Addr.add] using World.cell?_spot g0
      subst hs
      refine ⟨b, off, rfl, fun j hj => ?_⟩
      rw [List.length_map, ht] at hj
      have := hcell j (by omega)
      rw [add_off] at this
      rw [this]
      simp [List.getD, List.getElem?_eq_getElem (show j < zs.length by omega)]

theorem Can.fields {t : TypeId} {fs : Array Field} {cs : List Value} (ht : P.underlying t = some (.struct fs)) (h : Can enc P w sp held t cs) :
    ∀ (i : Nat) (f : Field), fs[i]? = some f → Can enc P w sp held f.type ((cs.drop f.offset).take (P.cellsOf f.type)) := by
  obtain ⟨m, x, h⟩ := h
  obtain ⟨xs, n, _, _, _, hl, hf⟩ := DataW.trod_struct ht h
  intro i f hi
  have hlt : i < xs.length := by rw [hl]; exact (Array.getElem?_eq_some_iff.1 hi).1
  exact ⟨n, xs[i], by rw [hf i f hi, List.getElem?_eq_getElem hlt]⟩

/-- A slice whose elements have c cells each. -/
theorem Can.slice {t e : TypeId} {v : Value} {c : Nat} (ht : P.underlying t = some (.slice e)) (hc : P.cellsOf e = c) (hc0 : 0 < c) (h : Can enc P w sp held t [v]) :
    ∃ rs : List (List Value), RdN c w v rs ∧ ∀ r ∈ rs, Can enc P w sp held e r := by
  obtain ⟨m0, x, h⟩ := h
  rcases Go.Deep.open_slice ht h with ⟨hcs, _⟩ | ⟨a, len, cap, m, n, D, Pl, hcs, _, hl, hm, hmm, _, hel⟩
  · simp only [List.cons.injEq, and_true] at hcs
    rw [hcs]; exact ⟨[], RdN.nil _ _, by simp⟩
  · simp only [List.cons.injEq, and_true] at hcs
    subst hcs
    have hlm : len ≤ m := by rw [hmm]; split <;> omega
    have hel' : ∀ i : Nat, ∃ r : List Value, i < len → w.cells? 0 (a.add (i * c)) c = some r ∧ Can enc P w sp held e r := by
      intro i
      by_cases hi : i < len
      · obtain ⟨cs', h1, h2⟩ := hel i (by omega)
        rw [hc] at h1
        exact ⟨cs', fun _ => ⟨h1, n, _, h2⟩⟩
      · exact ⟨[], fun h => absurd h hi⟩
    obtain ⟨R, hR⟩ : ∃ R : Nat → List Value, ∀ i, i < len → w.cells? 0 (a.add (i * c)) c = some (R i) ∧ Can enc P w sp held e (R i) := ⟨fun i => Classical.choose (hel' i), fun i => Classical.choose_spec (hel' i)⟩
    have key : ∀ i, i < len → (R i).length = c ∧ ∀ k, k < c → w.cell? ((a.add (i * c)).add k) = (R i)[k]? := by
      intro i hi
      have := World.cells?_some (hR i hi).1
      exact ⟨this.2.1, this.2.2⟩
    refine ⟨(List.range len).map R, ⟨?_, some a, cap, by simp, ⟨by simpa using hl, hm, by simp⟩, fun hne => ?_⟩, ?_⟩
    · intro r hr
      obtain ⟨i, hi, rfl⟩ := List.mem_map.1 hr
      exact (key i (List.mem_range.1 hi)).1
    · have h0 : 0 < len := by
        rcases Nat.eq_zero_or_pos len with h0 | h0
        · subst h0; simp at hne
        · exact h0
      obtain ⟨b, off, spot⟩ := a
      have g0 := (key 0 h0).2 0 hc0
      have hlt : 0 < (R 0).length := by rw [(key 0 h0).1]; exact hc0
      rw [List.getElem?_eq_getElem hlt] at g0
      have hs : spot = none := by simpa [Addr.add] using World.cell?_spot g0
      subst hs
      refine ⟨b, off, rfl, fun j r i u hj hi => ?_⟩
      rw [List.getElem?_map] at hj
      obtain ⟨j', hj', rfl⟩ := Option.map_eq_some_iff.1 hj
      obtain ⟨hjl, rfl⟩ : j < len ∧ j' = j := by
        have := List.getElem?_eq_some_iff.1 hj'
        obtain ⟨h1, h2⟩ := this
        simp at h1 h2; exact ⟨h1, h2.symm⟩
      have hic : i < c := by have := (List.getElem?_eq_some_iff.1 hi).1; rw [(key j' hjl).1] at this; exact this
      have := (key j' hjl).2 i hic
      rw [hi, add_off, add_off] at this
      rw [← this]
    · intro r hr
      obtain ⟨i, hi, rfl⟩ := List.mem_map.1 hr
      exact (hR i (List.mem_range.1 hi)).2

theorem Can.array {t e : TypeId} {n c : Nat} {cs : List Value} (ht : P.underlying t = some (.array n e)) (hc : P.cellsOf e = c) (h : Can enc P w sp held t cs) :
    cs.length = P.cellsOf t ∧ ∀ i, i < n → Can enc P w sp held e ((cs.drop (i * c)).take c) := by
  obtain ⟨m, x, h⟩ := h
  obtain ⟨xs, m', _, _, hl, hxl, hx⟩ := DataW.trod_array ht h
  refine ⟨hl, fun i hi => ?_⟩
  have := hx i hi
  rw [hc] at this
  exact ⟨m', xs[i], by rw [this, List.getElem?_eq_getElem (by omega)]⟩

/-- An array of integers. -/
theorem Can.intArr {t e : TypeId} {n : Nat} {k : IntKind} {cs : List Value} (ht : P.underlying t = some (.array n e)) (he : P.underlying e = some (.int k)) (hc : P.cellsOf e = 1) (hn : P.cellsOf t = n) (h : Can enc P w sp held t cs) :
    ∃ zs : List Int, cs = zs.map (Value.int k) ∧ zs.length = n ∧ ∀ z ∈ zs, (Lit.int k z).wf = true := by
  obtain ⟨hl, hx⟩ := h.array ht hc
  rw [hn] at hl
  have one : ∀ i, i < n → ∃ z, cs[i]? = some (.int k z) ∧ (Lit.int k z).wf = true := by
    intro i hi
    have h1 := hx i hi
    have e1 : (cs.drop (i * 1)).take 1 = [cs[i]] := by
      rw [Nat.mul_one, List.drop_eq_getElem_cons (by omega)]; rfl
    rw [e1] at h1
    obtain ⟨z, hz, hw⟩ := Can.int he h1
    exact ⟨z, by rw [List.getElem?_eq_getElem (by omega), hz], hw⟩
  have : ∀ (l : List Value), (∀ i, i < l.length → ∃ z, l[i]? = some (.int k z) ∧ (Lit.int k z).wf = true) → ∃ zs : List Int, l = zs.map (Value.int k) ∧ ∀ z ∈ zs, (Lit.int k z).wf = true := by
    intro l
    induction l with
    | nil => intro _; exact ⟨[], rfl, by simp⟩
    | cons v l ih =>
      intro h
      obtain ⟨z, hz, hw⟩ := h 0 (by simp)
      obtain ⟨zs, hzs, hws⟩ := ih (fun i hi => by have := h (i + 1) (by simpa using hi); simpa using this)
      simp at hz
      refine ⟨z :: zs, by rw [hz, hzs]; rfl, fun y hy => ?_⟩
      rcases List.mem_cons.1 hy with rfl | hy
      · exact hw
      · exact hws y hy
  obtain ⟨zs, hzs, hws⟩ := this cs (fun i hi => one i (by omega))
  exact ⟨zs, hzs, by rw [← hl, hzs]; simp, hws⟩

/-- An array of integers, as a value. -/
theorem Can.arrayV {t e : TypeId} {n : Nat} {k : IntKind} {v : Value} {r : Reach} {base : Nat} (ht : P.underlying t = some (.array n e)) (he : P.underlying e = some (.int k)) (hc : P.cellsOf e = 1) (hn : P.cellsOf t = n) (hv : Value.okWide P w r base t v) (h : Can enc P w sp held t v.cells.toList) :
    ∃ zs : List Int, v = .agg (zs.map (Value.int k)).toArray ∧ zs.length = n ∧ ∀ z ∈ zs, (Lit.int k z).wf = true := by
  obtain ⟨cs, rfl⟩ : ∃ cs, v = .agg cs := by
    simp only [Value.okWide, ht] at hv
    obtain ⟨cs, h1, _⟩ := hv
    exact ⟨cs, h1⟩
  obtain ⟨zs, h1, h2, h3⟩ := h.intArr ht he hc hn
  refine ⟨zs, ?_, h2, h3⟩
  rw [← h1]
  simp [Value.cells]

/-- A slice of arrays of integers. -/
theorem Can.arrays {t a e : TypeId} {n : Nat} {k : IntKind} {v : Value} (ht : P.underlying t = some (.slice a)) (ha : P.underlying a = some (.array n e)) (he : P.underlying e = some (.int k)) (hc : P.cellsOf e = 1) (hn : P.cellsOf a = n) (hn0 : 0 < n) (h : Can enc P w sp held t [v]) :
    ∃ zs : List (List Int), RdN n w v (zs.map (List.map (Value.int k))) ∧ ∀ l ∈ zs, l.length = n ∧ ∀ z ∈ l, (Lit.int k z).wf = true := by
  obtain ⟨rs, hr, hcan⟩ := h.slice ht hn hn0
  have : ∀ (rs : List (List Value)), (∀ r ∈ rs, Can enc P w sp held a r) → ∃ zs : List (List Int), rs = zs.map (List.map (Value.int k)) ∧ ∀ l ∈ zs, l.length = n ∧ ∀ z ∈ l, (Lit.int k z).wf = true := by
    intro rs
    induction rs with
    | nil => intro _; exact ⟨[], rfl, by simp⟩
    | cons r rs ih =>
      intro h
      obtain ⟨z, h1, h2, h3⟩ := (h r (by simp)).intArr ha he hc hn
      obtain ⟨zs, h4, h5⟩ := ih (fun q hq => h q (by simp [hq]))
      refine ⟨z :: zs, by rw [h1, h4]; rfl, fun l hl => ?_⟩
      rcases List.mem_cons.1 hl with rfl | hl
      · exact ⟨h2, h3⟩
      · exact h5 l hl
  obtain ⟨zs, h1, h2⟩ := this rs hcan
  exact ⟨zs, by rw [← h1]; exact hr, h2⟩

theorem arr_of_size {n : Nat} {cs : Array Value} (h : cs.size = n) : ∃ l : List Value, cs = l.toArray ∧ l.length = n := ⟨cs.toList, by simp, by simpa using h⟩
end
end Go.Proofs.Ytgecmooedhnenaa
