/- What an argument's reading tells of its cells: numbers, slices of numbers, fields of structs, elements of arrays. No condition. -/
import Derived.Test.YtlganffeaapebaaBase
import Derived.ProofKit
import Derived.OpenShut
import Derived.ShutString
import Derived.ChangeOld
namespace Go.Proofs.Ytlganffeaapebaa
open Go.RowKit Go.ChangeShapes Go.WideShapes

section
variable {H : Type} {enc : TypeId × Value → H} {P : Program} {w : World} {sp : Nat → Bool} {held : Bool}

/-- Cells that can be read as of a type. -/
def Can {H : Type} (enc : TypeId × Value → H) (P : Program) (w : World) (sp : Nat → Bool) (held : Bool) (t : TypeId) (cs : List Value) : Prop := ∃ m x, DataW.trod enc P w 0 sp held m t cs = some x

theorem Can.of {t : TypeId} {v : Value} {d : DataW H} {p : List MemPlace} (h : DataW.Trod enc P w 0 sp held t v d p) : Can enc P w sp held t v.cells.toList := by
  obtain ⟨m, h⟩ := h; exact ⟨m, _, h⟩

theorem Can.int {t : TypeId} {k : IntKind} {c : Value} (ht : P.underlying t = some (.int k)) (h : Can enc P w sp held t [c]) : ∃ n, c = .int k n ∧ (Lit.int k n).wf = true := by
  obtain ⟨m, x, h⟩ := h
  obtain ⟨n, hc, _, hw⟩ := DataW.trod_int ht h
  exact ⟨n, by simpa using hc, hw⟩

theorem Can.bool {t : TypeId} {c : Value} (ht : P.underlying t = some .bool) (h : Can enc P w sp held t [c]) : ∃ b, c = .bool b := by
  obtain ⟨m, x, h⟩ := h
  obtain ⟨n, hc, _⟩ := DataW.trod_bool ht h
  exact ⟨n, by simpa using hc⟩

theorem Can.ints {t e : TypeId} {k : IntKind} {c : Value} (ht : P.underlying t = some (.slice e)) (he : P.underlying e = some (.int k)) (hc : P.cellsOf e = 1) (h : Can enc P w sp held t [c]) :
    ∃ zs : List Int, Rd w c (zs.map (Value.int k)) ∧ ∀ n ∈ zs, (Lit.int k n).wf = true := by
  obtain ⟨m, x, h⟩ := h
  rcases open_ints ht he hc h with ⟨hcs, _⟩ | ⟨a, len, cap, zs, hcs, _, hl, hm, hz, _, hcell, hwz⟩
  · refine ⟨[], ?_, by simp⟩
    simp only [List.cons.injEq, and_true] at hcs
    rw [hcs]; exact Rd.nil w
  · simp only [List.cons.injEq, and_true] at hcs
    subst hcs
    have hlz : len ≤ zs.length := by rw [hz]; split <;> omega
    have ht : (zs.take len).length = len := by simp; omega
    refine ⟨zs.take len, ?_, fun n hn => hwz n (List.mem_of_mem_take hn)⟩
    refine ⟨some a, cap, ?_, ?_, ?_⟩
    · rw [List.length_map, ht]
    · rw [List.length_map, ht]; exact ⟨hl, hm, by simp⟩
    · intro hne
      have h0 : 0 < len := by
        rcases Nat.eq_zero_or_pos len with h0 | h0
        · subst h0; simp at hne
        · exact h0
      obtain ⟨b, off, spot⟩ := a
      have g0 := hcell 0 (by omega)
      have hs : spot = none := by simpa [Addr.add] using World.cell?_spot g0
      subst hs
      refine ⟨b, off, rfl, fun j hj => ?_⟩
      rw [List.length_map, ht] at hj
      have := hcell j (by omega)
      rw [add_off] at this
      rw [this]
      simp [List.getD, List.getElem?_eq_getElem (show j < zs.length by omega)]

theorem Can.fields {t : TypeId} {fs : Array Field} {cs : List Value} (ht : P.underlying t = some (.struct fs)) (h : Can enc P w sp held t cs) :
    ∀ (i : Nat) (f : Field), fs[i]? = some f → Can enc P w sp held f.type ((cs.drop f.offset).take (P.cellsOf f.type)) := by
  obtain ⟨m, x, h⟩ := h
  obtain ⟨xs, n, _, _, _, hl, hf⟩ := DataW.trod_struct ht h
  intro i f hi
  have hlt : i < xs.length := by rw [hl]; exact (Array.getElem?_eq_some_iff.1 hi).1
  exact ⟨n, xs[i], by rw [hf i f hi, List.getElem?_eq_getElem hlt]⟩

theorem arr_of_size {n : Nat} {cs : Array Value} (h : cs.size = n) : ∃ l : List Value, cs = l.toArray ∧ l.length = n := ⟨cs.toList, by simp, by simpa using h⟩
end
end Go.Proofs.Ytlganffeaapebaa
