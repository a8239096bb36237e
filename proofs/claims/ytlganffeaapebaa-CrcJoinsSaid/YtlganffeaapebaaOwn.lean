/- A row of the call's own: one of its cells is read or written anew. No condition. -/
import Derived.Test.YtlganffeaapebaaAt
namespace Go.Proofs.Ytlganffeaapebaa
open Go.RowKit

theorem Own.len {B : Nat} {w : World} {e : TypeId} {v : Value} {xs : List Value} (h : Own B w e v xs) : ∃ a cap, v = .slice a xs.length cap := by
  obtain ⟨ao, cap, hv, _⟩ := h.rd
  exact ⟨ao, cap, hv⟩

theorem Own.form {B : Nat} {w : World} {e : TypeId} {v : Value} {xs : List Value} (h : Own B w e v xs) (hne : xs ≠ []) :
    ∃ g cap, v = .slice (some ⟨g, 0, none⟩) xs.length cap ∧ xs.length ≤ cap ∧ cap ≤ maxLen ∧ B ≤ g ∧ g < w.heap.size ∧ (∀ j (hj : j < xs.length), w.cell? ⟨g, j, none⟩ = some xs[j]) ∧ (∀ j, w.frozen? ⟨g, j, none⟩ = false) ∧
      ∀ i (u : Value), i < xs.length → Own B (w.setCell ⟨g, i, none⟩ u) e v (xs.set i u) := by
  have h0 := h
  obtain ⟨hl, hcase⟩ := h
  rcases hcase with ⟨rfl, hn⟩ | ⟨g, cap, cur, rfl, hg, hh, hn, hcap, hsz, htake⟩
  · exact absurd (List.eq_nil_of_length_eq_zero hn) hne
  · rw [Nat.mul_one] at hsz htake
    refine ⟨g, cap, rfl, hn, hcap, hg, (Array.getElem?_eq_some_iff.1 hh).1, fun j hj => ?_, fun j => by simp [World.frozen?, hh], fun i u hi => ?_⟩
    · rw [World.ownsRow.cellAt h0 j (by omega), List.getElem?_eq_getElem hj]
    · refine ⟨by simp, .inr ⟨g, cap, cur.setIfInBounds i u, by simp, hg, ?_, by simpa using hn, hcap, by simpa using hsz, ?_⟩⟩
      · simp [World.setCell, Array.getElem?_modify, hh]
      · rw [Nat.mul_one, Array.toList_setIfInBounds, List.length_set]
        rw [← htake]
        simp only [List.length_take, Array.length_toList]
        rw [show min xs.length cur.size = xs.length from by omega]
        rw [List.take_set]
end Go.Proofs.Ytlganffeaapebaa
