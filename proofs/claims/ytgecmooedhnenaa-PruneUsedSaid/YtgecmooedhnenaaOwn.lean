/- A row of the call's own: one of its cells is read or written anew. No condition. -/
import Derived.Test.YtgecmooedhnenaaAt
import Derived.OwnWalk
namespace Go.Proofs.Ytgecmooedhnenaa
open Go.RowKit

theorem Own.len {B : Nat} {w : World} {e : TypeId} {v : Value} {xs : List Value} (h : Own B w e v xs) : ∃ a cap, v = .slice a xs.length cap := by
  obtain ⟨ao, cap, hv, _⟩ := h.rd
  exact ⟨ao, cap, hv⟩

theorem Own.form {B : Nat} {w : World} {e : TypeId} {v : Value} {xs : List Value} (h : Own B w e v xs) (hne : xs ≠ []) :
    ∃ g cap, v = .slice (some ⟨g, 0, none⟩) xs.length cap ∧ xs.length ≤ cap ∧ cap ≤ maxLen ∧ B ≤ g ∧ g < w.heap.size ∧ (∀ j (hj : j < xs.length), w.cell? ⟨g, j, none⟩ = some xs[j]) ∧ (∀ j, w.frozen? ⟨g, j, none⟩ = false) ∧
      ∀ i (u : Value), i < xs.length → Own B (w.setCell ⟨g, i, none⟩ u) e v (xs.set i u) := by
  have h0 := h
  obtain ⟨hl, hcase⟩ := h
  rcases hcase with ⟨rfl, hn⟩ | ⟨g, cap, cur, rfl, hg, hh, hn, hcap, hsz, htake⟩
  · exact absurd (List.eq_nil_of_length_eq_zero hn) hne
  · rw [Nat.mul_one] at hsz htake
    refine ⟨g, cap, rfl, hn, hcap, hg, (Array.getElem?_eq_some_iff.1 hh).1, fun j hj => ?_, fun j => by simp [World.frozen?, hh], fun i u hi => ?_⟩
    · rw [World.ownsRow.cellAt h0 j (by omega), List.getElem?_eq_getElem hj]
    · refine ⟨by simp, .inr ⟨g, cap, cur.setIfInBounds i u, by simp, hg, ?_, by simpa using hn, hcap, by simpa using hsz, ?_⟩⟩
      · simp [World.setCell, Array.getElem?_modify, hh]
      · rw [Nat.mul_one, Array.toList_setIfInBounds, List.length_set]
        rw [← htake]
        simp only [List.length_take, Array.length_toList]
        rw [show min xs.length cur.size = xs.length from by omega]
        rw [List.take_set]
/-- The same, its block known. -/
theorem Own.at {B : Nat} {w : World} {e : TypeId} {g n cap : Nat} {xs : List Value} (h : Own B w e (.slice (some ⟨g, 0, none⟩) n cap) xs) (hne : xs ≠ []) :
    n = xs.length ∧ xs.length ≤ cap ∧ B ≤ g ∧ g < w.heap.size ∧ (∀ j (hj : j < xs.length), w.cell? ⟨g, j, none⟩ = some xs[j]) ∧ (∀ j, w.frozen? ⟨g, j, none⟩ = false) ∧
      ∀ i (u : Value), i < xs.length → Own B (w.setCell ⟨g, i, none⟩ u) e (.slice (some ⟨g, 0, none⟩) n cap) (xs.set i u) := by
  obtain ⟨g', cap', hv, h1, h2, h3, h4, h5, h6, h7⟩ := h.form hne
  injection hv with e1 e2 e3
  injection e1 with e1
  injection e1 with e1 _ _
  subst e1 e2 e3
  exact ⟨rfl, h1, h3, h4, h5, h6, h7⟩

theorem Own.row {B : Nat} {w : World} {e : TypeId} {v : Value} {xs : List Value} (h : Own B w e v xs) {g : Nat} (hg : g < B) (cs : Array Value) : Own B (w.setRow g cs) e v xs := by
  refine ⟨h.1, ?_⟩
  rcases h.2 with h2 | ⟨k, cap, cur, hv, hk, hh, r⟩
  · exact .inl h2
  · exact .inr ⟨k, cap, cur, hv, hk, (setRow_other w g k cs (by omega)).trans hh, r⟩
theorem Rd.lit (w : World) (t : TypeId) (l : List Value) (fr : Nat × Nat) (h : l.length ≤ 1000000) : Rd (w.alloc (.cells l.toArray t fr)) (.slice (some ⟨w.heap.size, 0, none⟩) l.length l.length) l :=
  ⟨_, _, rfl, ⟨Nat.le_refl _, by unfold maxLen; omega, by simp⟩, fun _ => ⟨w.heap.size, 0, rfl, fun j hj => by
    have hh : (w.alloc (.cells l.toArray t fr)).heap[w.heap.size]? = some (.cells l.toArray t fr) := heap_alloc_new w _
    simp only [World.cell?, hh, Nat.zero_add]; simp⟩⟩
/-- A slice of integers, opened. -/
theorem Rd.ints {w : World} {v : Value} {k : IntKind} {l : List Int} (h : Rd w v (l.map (Value.int k))) :
    ∃ ao cap, v = .slice ao l.length cap ∧ l.length ≤ cap ∧ cap ≤ 9223372036854775807 ∧ (l ≠ [] → ∃ b off, ao = some ⟨b, off, none⟩ ∧ ∀ j (hj : j < l.length), w.cell? ⟨b, off + j, none⟩ = some (.int k l[j])) := by
  obtain ⟨ao, cap, rfl, ⟨h1, h2, _⟩, hc⟩ := h
  rw [List.length_map] at h1
  refine ⟨ao, cap, by rw [List.length_map], h1, by unfold maxLen at h2; exact h2, fun hne => ?_⟩
  obtain ⟨b, off, rfl, hk⟩ := hc (by simpa using hne)
  exact ⟨b, off, rfl, fun j hj => by rw [hk j (by simpa using hj), List.getElem_map]⟩
theorem Own.ints {B : Nat} {w : World} {e : TypeId} {v : Value} {k : IntKind} {l : List Int} (h : Own B w e v (l.map (Value.int k))) :
    ∃ ao cap, v = .slice ao l.length cap ∧ l.length ≤ cap ∧ cap ≤ 9223372036854775807 ∧ (l ≠ [] → ∃ g, ao = some ⟨g, 0, none⟩ ∧ B ≤ g ∧ g < w.heap.size ∧ ∀ j (hj : j < l.length), w.cell? ⟨g, j, none⟩ = some (.int k l[j])) := by
  obtain ⟨ao, cap, hv, h1, h2, _⟩ := h.rd.ints
  refine ⟨ao, cap, hv, h1, h2, fun hne => ?_⟩
  obtain ⟨g, cap', hv', _, _, h3, h4, h5, _⟩ := h.form (by simpa using hne)
  rw [hv] at hv'
  injection hv' with e1 e2 e3
  exact ⟨g, e1, h3, h4, fun j hj => by rw [h5 j (by simpa using hj), List.getElem_map]⟩

theorem madeCells_one (z : Value) (n : Nat) : (madeCells #[z] (n * 1)).toList = List.replicate n z := by
  apply List.ext_getElem?
  intro i
  rw [Nat.mul_one]
  unfold madeCells
  by_cases h : i < n
  · simp [h, Nat.mod_one]
  · simp [h]

/-- 'make' of n one-cell elements. -/
theorem wpList_makeO {P : Program} (w : World) {ops : Array Oper} {rest : List Oper} {o : Oper} {a : Act} {Q : Exit → Act → World → Prop} (hg : o.guard = none) (l c : Operand) (t : TypeId) (hop : o.op = Op.makeSlice t l c)
    (e : TypeId) (i : TypeInfo) (z : Value) (bytes : Nat) (ht : P.underlying t = some (.slice e)) (hi : P.info? e = some i) (hz : i.zero = some z) (hsize : i.size = 1) (hby : i.bytes = bytes) (hbs : bytes ≤ 64) (hzc : z.cells = #[z])
    (kl kc : IntKind) (n : Nat) (hl : a.eval l = .int kl (n : Int)) (hc : a.eval c = .int kc (n : Int)) (hn : n ≤ 1099511627776)
    (hK : ∀ w', Own w.heap.size w' e (.slice (some ⟨w.heap.size, 0, none⟩) n n) (List.replicate n z) → Below w.heap.size w w' → wpList P ops Q rest (a.put o.dst (.slice (some ⟨w.heap.size, 0, none⟩) n n)) w') :
    wpList P ops Q (o :: rest) a w := by
  refine wpList_make_full w hg l c t hop w.heap.size e i z 1 ht hi hz hsize kl kc _ _ n hl hc rfl rfl (by rw [hby]; exact Nat.le_trans (Nat.mul_le_mul hbs hn) (by decide)) (by unfold maxLen; omega) (Nat.le_refl _) ?_
  intro w' hown hgrow
  rw [hzc, madeCells_one] at hown
  refine hK w' ?_ ((Below.refl _ _).grown hgrow (Nat.le_refl _) (by simp))
  unfold Own; rw [List.length_replicate]; exact hown

/-- A row that is filled from its beginning: what A says up to k, what Z said behind. -/
def fill (A Z : List Value) (k : Nat) : List Value := A.take k ++ Z.drop k
theorem fill_zero (A Z : List Value) : fill A Z 0 = Z := by simp [fill]
theorem fill_all (A Z : List Value) (h : A.length = Z.length) : fill A Z A.length = A := by unfold fill; rw [List.take_length, h, List.drop_length, List.append_nil]
theorem fill_len (A Z : List Value) (h : A.length = Z.length) (k : Nat) : (fill A Z k).length = A.length := by simp [fill]; omega
theorem fill_set (A Z : List Value) (h : A.length = Z.length) (k : Nat) (hk : k < A.length) (u : Value) (hu : A[k]? = some u) : (fill A Z k).set k u = fill A Z (k + 1) := by
  apply List.ext_getElem?
  intro i
  unfold fill
  rw [List.getElem?_set]
  simp only [List.getElem?_append, List.length_take, List.length_append, List.length_drop, List.getElem?_take, List.getElem?_drop]
  by_cases hik : k = i
  · subst hik
    simp [hu, show min (k + 1) A.length = k + 1 by omega, show min k A.length = k by omega]
    omega
  · simp only [hik, if_false]
    by_cases h1 : i < k
    · simp [h1, show i < k + 1 by omega, show min (k + 1) A.length = k + 1 by omega, show min k A.length = k by omega]
    · have h2 : ¬ i < k + 1 := by omega
      simp [h1, h2, show min (k + 1) A.length = k + 1 by omega, show min k A.length = k by omega]
      congr 1; omega
end Go.Proofs.Ytgecmooedhnenaa
