/- Some blocks turned, all others as they were. No condition. -/
import Derived.Test.YtlganffeaapebaaOwn
namespace Go.Proofs.Ytlganffeaapebaa
open Go.RowKit

/-- The blocks of G alone may have turned; new ones may have come. -/
structure Upd (G : Nat → Prop) (w w' : World) : Prop where
  os : w'.os = w.os
  tape : w'.tape = w.tape
  output : w'.output = w.output
  size : w.heap.size ≤ w'.heap.size
  block : ∀ k, k < w.heap.size → ¬ G k → w'.heap[k]? = w.heap[k]?

theorem Upd.refl (G : Nat → Prop) (w : World) : Upd G w w := ⟨rfl, rfl, rfl, Nat.le_refl _, fun _ _ _ => rfl⟩
theorem Upd.trans {G : Nat → Prop} {a b c : World} (h : Upd G a b) (k : Upd G b c) : Upd G a c :=
  ⟨k.os.trans h.os, k.tape.trans h.tape, k.output.trans h.output, Nat.le_trans h.size k.size, fun i hi hg => (k.block i (Nat.lt_of_lt_of_le hi h.size) hg).trans (h.block i hi hg)⟩
theorem Upd.mono {G G' : Nat → Prop} {w w' : World} (h : Upd G w w') (hg : ∀ k, G k → G' k) : Upd G' w w' := ⟨h.os, h.tape, h.output, h.size, fun k hk hn => h.block k hk (fun hh => hn (hg k hh))⟩
theorem Upd.of_below {G : Nat → Prop} {w w' : World} (h : Below w.heap.size w w') : Upd G w w' := ⟨h.os, h.tape, h.output, h.size, fun k hk _ => h.block k hk⟩
theorem Upd.set {G : Nat → Prop} {a w : World} (h : Upd G a w) {p : Addr} (hp : G p.block ∨ a.heap.size ≤ p.block) (u : Value) : Upd G a (w.setCell p u) :=
  ⟨h.os, h.tape, h.output, by simpa [World.setCell] using h.size, fun k hk hn => (Below.heap_setCell w p u k (by rcases hp with hp | hp; exact fun e => hn (e ▸ hp); omega)).trans (h.block k hk hn)⟩
theorem Upd.alloc {G : Nat → Prop} {a w : World} (h : Upd G a w) (o : Obj) : Upd G a (w.alloc o) :=
  h.trans (Upd.of_below ((Below.refl _ _).alloc (Nat.le_refl _) _))
theorem Upd.drewN {G : Nat → Prop} {a w : World} (h : Upd G a w) (n : Nat) : Upd G a (w.drewN n) := h.trans ⟨rfl, rfl, rfl, Nat.le_refl _, fun _ _ _ => rfl⟩
theorem Upd.below {G : Nat → Prop} {B : Nat} {w w' : World} (h : Upd G w w') (hg : ∀ k, G k → B ≤ k) (hB : B ≤ w.heap.size) : Below B w w' :=
  ⟨h.os, h.tape, h.output, h.size, fun k hk => h.block k (by omega) (fun hh => by have := hg k hh; omega)⟩
theorem At.upd {G : Nat → Prop} {w w' : World} {g : Nat} {t : TypeId} {cs : Array Value} (h : At w g t cs) (hu : Upd G w w') (hg : ¬ G g) : At w' g t cs := (hu.block g h.lt hg).trans h
theorem Upd.cell {G : Nat → Prop} {w w' : World} (hu : Upd G w w') {b o : Nat} {v : Value} (h : w.cell? ⟨b, o, none⟩ = some v) (hb : ¬ G b) : w'.cell? ⟨b, o, none⟩ = some v := by
  have hl := lt_of_cell h
  unfold World.cell? at h ⊢
  rw [hu.block b hl hb]; exact h
theorem Own.upd {G : Nat → Prop} {B : Nat} {w w' : World} {e : TypeId} {v : Value} {xs : List Value} (h : Own B w e v xs) (hu : Upd G w w') (hg : ∀ k, B ≤ k → ¬ G k) : Own B w' e v xs := by
  refine ⟨h.1, ?_⟩
  rcases h.2 with h2 | ⟨g, cap, cur, hv, hgB, hh, r⟩
  · exact .inl h2
  · refine .inr ⟨g, cap, cur, hv, hgB, ?_, r⟩
    rw [hu.block g (Array.getElem?_eq_some_iff.1 hh).1 (hg g hgB)]
    exact hh
theorem Upd.one (w : World) (g i : Nat) (u : Value) : Upd (· = g) w (w.setCell ⟨g, i, none⟩ u) := Upd.set (G := (· = g)) (p := ⟨g, i, none⟩) (Upd.refl _ _) (.inl rfl) u
end Go.Proofs.Ytlganffeaapebaa
