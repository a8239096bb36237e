/- Which results of a drawn region are known, and what is known of the others: as two lists. No condition. (Over any program.) -/
import Derived.Test.YtlganffeaapebaaTail
namespace Go.Proofs.Ytlganffeaapebaa
open Go.RowKit

def AV (vals : List (Nat × Value)) (news : List (Nat × (Value → World → Prop))) (i : Nat) : Option (Value → World → Prop) :=
  match vals.lookup i with
  | some c => some (fun v _ => v = c)
  | none => news.lookup i

theorem lookup_mem {α : Type} : ∀ (l : List (Nat × α)) (i : Nat) (a : α), l.lookup i = some a → (i, a) ∈ l
  | [], i, a, h => by simp at h
  | (j, b) :: l, i, a, h => by
    rw [List.lookup_cons] at h
    split at h
    · rename_i hij
      have := beq_iff_eq.1 hij
      subst this
      cases h; exact List.mem_cons_self
    · exact List.mem_cons_of_mem _ (lookup_mem l i a h)

theorem AV_pers (vals : List (Nat × Value)) (news : List (Nat × (Value → World → Prop))) (h : ∀ p ∈ news, ∀ v w w', p.2 v w → Below w.heap.size w w' → p.2 v w') :
    ∀ i Ai v w w', AV vals news i = some Ai → Ai v w → Below w.heap.size w w' → Ai v w' := by
  intro i Ai v w w' hA hv hb
  unfold AV at hA
  split at hA
  · cases hA; exact hv
  · exact h _ (lookup_mem _ _ _ hA) v w w' hv hb
theorem AV_V (vals : List (Nat × Value)) (news : List (Nat × (Value → World → Prop))) : ∀ i Ai c u w, AV vals news i = some Ai → vals.lookup i = some c → Ai u w → u = c := by
  intro i Ai c u w hA hV hu
  unfold AV at hA
  rw [hV] at hA
  cases hA; exact hu
/-- A slice of one element in a block of its own. -/
def One (u : Value) (v : Value) (w : World) : Prop := ∃ g, v = .slice (some ⟨g, 0, none⟩) 1 1 ∧ w.cell? ⟨g, 0, none⟩ = some u
theorem bl_one {u v : Value} {w w' : World} (h : One u v w) (hb : Below w.heap.size w w') : One u v w' := by
  obtain ⟨g, h1, h2⟩ := h; exact ⟨g, h1, bl_get hb h2⟩
theorem wpF_nox {P : Program} {ops : Array Oper} {w0 : World} {A : Nat → Option (Value → World → Prop)} {vs : Nat → Value} {Qe : Live → Act → Prop} {i : Nat} {L : Live} {o : Oper} {rest : List Oper} {a : Act}
    (h : ∃ a', a.put o.dst undef = a' ∧ Region.wanted o (yielded ops a.tmps) = false ∧ wpF P ops w0 A vs Qe (i + 1) L rest a') : wpF P ops w0 A vs Qe i L (o :: rest) a := by
  obtain ⟨a', ha, hw, h⟩ := h
  exact wpF_no hw ha h
end Go.Proofs.Ytlganffeaapebaa
