/- From the world's words into those of values: what a law's arguments are. No condition. -/
import Derived.Test.YtgecmooedhnenaaCore
import Derived.Test.YtgecmooedhnenaaOwn
namespace Go.Proofs.Ytgecmooedhnenaa
open Go.RowKit
set_option linter.unusedSimpArgs false
set_option linter.unusedVariables false
set_option linter.unnecessarySimpa false

def RelL (w : World) (l : List AV) (vs : List Value) : Prop := vs.length = l.length ∧ ∀ (i : Nat) (c : AV) (v : Value), l[i]? = some c → vs[i]? = some v → Rel (fun _ => none) (fun _ => False) w c v
theorem RelL.nil (w : World) : RelL w [] [] := ⟨rfl, fun i c v h => by simp at h⟩
theorem RelL.cons {w : World} {c : AV} {v : Value} {l : List AV} {vs : List Value} (h : Rel (fun _ => none) (fun _ => False) w c v) (hl : RelL w l vs) : RelL w (c :: l) (v :: vs) := ⟨by simp [hl.1], fun i a b ha hb => by
  cases i with
  | zero => simp at ha hb; subst ha hb; exact h
  | succ i => exact hl.2 i a b (by simpa using ha) (by simpa using hb)⟩
theorem RelL.agg {w : World} {l : List AV} {vs : List Value} (h : RelL w l vs) : Rel (fun _ => none) (fun _ => False) w (.agg l) (.agg vs.toArray) := .agg h.1 h.2
theorem rel_l (w : World) (v : Value) : Rel (fun _ => none) (fun _ => False) w (.lit v) v := .pure (.lit v)
theorem rel_ints {w : World} {v : Value} {k : IntKind} {l : List Int} (h : Rd w v (l.map (Value.int k))) : Rel (fun _ => none) (fun _ => False) w (ints k l) v := by
  obtain ⟨ao, cap, rfl, ⟨h1, h2, h3⟩, hc⟩ := h
  cases ao with
  | none =>
    have hc0 := h3 rfl
    have hl : l = [] := by
      have : (l.map (Value.int k)).length ≤ 0 := by omega
      simpa using this
    subst hl; subst hc0
    exact .pure (.nil 1 h2 (fun _ => rfl))
  | some a =>
    have hb : ∃ b off, (l ≠ [] → some a = some ⟨b, off, none⟩) ∧ (l ≠ [] → ∀ j (h : j < (l.map (Value.int k)).length), w.cell? ⟨b, off + j, none⟩ = some (l.map (Value.int k))[j]) := by
      by_cases hl : l = []
      · exact ⟨0, 0, fun h => absurd hl h, fun h => absurd hl h⟩
      · obtain ⟨b, off, e, hh⟩ := hc (by simpa using hl)
        exact ⟨b, off, fun _ => e, fun _ => hh⟩
    obtain ⟨b, off, e, hh⟩ := hb
    have key : ∀ (ad : Addr), (l ≠ [] → ad = ⟨b, off, none⟩) → ad.spot = none → Rel (fun _ => none) (fun _ => False) w (ints k l) (.slice (some ad) (l.map (Value.int k)).length cap) := by
      rintro ⟨b', off', spot⟩ had hs
      simp only at hs; subst hs
      have hlen : (l.map (Value.int k)).length = (l.map (row1 k)).length := by simp
      rw [hlen]
      refine .pure (.sl (fun i _ => .int k (l.getD i 0)) (fun _ h => h) (fun hne => ?_) (by simpa using h1) h2 (fun i r hi => ?_) (fun i r j c hi hj => ?_) (fun i r j c hi hj => ?_) (fun i r j c hi hj => rfl))
      · have hl : l ≠ [] := by rintro rfl; exact hne rfl
        have hadd := had hl
        injection hadd with e1 e2
        subst e1 e2
        have := hh hl 0 (by have := List.length_pos_iff.2 hl; simpa using this)
        exact World.block_lt_of_cell? w _ this
      · rw [List.getElem?_map, Option.map_eq_some_iff] at hi
        obtain ⟨x, _, rfl⟩ := hi; rfl
      · rw [List.getElem?_map, Option.map_eq_some_iff] at hi
        obtain ⟨x, hx, rfl⟩ := hi
        have hl : l ≠ [] := by rintro rfl; simp at hx
        have hadd := had hl
        injection hadd with e1 e2
        subst e1 e2
        have hj0 : j = 0 := by have := (List.getElem?_eq_some_iff.1 hj).1; simp at this; exact this
        subst hj0
        have hi' := (List.getElem?_eq_some_iff.1 hx).1
        have := hh hl i (by simpa using hi')
        rw [Nat.mul_one, Nat.add_zero, this, List.getElem_map]
        simp [List.getD, hx, (List.getElem?_eq_some_iff.1 hx).2]
      · rw [List.getElem?_map, Option.map_eq_some_iff] at hi
        obtain ⟨x, hx, rfl⟩ := hi
        have hj0 : j = 0 := by have := (List.getElem?_eq_some_iff.1 hj).1; simp at this; exact this
        subst hj0
        simp at hj; subst hj
        simp only [List.getD, hx, Option.getD_some]; exact .lit _
    by_cases hl : l = []
    · subst hl
      exact .pure (.nil 1 h2 h3)
    · have ha := e hl; injection ha with ha
      exact key a (fun _ => ha) (by rw [ha])
/-- The value u reads as the tensor T. -/
def TenAt (k : IntKind) (w : World) (u : Value) (T : Ten) : Prop := ∃ v, u = .agg #[.int .i64 T.h, .int .i64 T.x, .int .i64 T.c, v] ∧ Rd w v (T.d.map (Value.int k))
theorem ten_rel {k : IntKind} {w : World} {u : Value} {T : Ten} (h : TenAt k w u T) : Rel (fun _ => none) (fun _ => False) w (ten k T) u := by
  obtain ⟨v, rfl, hv⟩ := h
  exact RelL.agg (.cons (rel_l w _) (.cons (rel_l w _) (.cons (rel_l w _) (.cons (rel_ints hv) (.nil w)))))
/-- The value u reads as the node n. -/
def NodAt (w : World) (u : Value) (n : Nod) : Prop := ∃ vw vb, u = .agg #[.int .i64 n.kd, .int .i64 n.na, .int .i64 n.nb, .int .i64 n.nk, .int .i64 n.ns, .int .i64 n.np, .int .i64 n.no, .int .i8 n.za, .int .i8 n.zb, vw, vb,
  .int .i32 n.qm, .int .i64 n.qs, .int .i8 n.qz, .int .i32 n.rm, .int .i64 n.rs, .int .i8 n.rz, .int .i8 n.lo, .int .i8 n.hi] ∧ Rd w vw (n.w.map (Value.int .i8)) ∧ Rd w vb (n.b.map (Value.int .i32))
theorem nod_rel {w : World} {u : Value} {n : Nod} (h : NodAt w u n) : Rel (fun _ => none) (fun _ => False) w (nod n) u := by
  obtain ⟨vw, vb, rfl, hw, hb⟩ := h
  have l := rel_l w
  exact RelL.agg (.cons (l _) (.cons (l _) (.cons (l _) (.cons (l _) (.cons (l _) (.cons (l _) (.cons (l _) (.cons (l _) (.cons (l _) (.cons (rel_ints hw) (.cons (rel_ints hb)
    (.cons (l _) (.cons (l _) (.cons (l _) (.cons (l _) (.cons (l _) (.cons (l _) (.cons (l _) (.cons (l _) (.nil w))))))))))))))))))))
theorem lits_rel (w : World) (k : IntKind) (z : List Int) : Rel (fun _ => none) (fun _ => False) w (.agg (z.map fun v => AV.lit (.int k v))) (.agg (z.map (Value.int k)).toArray) := RelL.agg ⟨by simp, fun i c v hc hv => by
  rw [List.getElem?_map, Option.map_eq_some_iff] at hc hv
  obtain ⟨x, hx, rfl⟩ := hc; obtain ⟨y, hy, rfl⟩ := hv
  rw [hx] at hy; injection hy with hy; subst hy; exact rel_l w _⟩
theorem range_map {α : Type} (z : List Int) (n : Nat) (h : z.length = n) (f : Int → α) : ((List.range n).map fun i => f (z.getD i 0)) = z.map f := by
  apply List.ext_getElem?
  intro i
  rw [List.getElem?_map, List.getElem?_map]
  by_cases hi : i < n
  · rw [List.getElem?_range hi, List.getElem?_eq_getElem (by omega)]
    simp [List.getD, List.getElem?_eq_getElem (show i < z.length by omega)]
  · rw [List.getElem?_eq_none (by simpa using Nat.le_of_not_lt hi), List.getElem?_eq_none (by omega)]; rfl
/-- A law that holds, in the world's words. -/
theorem law_of {P : Program} {f : Nat} {args : List AV} {xs : List Value} {w : World} (h : VC P f args (bv true)) (hr : RelL w args xs) : Calls P f xs.toArray w fun e w' => e = .returned (.bool true) ∧ Below w.heap.size w w' :=
  (h (fun _ => False) w xs (fun _ h => h.elim) hr.1 hr.2).mono fun e w' ⟨x, he, hx, hb⟩ => ⟨by rw [he, rel_lit hx], hb⟩
end Go.Proofs.Ytgecmooedhnenaa

