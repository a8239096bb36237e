/- What an argument of any type reads as: numbers, truth values, slices, structs, one in the other. No condition. -/
import Derived.Test.YtgecmooedhnenaaFin
import Derived.Test.YtgecmooedhnenaaOpen
namespace Go.Proofs.Ytgecmooedhnenaa
open Go.RowKit Go.ChangeShapes Go.WideShapes

/-- Cells that are as told. -/
def CellsAre (w : World) (l : List AV) (cs : List Value) : Prop := cs.length = l.length ∧ ∀ (i : Nat) (a : AV) (v : Value), l[i]? = some a → cs[i]? = some v → PRel (fun _ => False) w a v ∧ v.oneCell' = true
theorem CellsAre.one {w : World} {a : AV} {v : Value} (h : PRel (fun _ => False) w a v) (h1 : v.oneCell' = true) : CellsAre w [a] [v] := ⟨rfl, fun i x y hx hy => by
  cases i with
  | zero => simp at hx hy; subst hx hy; exact ⟨h, h1⟩
  | succ i => simp at hx⟩
theorem CellsAre.app {w : World} {l m : List AV} {cs ds : List Value} (h : CellsAre w l cs) (g : CellsAre w m ds) : CellsAre w (l ++ m) (cs ++ ds) := ⟨by simp [h.1, g.1], fun i a v ha hv => by
  rw [List.getElem?_append] at ha hv
  rw [h.1] at hv
  split at ha
  · rw [if_pos ‹_›] at hv; exact h.2 i a v ha hv
  · rw [if_neg ‹_›] at hv; exact g.2 _ a v ha hv⟩
theorem CellsAre.rel {w : World} {l : List AV} {cs : List Value} (h : CellsAre w l cs) : RelL w l cs := ⟨h.1, fun i a v ha hv => .pure (h.2 i a v ha hv).1⟩
theorem CellsAre.agg {w : World} {l : List AV} {cs : List Value} (h : CellsAre w l cs) : Rel (fun _ => none) (fun _ => False) w (.agg l) (.agg cs.toArray) := RelL.agg h.rel
theorem CellsAre.val {w : World} {a : AV} {v : Value} (h : CellsAre w [a] [v]) : Rel (fun _ => none) (fun _ => False) w a v := h.rel.2 0 a v rfl rfl
section
variable {H : Type} (enc : TypeId × Value → H) (P : Program) (w : World)
/-- Values of the type t read as D. -/
def Rdr (t : TypeId) (D : Type) (av : D → List AV) (ok : D → Prop) : Prop := ∀ cs, Can enc P w (fun _ => true) true t cs → cs.length = P.cellsOf t → ∃ d, ok d ∧ CellsAre w (av d) cs
variable {enc P w}
theorem Rdr.map {t : TypeId} {D E : Type} {av : D → List AV} {ok : D → Prop} {av' : E → List AV} {ok' : E → Prop} (h : Rdr enc P w t D av ok) (g : D → E) (ha : ∀ d, av' (g d) = av d) (hk : ∀ d, ok d → ok' (g d)) : Rdr enc P w t E av' ok' := fun cs hc hl => by
  obtain ⟨d, h1, h2⟩ := h cs hc hl
  exact ⟨g d, hk d h1, by rw [ha]; exact h2⟩
theorem one_of_len {cs : List Value} (h : cs.length = 1) : ∃ c, cs = [c] := by
  match cs, h with
  | [c], _ => exact ⟨c, rfl⟩
theorem Rdr.int {t : TypeId} {k : IntKind} {ok : Int → Prop} (ht : P.underlying t = some (.int k)) (hc : P.cellsOf t = 1) (hk : ∀ n, (Lit.int k n).wf = true → ok n) : Rdr enc P w t Int (fun n => [.lit (.int k n)]) ok := fun cs h hl => by
  obtain ⟨c, rfl⟩ := one_of_len (hl.trans hc)
  obtain ⟨n, rfl, hw⟩ := Can.int ht h
  exact ⟨n, hk n hw, .one (.lit _) rfl⟩
theorem Rdr.bool {t : TypeId} (ht : P.underlying t = some .bool) (hc : P.cellsOf t = 1) : Rdr enc P w t Bool (fun b => [.lit (.bool b)]) (fun _ => True) := fun cs h hl => by
  obtain ⟨c, rfl⟩ := one_of_len (hl.trans hc)
  obtain ⟨b, rfl⟩ := Can.bool ht h
  exact ⟨b, trivial, .one (.lit _) rfl⟩
theorem Rdr.slice {t e : TypeId} {c : Nat} {D : Type} {av : D → List AV} {ok : D → Prop} (ht : P.underlying t = some (.slice e)) (hct : P.cellsOf t = 1) (hc : P.cellsOf e = c) (hc0 : 0 < c) (h : Rdr enc P w e D av ok) :
    Rdr enc P w t (List D) (fun l => [.sl c (l.map av)]) (fun l => ∀ d ∈ l, ok d) := fun cs hcan hl => by
  obtain ⟨v, rfl⟩ := one_of_len (hl.trans hct)
  obtain ⟨rs, ⟨hlen, ao, cap, rfl, ⟨h1, h2, h3⟩, hcell⟩, hr⟩ := Can.slice ht hc hc0 hcan
  have hds : ∀ (rs : List (List Value)), (∀ r ∈ rs, r.length = c) → (∀ r ∈ rs, Can enc P w (fun _ => true) true e r) → ∃ l : List D, l.length = rs.length ∧ (∀ d ∈ l, ok d) ∧ ∀ (i : Nat) (d : D) (r : List Value), l[i]? = some d → rs[i]? = some r → CellsAre w (av d) r := by
    intro rs
    induction rs with
    | nil => intro _ _; exact ⟨[], rfl, by simp, by simp⟩
    | cons r rs ih =>
      intro hl hr
      obtain ⟨d, g1, g2⟩ := h r (hr r (by simp)) ((hl r (by simp)).trans hc.symm)
      obtain ⟨l, g3, g4, g5⟩ := ih (fun q hq => hl q (by simp [hq])) (fun q hq => hr q (by simp [hq]))
      refine ⟨d :: l, by simp [g3], fun x hx => ?_, fun i x q hx hq => ?_⟩
      · rcases List.mem_cons.1 hx with rfl | hx
        · exact g1
        · exact g4 x hx
      · cases i with
        | zero => simp at hx hq; subst hx hq; exact g2
        | succ i => exact g5 i x q (by simpa using hx) (by simpa using hq)
  obtain ⟨l, g1, g2, g3⟩ := hds rs hlen hr
  refine ⟨l, g2, .one ?_ rfl⟩
  by_cases hne : rs = []
  · subst hne
    have : l = [] := List.eq_nil_of_length_eq_zero g1
    subst this
    exact .nil c h2 h3
  · obtain ⟨b, off, rfl, hcv⟩ := hcell hne
    have hlm : rs.length = (l.map av).length := by rw [List.length_map, g1]
    rw [hlm]
    have get : ∀ (i : Nat) (q : List AV), (l.map av)[i]? = some q → ∃ (r : List Value), rs[i]? = some r ∧ CellsAre w q r ∧ r.length = c := by
      intro i q hq
      rw [List.getElem?_map, Option.map_eq_some_iff] at hq
      obtain ⟨d, hd, rfl⟩ := hq
      have hi : i < rs.length := by rw [← g1]; exact (List.getElem?_eq_some_iff.1 hd).1
      exact ⟨rs[i], List.getElem?_eq_getElem hi, g3 i d _ hd (List.getElem?_eq_getElem hi), hlen _ (List.getElem_mem hi)⟩
    have cell : ∀ (i : Nat) (q : List AV) (j : Nat) (a : AV), (l.map av)[i]? = some q → q[j]? = some a → w.cell? ⟨b, off + i * c + j, none⟩ = some (((rs[i]?).getD [])[j]?.getD undef) ∧ PRel (fun _ => False) w a (((rs[i]?).getD [])[j]?.getD undef) ∧ (((rs[i]?).getD [])[j]?.getD undef).oneCell' = true := by
      intro i q j a hq ha
      obtain ⟨r, hr, hca, _⟩ := get i q hq
      have hj : j < r.length := by rw [hca.1]; exact (List.getElem?_eq_some_iff.1 ha).1
      rw [hr, Option.getD_some, List.getElem?_eq_getElem hj, Option.getD_some]
      have := hca.2 j a _ ha (List.getElem?_eq_getElem hj)
      exact ⟨hcv i r j _ hr (List.getElem?_eq_getElem hj), this.1, this.2⟩
    refine .sl (fun i j => ((rs[i]?).getD [])[j]?.getD undef) (fun _ h => h) (fun hn => ?_) (by rw [← hlm]; exact h1) h2 (fun i q hq => ?_) (fun i q j a hq ha => (cell i q j a hq ha).1) (fun i q j a hq ha => (cell i q j a hq ha).2.1) (fun i q j a hq ha => (cell i q j a hq ha).2.2)
    · have h0 : 0 < rs.length := List.length_pos_iff.2 hne
      have hl0 : 0 < (rs[0]).length := by rw [hlen _ (List.getElem_mem h0)]; exact hc0
      exact World.block_lt_of_cell? w _ (hcv 0 rs[0] 0 _ (List.getElem?_eq_getElem h0) (List.getElem?_eq_getElem hl0))
    · obtain ⟨r, _, hca, hrl⟩ := get i q hq
      rw [← hca.1, hrl]
/-- A struct's fields from an offset on. -/
def RdrF (enc : TypeId × Value → H) (P : Program) (w : World) (fs : List Field) (off n : Nat) (D : Type) (av : D → List AV) (ok : D → Prop) : Prop :=
  ∀ cs : List Value, cs.length = n → (∀ f ∈ fs, Can enc P w (fun _ => true) true f.type ((cs.drop f.offset).take (P.cellsOf f.type))) → ∃ d, ok d ∧ CellsAre w (av d) (cs.drop off)
theorem RdrF.nil {n off : Nat} (h : n ≤ off) : RdrF enc P w [] off n Unit (fun _ => []) (fun _ => True) := fun cs hl _ => ⟨(), trivial, by
  rw [List.drop_eq_nil_of_le (by omega)]; exact ⟨rfl, by simp⟩⟩
theorem RdrF.cons {f : Field} {fs : List Field} {off n c : Nat} {D E : Type} {av : D → List AV} {ok : D → Prop} {av' : E → List AV} {ok' : E → Prop} (ho : f.offset = off) (hc : P.cellsOf f.type = c) (hn : off + c ≤ n) (h : Rdr enc P w f.type D av ok) (g : RdrF enc P w fs (off + c) n E av' ok') :
    RdrF enc P w (f :: fs) off n (D × E) (fun d => av d.1 ++ av' d.2) (fun d => ok d.1 ∧ ok' d.2) := fun cs hl hf => by
  obtain ⟨d, h1, h2⟩ := h _ (hf f (by simp)) (by simp; omega)
  obtain ⟨e, h3, h4⟩ := g cs hl (fun x hx => hf x (by simp [hx]))
  refine ⟨(d, e), ⟨h1, h3⟩, ?_⟩
  have : cs.drop off = (cs.drop f.offset).take (P.cellsOf f.type) ++ cs.drop (off + c) := by
    rw [ho, hc, ← List.drop_drop, List.take_append_drop]
  rw [this]; exact h2.app h4
theorem Rdr.struct {t : TypeId} {fs : List Field} {n : Nat} {D : Type} {av : D → List AV} {ok : D → Prop} (ht : P.underlying t = some (.struct fs.toArray)) (hn : P.cellsOf t = n) (h : RdrF enc P w fs 0 n D av ok) : Rdr enc P w t D av ok := fun cs hc hl => by
  obtain ⟨d, h1, h2⟩ := h cs (hl.trans hn) (fun f hf => by
    obtain ⟨i, hi⟩ := List.mem_iff_getElem?.1 hf
    exact Can.fields ht hc i f (by simpa using hi))
  exact ⟨d, h1, by simpa using h2⟩
/-- A struct as an argument. -/
theorem Rdr.aggV {t : TypeId} {fs : Array Field} {D : Type} {av : D → List AV} {ok : D → Prop} {v : Value} {d : DataW H} {p : List MemPlace} {r : Reach} {base : Nat} (h : Rdr enc P w t D av ok) (ht : P.underlying t = some (.struct fs)) (hv : Value.okWide P w r base t v) (hd : DataW.Trod enc P w 0 (fun _ => true) true t v d p) :
    ∃ x, ok x ∧ Rel (fun _ => none) (fun _ => False) w (.agg (av x)) v := by
  obtain ⟨cs, rfl, hs⟩ := okWide_struct ht hv
  obtain ⟨x, h1, h2⟩ := h _ (Can.of hd) (by simpa [Value.cells] using hs)
  refine ⟨x, h1, ?_⟩
  have := h2.agg
  simpa [Value.cells] using this
theorem Rdr.oneV {t : TypeId} {D : Type} {a : D → AV} {ok : D → Prop} {v : Value} {d : DataW H} {p : List MemPlace} (h : Rdr enc P w t D (fun x => [a x]) ok) (hv : v.cells = #[v]) (hc : P.cellsOf t = 1) (hd : DataW.Trod enc P w 0 (fun _ => true) true t v d p) : ∃ x, ok x ∧ Rel (fun _ => none) (fun _ => False) w (a x) v := by
  obtain ⟨x, h1, h2⟩ := h _ (Can.of hd) (by rw [hv, hc]; rfl)
  rw [hv] at h2
  exact ⟨x, h1, CellsAre.val h2⟩
end
end Go.Proofs.Ytgecmooedhnenaa

