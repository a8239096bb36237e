/- A region that draws its order, with calls that turn blocks of the caller's own: those calls stand in a row, whatever else floats between them. No condition. (A theorem over any program.) -/
import Derived.Test.YtlganffeaapebaaAv
import Derived.Test.YtlganffeaapebaaUpd
namespace Go.Proofs.Ytlganffeaapebaa
open Go.RowKit

/-- The state behind the last one of the calls that turn something. -/
def stOf (S0 : World → Prop) (St : Nat → World → Prop) : Option Nat → World → Prop
  | none => S0
  | some j => St j

def ClsS (ops : Array Oper) (G : Nat → Prop) (w0 : World) (L : Live) (i : Nat) (w : World) : Prop :=
  Upd G w0 w ∧ ∀ p ∈ L, anc ops i p.1 = true → p.2 w

def wpS (P : Program) (ops : Array Oper) (G : Nat → Prop) (w0 : World) (A : Nat → Option (Value → World → Prop)) (T : Nat → Bool) (S0 : World → Prop) (St : Nat → World → Prop) (vs : Nat → Value) (Qe : Live → Option Nat → Act → Prop) : Nat → Live → Option Nat → List Oper → Act → Prop
  | _, L, c, [], a => Qe L c a
  | i, L, c, o :: rest, a =>
    (Region.wanted o (yielded ops a.tmps) = true →
      match A i with
      | some Ai => (if T i = true then
          (∀ w, ClsS ops G w0 L i w → stOf S0 St c w → ∀ K Qp, (∀ u w', Upd G w w' → Ai u w' → St i w' → K (a.put o.dst u) w') → o.wp P a w K Qp) ∧ wpS P ops G w0 A T S0 St vs Qe (i + 1) ((i, Ai (vs i)) :: L) (some i) rest (a.put o.dst (vs i))
        else (∀ w, ClsS ops G w0 L i w → ∀ K Qp, (∀ u w', Below w.heap.size w w' → Ai u w' → K (a.put o.dst u) w') → o.wp P a w K Qp) ∧ wpS P ops G w0 A T S0 St vs Qe (i + 1) ((i, Ai (vs i)) :: L) c rest (a.put o.dst (vs i)))
      | none => T i = false ∧ ∃ v, (∀ w, ClsS ops G w0 L i w → ∀ K Qp, K (a.put o.dst v) w → o.wp P a w K Qp) ∧ wpS P ops G w0 A T S0 St vs Qe (i + 1) L c rest (a.put o.dst v)) ∧
    (Region.wanted o (yielded ops a.tmps) = false → wpS P ops G w0 A T S0 St vs Qe (i + 1) L c rest (a.put o.dst undef))

/-- The last call ahead of i that turns something and is carried out. -/
def lastS (ops : Array Oper) (a0 : Act) (val : Nat → Value) (T : Nat → Bool) : Nat → Option Nat
  | 0 => none
  | i + 1 => if T i = true ∧ ((ops[i]?).map fun o => Region.wanted o (yielded ops (acts ops a0 val i).tmps)) = some true then some i else lastS ops a0 val T i

theorem lastS_congr {ops : Array Oper} {a0 : Act} {val val' : Nat → Value} {T : Nat → Bool} : ∀ i, (∀ j, j < i → val j = val' j) → lastS ops a0 val T i = lastS ops a0 val' T i
  | 0, _ => rfl
  | i + 1, h => by rw [lastS, lastS, acts_congr i (fun j hj => h j (by omega)), lastS_congr i (fun j hj => h j (by omega))]

theorem lastS_some {ops : Array Oper} {a0 : Act} {val : Nat → Value} {T : Nat → Bool} : ∀ i j, lastS ops a0 val T i = some j →
    j < i ∧ T j = true ∧ (∃ o, ops[j]? = some o ∧ Region.wanted o (yielded ops (acts ops a0 val j).tmps) = true) ∧ ∀ k o, j < k → k < i → T k = true → ops[k]? = some o → Region.wanted o (yielded ops (acts ops a0 val k).tmps) = false
  | 0, j, h => by cases h
  | i + 1, j, h => by
    rw [lastS] at h
    split at h
    · rename_i hc
      cases h
      obtain ⟨h1, h2⟩ := hc
      obtain ⟨o, ho, hw⟩ := Option.map_eq_some_iff.1 h2
      exact ⟨by omega, h1, ⟨o, ho, hw⟩, fun k o hk hk2 => by omega⟩
    · rename_i hc
      obtain ⟨h1, h2, h3, h4⟩ := lastS_some i j h
      refine ⟨by omega, h2, h3, fun k o hjk hki hT ho => ?_⟩
      by_cases hki' : k = i
      · subst hki'
        cases hw : Region.wanted o (yielded ops (acts ops a0 val k).tmps) with
        | false => rfl
        | true => exact absurd ⟨hT, by rw [ho]; simp [hw]⟩ hc
      · exact h4 k o hjk (by omega) hT ho
theorem lastS_none {ops : Array Oper} {a0 : Act} {val : Nat → Value} {T : Nat → Bool} : ∀ i, lastS ops a0 val T i = none →
    ∀ k o, k < i → T k = true → ops[k]? = some o → Region.wanted o (yielded ops (acts ops a0 val k).tmps) = false
  | 0, _, k, o, hk => by omega
  | i + 1, h, k, o, hk => by
    intro hT ho
    rw [lastS] at h
    split at h
    · cases h
    · rename_i hc
      by_cases hki' : k = i
      · subst hki'
        cases hw : Region.wanted o (yielded ops (acts ops a0 val k).tmps) with
        | false => rfl
        | true => exact absurd ⟨hT, by rw [ho]; simp [hw]⟩ hc
      · exact lastS_none i h k o (by omega) hT ho

/-- What the walk says of operation i. -/
def LexS (P : Program) (ops : Array Oper) (G : Nat → Prop) (w0 : World) (A : Nat → Option (Value → World → Prop)) (T : Nat → Bool) (S0 : World → Prop) (St : Nat → World → Prop) (vs val : Nat → Value) (L : Live) (c : Option Nat) (i : Nat) (o : Oper) (a : Act) : Prop :=
  (Region.wanted o (yielded ops a.tmps) = true →
    match A i with
    | some Ai => val i = vs i ∧ (if T i = true then ∀ w, ClsS ops G w0 L i w → stOf S0 St c w → ∀ K Qp, (∀ u w', Upd G w w' → Ai u w' → St i w' → K (a.put o.dst u) w') → o.wp P a w K Qp
        else ∀ w, ClsS ops G w0 L i w → ∀ K Qp, (∀ u w', Below w.heap.size w w' → Ai u w' → K (a.put o.dst u) w') → o.wp P a w K Qp)
    | none => T i = false ∧ ∀ w, ClsS ops G w0 L i w → ∀ K Qp, K (a.put o.dst (val i)) w → o.wp P a w K Qp) ∧
  (Region.wanted o (yielded ops a.tmps) = false → val i = undef)

theorem lex_ofS {P : Program} {ops : Array Oper} {G : Nat → Prop} {w0 : World} {A : Nat → Option (Value → World → Prop)} {T : Nat → Bool} {S0 : World → Prop} {St : Nat → World → Prop} {vs : Nat → Value} {Qe : Live → Option Nat → Act → Prop} {a0 : Act} :
    ∀ (rest : List Oper) (i : Nat) (L : Live) (val0 : Nat → Value), (∀ k, rest[k]? = ops[i + k]?) → (∀ p ∈ L, Alive ops A vs val0 a0 i p) → wpS P ops G w0 A T S0 St vs Qe i L (lastS ops a0 val0 T i) rest (acts ops a0 val0 i) →
      ∃ val, (∀ j, j < i → val j = val0 j) ∧ (∀ k o, i ≤ k → ops[k]? = some o → ∃ Lk, (∀ p ∈ Lk, Alive ops A vs val a0 k p) ∧ LexS P ops G w0 A T S0 St vs val Lk (lastS ops a0 val T k) k o (acts ops a0 val k)) ∧
        ∃ Le, (∀ p ∈ Le, Alive ops A vs val a0 (i + rest.length) p) ∧ Qe Le (lastS ops a0 val T (i + rest.length)) (acts ops a0 val (i + rest.length))
  | [], i, L, val0, hr, hL, h => by
    refine ⟨val0, fun _ _ => rfl, fun k o hk hko => ?_, L, hL, h⟩
    have := hr (k - i)
    rw [show i + (k - i) = k from by omega, hko] at this
    simp at this
  | o :: rest, i, L, val0, hr, hL, h => by
    have ho : ops[i]? = some o := by have := hr 0; simpa using this.symm
    have hrest : ∀ k, rest[k]? = ops[i + 1 + k]? := fun k => by have := hr (k + 1); rw [show i + 1 + k = i + (k + 1) from by omega]; simpa using this
    -- the value that is laid at i
    have main : ∀ (v : Value) (L' : Live), (∀ p ∈ L', Alive ops A vs (fun j => if j = i then v else val0 j) a0 (i + 1) p) →
        LexS P ops G w0 A T S0 St vs (fun j => if j = i then v else val0 j) L (lastS ops a0 val0 T i) i o (acts ops a0 val0 i) →
        wpS P ops G w0 A T S0 St vs Qe (i + 1) L' (if T i = true ∧ Region.wanted o (yielded ops (acts ops a0 val0 i).tmps) = true then some i else lastS ops a0 val0 T i) rest ((acts ops a0 val0 i).put o.dst v) →
        ∃ val, (∀ j, j < i → val j = val0 j) ∧ (∀ k o, i ≤ k → ops[k]? = some o → ∃ Lk, (∀ p ∈ Lk, Alive ops A vs val a0 k p) ∧ LexS P ops G w0 A T S0 St vs val Lk (lastS ops a0 val T k) k o (acts ops a0 val k)) ∧
          ∃ Le, (∀ p ∈ Le, Alive ops A vs val a0 (i + (o :: rest).length) p) ∧ Qe Le (lastS ops a0 val T (i + (o :: rest).length)) (acts ops a0 val (i + (o :: rest).length)) := by
      intro v L' hL' hlex hw
      have ea : acts ops a0 (fun j => if j = i then v else val0 j) i = acts ops a0 val0 i := acts_congr i (fun j hj => by rw [if_neg (by omega)])
      have el : lastS ops a0 (fun j => if j = i then v else val0 j) T i = lastS ops a0 val0 T i := lastS_congr i (fun j hj => by rw [if_neg (by omega)])
      have e1 : acts ops a0 (fun j => if j = i then v else val0 j) (i + 1) = (acts ops a0 val0 i).put o.dst v := by
        rw [acts, ea, ho]; simp
      have e2 : lastS ops a0 (fun j => if j = i then v else val0 j) T (i + 1) = if T i = true ∧ Region.wanted o (yielded ops (acts ops a0 val0 i).tmps) = true then some i else lastS ops a0 val0 T i := by
        rw [lastS, ea, el, ho]; simp
      obtain ⟨val, hv, hk, Le, hLe, hq⟩ := lex_ofS rest (i + 1) L' (fun j => if j = i then v else val0 j) hrest hL' (by rw [e1, e2]; exact hw)
      have hvi : val i = v := by rw [hv i (by omega), if_pos rfl]
      have hvl : ∀ j, j < i → val j = val0 j := fun j hj => by rw [hv j (by omega), if_neg (by omega)]
      refine ⟨val, hvl, fun k o' hik hko => ?_, Le, ?_, ?_⟩
      · by_cases hki : k = i
        · subst hki
          rw [ho] at hko; cases hko
          refine ⟨L, fun p hp => ?_, ?_⟩
          · obtain ⟨o', Aj, h1, h2, h3, h4, h5⟩ := hL p hp
            exact ⟨o', Aj, h1, h2, h3, by rw [acts_congr p.1 (fun j hj => hvl j (by omega))]; exact h4, h5⟩
          · rw [acts_congr k hvl, lastS_congr k hvl]
            unfold LexS at hlex ⊢
            simp only [if_true] at hlex
            rw [hvi]; exact hlex
        · exact hk k o' (by omega) hko
      · intro p hp; have := hLe p hp; rw [show i + (o :: rest).length = i + 1 + rest.length from by simp; omega]; exact this
      · rw [show i + (o :: rest).length = i + 1 + rest.length from by simp; omega]; exact hq
    have keepL : ∀ v, ∀ p ∈ L, Alive ops A vs (fun j => if j = i then v else val0 j) a0 (i + 1) p := fun v p hp => by
      obtain ⟨o', Aj, h1, h2, h3, h4, h5⟩ := hL p hp
      exact ⟨o', Aj, by omega, h2, h3, by rw [acts_congr p.1 (val' := val0) (fun j hj => by rw [if_neg (by omega)])]; exact h4, h5⟩
    cases hw : Region.wanted o (yielded ops (acts ops a0 val0 i).tmps) with
    | false =>
      refine main undef L (keepL undef) ⟨fun h1 => (no_tf hw h1).elim, fun _ => by simp⟩ ?_
      rw [if_neg (by rw [hw]; simp)]
      exact h.2 hw
    | true =>
      have h1 := h.1 hw
      cases hA : A i with
      | none =>
        rw [hA] at h1
        obtain ⟨hT, v, hv, hrec⟩ := h1
        refine main v L (keepL v) ⟨fun _ => ?_, fun h1 => (no_tf h1 hw).elim⟩ ?_
        · rw [hA]; simpa [hT] using hv
        · rw [if_neg (by rw [hT]; simp)]; exact hrec
      | some Ai =>
        rw [hA] at h1
        have hLL : ∀ p ∈ (i, Ai (vs i)) :: L, Alive ops A vs (fun j => if j = i then vs i else val0 j) a0 (i + 1) p := by
          intro p hp
          rcases List.mem_cons.1 hp with rfl | hp
          · exact ⟨o, Ai, by simp, ho, hA, by rw [acts_congr i (val' := val0) (fun j hj => by rw [if_neg (by omega)])]; exact hw, rfl⟩
          · exact keepL _ p hp
        cases hT : T i with
        | true =>
          simp only [hT, if_true] at h1
          obtain ⟨hv, hrec⟩ := h1
          refine main (vs i) ((i, Ai (vs i)) :: L) hLL ⟨fun _ => ?_, fun h1 => (no_tf h1 hw).elim⟩ ?_
          · rw [hA]; simp only [hT, if_true]; exact ⟨trivial, hv⟩
          · rw [if_pos ⟨hT, hw⟩]; exact hrec
        | false =>
          simp only [hT, Bool.false_eq_true, if_false] at h1
          obtain ⟨hv, hrec⟩ := h1
          refine main (vs i) ((i, Ai (vs i)) :: L) hLL ⟨fun _ => ?_, fun h1 => (no_tf h1 hw).elim⟩ ?_
          · rw [hA]; simp only [hT, if_true, Bool.false_eq_true, if_false]; exact ⟨trivial, hv⟩
          · rw [if_neg (by rw [hT]; simp)]; exact hrec

section steps
variable {P : Program} {ops : Array Oper} {G : Nat → Prop} {w0 : World} {A : Nat → Option (Value → World → Prop)} {T : Nat → Bool} {S0 : World → Prop} {St : Nat → World → Prop} {vs : Nat → Value} {Qe : Live → Option Nat → Act → Prop} {i : Nat} {L : Live} {c : Option Nat} {o : Oper} {rest : List Oper} {a : Act}
theorem wpS_nil (h : Qe L c a) : wpS P ops G w0 A T S0 St vs Qe i L c [] a := h
theorem wpS_skip (hw : Region.wanted o (yielded ops a.tmps) = false) (ha : a.put o.dst undef = a) (h : wpS P ops G w0 A T S0 St vs Qe (i + 1) L c rest a) : wpS P ops G w0 A T S0 St vs Qe i L c (o :: rest) a :=
  ⟨fun h1 => (no_tf hw h1).elim, fun _ => by rw [ha]; exact h⟩
theorem wpS_no (h : ∃ a', a.put o.dst undef = a' ∧ Region.wanted o (yielded ops a.tmps) = false ∧ wpS P ops G w0 A T S0 St vs Qe (i + 1) L c rest a') : wpS P ops G w0 A T S0 St vs Qe i L c (o :: rest) a := by
  obtain ⟨a', ha, hw, h⟩ := h
  exact ⟨fun h1 => (no_tf hw h1).elim, fun _ => by rw [ha]; exact h⟩
theorem wpS_ex (h : ∃ a' v, (∀ w, ClsS ops G w0 L i w → ∀ K Qp, K a' w → o.wp P a w K Qp) ∧ a.put o.dst v = a' ∧ A i = none ∧ T i = false ∧ Region.wanted o (yielded ops a.tmps) = true ∧ wpS P ops G w0 A T S0 St vs Qe (i + 1) L c rest a') : wpS P ops G w0 A T S0 St vs Qe i L c (o :: rest) a := by
  obtain ⟨a', v, h1, h2, h3, h4, h5, h6⟩ := h
  exact ⟨fun _ => by rw [h3]; exact ⟨h4, v, by rw [h2]; exact h1, by rw [h2]; exact h6⟩, fun hw => (no_tf hw h5).elim⟩
theorem wpS_new (Ai : Value → World → Prop) (hA : A i = some Ai) (hT : T i = false)
    (h : ∃ a', (∀ w, ClsS ops G w0 L i w → ∀ K Qp, (∀ u w', Below w.heap.size w w' → Ai u w' → K (a.put o.dst u) w') → o.wp P a w K Qp) ∧ a.put o.dst (vs i) = a' ∧ Region.wanted o (yielded ops a.tmps) = true ∧ wpS P ops G w0 A T S0 St vs Qe (i + 1) ((i, Ai (vs i)) :: L) c rest a') : wpS P ops G w0 A T S0 St vs Qe i L c (o :: rest) a := by
  obtain ⟨a', h1, h2, h3, h4⟩ := h
  exact ⟨fun _ => by rw [hA]; simp only [hT, Bool.false_eq_true, if_false]; exact ⟨h1, by rw [h2]; exact h4⟩, fun hw => (no_tf hw h3).elim⟩
theorem wpS_val (v : Value) (hA : A i = some (fun u _ => u = v)) (hT : T i = false) (hv : vs i = v)
    (h : ∃ a', (∀ w, ClsS ops G w0 L i w → ∀ K Qp, (∀ w', Below w.heap.size w w' → K a' w') → o.wp P a w K Qp) ∧ a.put o.dst v = a' ∧ Region.wanted o (yielded ops a.tmps) = true ∧ wpS P ops G w0 A T S0 St vs Qe (i + 1) ((i, fun _ => vs i = v) :: L) c rest a') : wpS P ops G w0 A T S0 St vs Qe i L c (o :: rest) a := by
  obtain ⟨a', h1, h2, h3, h4⟩ := h
  refine wpS_new _ hA hT ⟨a', fun w hw K Qp hK => h1 w hw K Qp (fun w' hb => ?_), by rw [hv]; exact h2, h3, h4⟩
  rw [← h2]; exact hK v w' hb rfl
theorem wpS_stnew (Ai : Value → World → Prop) (hA : A i = some Ai) (hT : T i = true)
    (h : ∃ a', (∀ w, ClsS ops G w0 L i w → stOf S0 St c w → ∀ K Qp, (∀ u w', Upd G w w' → Ai u w' → St i w' → K (a.put o.dst u) w') → o.wp P a w K Qp) ∧ a.put o.dst (vs i) = a' ∧ Region.wanted o (yielded ops a.tmps) = true ∧ wpS P ops G w0 A T S0 St vs Qe (i + 1) ((i, Ai (vs i)) :: L) (some i) rest a') : wpS P ops G w0 A T S0 St vs Qe i L c (o :: rest) a := by
  obtain ⟨a', h1, h2, h3, h4⟩ := h
  exact ⟨fun _ => by rw [hA]; simp only [hT, if_true]; exact ⟨h1, by rw [h2]; exact h4⟩, fun hw => (no_tf hw h3).elim⟩
theorem wpS_st (v : Value) (hA : A i = some (fun u _ => u = v)) (hT : T i = true) (hv : vs i = v)
    (h : ∃ a', (∀ w, ClsS ops G w0 L i w → stOf S0 St c w → ∀ K Qp, (∀ w', Upd G w w' → St i w' → K a' w') → o.wp P a w K Qp) ∧ a.put o.dst v = a' ∧ Region.wanted o (yielded ops a.tmps) = true ∧ wpS P ops G w0 A T S0 St vs Qe (i + 1) ((i, fun _ => vs i = v) :: L) (some i) rest a') : wpS P ops G w0 A T S0 St vs Qe i L c (o :: rest) a := by
  obtain ⟨a', h1, h2, h3, h4⟩ := h
  refine wpS_stnew _ hA hT ⟨a', fun w hw hs K Qp hK => h1 w hw hs K Qp (fun w' hb hs' => ?_), by rw [hv]; exact h2, h3, h4⟩
  rw [← h2]; exact hK v w' hb rfl hs'
end steps

/-- The states behind those calls, as a list. -/
def StL (l : List (Nat × (World → Prop))) (i : Nat) (w : World) : Prop := match l.lookup i with
  | some f => f w
  | none => True
theorem StL_pers (l : List (Nat × (World → Prop))) (h : ∀ p ∈ l, ∀ w w', Below w.heap.size w w' → p.2 w → p.2 w') : ∀ j w w', Below w.heap.size w w' → StL l j w → StL l j w' := by
  intro j w w' hb hs
  unfold StL at hs ⊢
  split at hs
  · rename_i f hf
    exact h _ (lookup_mem _ _ _ hf) w w' hb hs
  · trivial
theorem TA_of (tl : List Nat) (A : Nat → Option (Value → World → Prop)) (h : tl.all (fun i => (A i).isSome) = true) : ∀ i, tl.contains i = true → (A i).isSome = true := by
  intro i hi
  exact List.all_eq_true.1 h i (by simpa using hi)
theorem AV_persU (G : Nat → Prop) (vals : List (Nat × Value)) (news : List (Nat × (Value → World → Prop))) (h : ∀ p ∈ news, ∀ v w w', p.2 v w → Upd G w w' → p.2 v w') :
    ∀ i Ai v w w', AV vals news i = some Ai → Ai v w → Upd G w w' → Ai v w' := by
  intro i Ai v w w' hA hv hb
  unfold AV at hA
  split at hA
  · cases hA; exact hv
  · exact h _ (lookup_mem _ _ _ hA) v w w' hv hb

/-- Those calls stand in a row. -/
def chainOk (ops : Array Oper) (T : Nat → Bool) : Bool :=
  (List.range ops.size).all fun i => !T i || (List.range i).all fun j => !T j || anc ops i j
theorem chainOk_spec {ops : Array Oper} {T : Nat → Bool} (h : chainOk ops T = true) {i j : Nat} (hi : i < ops.size) (hji : j < i) (hTi : T i = true) (hTj : T j = true) : anc ops i j = true := by
  unfold chainOk at h
  have h1 := List.all_eq_true.1 h i (List.mem_range.2 hi)
  simp only [hTi, Bool.not_true, Bool.false_or] at h1
  have h2 := List.all_eq_true.1 h1 j (List.mem_range.2 hji)
  simpa [hTj] using h2

section run
variable {P : Program} {ops : Array Oper} {G : Nat → Prop} {w0 : World} {A : Nat → Option (Value → World → Prop)} {T : Nat → Bool} {S0 : World → Prop} {St : Nat → World → Prop} {a0 : Act} {Q : Exit → Act → World → Prop}
  {VAL : (Nat → Value) → Nat → Value} {Qe : Live → Option Nat → Act → Prop} {V : Nat → Option Value}

/-- The state is that behind the last one of those calls that has been carried out. -/
def StateOk (ops : Array Oper) (a0 : Act) (T : Nat → Bool) (S0 : World → Prop) (St : Nat → World → Prop) (val : Nat → Value) (D : Nat → Prop) (w : World) : Prop :=
  (∀ j o, D j → T j = true → ops[j]? = some o → Region.wanted o (yielded ops (acts ops a0 val j).tmps) = true →
    (∀ k o', j < k → D k → T k = true → ops[k]? = some o' → Region.wanted o' (yielded ops (acts ops a0 val k).tmps) = false) → St j w) ∧
  ((∀ k o', D k → T k = true → ops[k]? = some o' → Region.wanted o' (yielded ops (acts ops a0 val k).tmps) = false) → S0 w)

theorem run_anyS (hch : chainOk ops T = true) (hTA : ∀ i, T i = true → (A i).isSome = true) (hS0 : ∀ w w', Below w.heap.size w w' → S0 w → S0 w') (hSt : ∀ j w w', Below w.heap.size w w' → St j w → St j w') (hok : freshOk ops (fun i => (A i).isSome) = true) (hpers : ∀ i Ai v w w', A i = some Ai → Ai v w → Upd G w w' → Ai v w')
    (hAV : ∀ i Ai c u w, A i = some Ai → V i = some c → Ai u w → u = c)
    (hlex : ∀ vs, (∀ i c, V i = some c → vs i = c) → ∀ k o, ops[k]? = some o → ∃ Lk, (∀ p ∈ Lk, Alive ops A vs (VAL vs) a0 k p) ∧ LexS P ops G w0 A T S0 St vs (VAL vs) Lk (lastS ops a0 (VAL vs) T k) k o (acts ops a0 (VAL vs) k))
    (hend : ∀ vs, (∀ i c, V i = some c → vs i = c) → ∃ Le, (∀ p ∈ Le, Alive ops A vs (VAL vs) a0 ops.size p) ∧ Qe Le (lastS ops a0 (VAL vs) T ops.size) (acts ops a0 (VAL vs) ops.size))
    (hQ : ∀ Le c a w, Upd G w0 w → (∀ p ∈ Le, p.2 w) → stOf S0 St c w → Qe Le c a → Q .normal a w) :
    ∀ (fuel : Nat) (listed : Array Bool) (a : Act) (w : World) (ρ : Nat → Value), (∀ i c, V i = some c → ρ i = c) → listed.size = ops.size →
      (∀ i o, listed.getD i false = true → ops[i]? = some o → ∀ e ∈ o.after, Region.binds .any e = true → listed.getD e.on false = true) →
      (∀ vs, (∀ i c, V i = some c → vs i = c) → (∀ j, listed.getD j false = true → vs j = ρ j) → Inv ops a0 (VAL vs) (fun j => listed.getD j false = true) a) →
      Upd G w0 w → StateOk ops a0 T S0 St (VAL ρ) (fun j => listed.getD j false = true) w →
      (∀ j o Aj, listed.getD j false = true → ops[j]? = some o → A j = some Aj → Region.wanted o (yielded ops (acts ops a0 (VAL ρ) j).tmps) = true → Aj (ρ j) w) →
      (∀ i, listed.getD i true = false → i < ops.size → 0 < fuel) →
      (listed.toList.countP (fun b => !b) ≤ fuel) →
      wpAny P .any ops Q fuel listed a w := by
  have hin : ∀ (listed : Array Bool), listed.size = ops.size → ∀ k, listed.getD k false = true → ∃ o, ops[k]? = some o := by
    intro listed hsz k hk
    have : k < ops.size := by
      rcases Nat.lt_or_ge k ops.size with h | h
      · exact h
      · simp [Array.getElem?_eq_none (show listed.size ≤ k by omega)] at hk
    exact ⟨_, Array.getElem?_eq_getElem this⟩
  -- the least operation that is not listed may come up
  have hnone : ∀ (listed : Array Bool), listed.size = ops.size → Region.ready .any ops listed = [] → ∀ n i, i < n → i < ops.size → listed.getD i false = true := by
    intro listed hsz hr n
    induction n with
    | zero => intro i hi; omega
    | succ n ih =>
      intro i hi hio
      by_cases hin' : i < n
      · exact ih i hin' hio
      · have hin2 : i = n := by omega
        subst hin2
        have ho : ops[i]? = some ops[i] := Array.getElem?_eq_getElem hio
        cases hl : listed.getD i false with
        | true => rfl
        | false =>
          exfalso
          have hl' : listed.getD i true = false := by
            have : i < listed.size := by omega
            simp [this] at hl ⊢; exact hl
          have : i ∈ Region.ready .any ops listed := mem_ready.2 ⟨hl', ops[i], ho, fun e he hb => ih e.on (by have := (freshOk_spec hok ho).2.2.2.1 e he hb; omega) (by have := (freshOk_spec hok ho).2.2.2.1 e he hb; omega)⟩
          rw [hr] at this; cases this
  -- the end
  have hdone : ∀ (listed : Array Bool) (a : Act) (w : World) (ρ : Nat → Value), (∀ i c, V i = some c → ρ i = c) → listed.size = ops.size → Region.ready .any ops listed = [] →
      (∀ vs, (∀ i c, V i = some c → vs i = c) → (∀ j, listed.getD j false = true → vs j = ρ j) → Inv ops a0 (VAL vs) (fun j => listed.getD j false = true) a) → Upd G w0 w → StateOk ops a0 T S0 St (VAL ρ) (fun j => listed.getD j false = true) w →
      (∀ j o Aj, listed.getD j false = true → ops[j]? = some o → A j = some Aj → Region.wanted o (yielded ops (acts ops a0 (VAL ρ) j).tmps) = true → Aj (ρ j) w) → Q .normal a w := by
    intro listed a w ρ hρV hsz hr hinv hbw hso hA
    have hall := hnone listed hsz hr ops.size
    have i1 := hinv ρ hρV (fun _ _ => rfl)
    have i2 := acts_inv hok a0 (VAL ρ) ops.size (Nat.le_refl _)
    have ea : a = acts ops a0 (VAL ρ) ops.size := by
      have et : a.tmps = (acts ops a0 (VAL ρ) ops.size).tmps := by
        refine Array.ext_getElem? fun t => ?_
        by_cases hw : ∃ j o, j < ops.size ∧ ops[j]? = some o ∧ o.dst = some t
        · obtain ⟨j, o, hj, ho, ht⟩ := hw
          by_cases hlt : t < a0.tmps.size
          · rw [i1.wrote j o t (hall j hj hj) ho ht hlt, i2.wrote j o t hj ho ht hlt]
          · rw [Array.getElem?_eq_none (Nat.le_trans (Nat.le_of_eq i1.size) (Nat.le_of_not_lt hlt)), Array.getElem?_eq_none (Nat.le_trans (Nat.le_of_eq i2.size) (Nat.le_of_not_lt hlt))]
        · rw [i1.other t (fun j o hj ho ht => hw ⟨j, o, (Array.getElem?_eq_some_iff.1 ho).1, ho, ht⟩), i2.other t (fun j o hj ho ht => hw ⟨j, o, hj, ho, ht⟩)]
      have ed : a.defers = (acts ops a0 (VAL ρ) ops.size).defers := i1.defers.trans i2.defers.symm
      cases a; cases hb : acts ops a0 (VAL ρ) ops.size
      rw [hb] at et ed
      simp only at et ed
      rw [et, ed]
    obtain ⟨Le, hLe, hq⟩ := hend ρ hρV
    rw [ea]
    have hst : stOf S0 St (lastS ops a0 (VAL ρ) T ops.size) w := by
      cases hl : lastS ops a0 (VAL ρ) T ops.size with
      | none => exact hso.2 (fun k o' _ hT hko => lastS_none _ hl k o' (Array.getElem?_eq_some_iff.1 hko).1 hT hko)
      | some j =>
        obtain ⟨h1, h2, ⟨o, h3, h4⟩, h5⟩ := lastS_some _ _ hl
        exact hso.1 j o (hall j h1 h1) h2 h3 h4 (fun k o' hjk _ hT hko => h5 k o' hjk (Array.getElem?_eq_some_iff.1 hko).1 hT hko)
    refine hQ Le _ _ w hbw (fun p hp => ?_) hst hq
    obtain ⟨o, Aj, h1, h2, h3, h4, h5⟩ := hLe p hp
    rw [h5]
    exact hA p.1 o Aj (hall _ h1 h1) h2 h3 h4
  intro fuel
  induction fuel with
  | zero =>
    intro listed a w ρ hρV hsz hcl hinv hbw hso hA hf _
    have hr : Region.ready .any ops listed = [] := by
      cases hr : Region.ready .any ops listed with
      | nil => rfl
      | cons i l =>
        have := mem_ready.1 (show i ∈ Region.ready .any ops listed by rw [hr]; simp)
        obtain ⟨h1, o, ho, _⟩ := this
        exact absurd (hf i h1 (Array.getElem?_eq_some_iff.1 ho).1) (by omega)
    exact ⟨hr, hdone listed a w ρ hρV hsz hr hinv hbw hso hA⟩
  | succ fuel ih =>
    intro listed a w ρ hρV hsz hcl hinv hbw hso hA _ hcnt
    refine ⟨fun hr => hdone listed a w ρ hρV hsz hr hinv hbw hso hA, fun i hi => ?_⟩
    obtain ⟨hun, o, ho, hedge⟩ := mem_ready.1 hi
    have hio : i < ops.size := (Array.getElem?_eq_some_iff.1 ho).1
    obtain ⟨k1, k2, k3, k4, k5⟩ := freshOk_spec hok ho
    have hnl : ¬ listed.getD i false = true := by
      have : i < listed.size := by omega
      simp [this] at hun ⊢; exact hun
    have hset : ∀ j, (listed.setIfInBounds i true).getD j false = true ↔ (listed.getD j false = true ∨ j = i) := by
      intro j
      by_cases hji : j = i
      · subst hji; simp [show j < listed.size by omega]
      · rw [getD_set_ne false (Ne.symm hji)]; simp [hji]
    have hcl' : ∀ k o', (listed.setIfInBounds i true).getD k false = true → ops[k]? = some o' → ∀ e ∈ o'.after, Region.binds .any e = true → (listed.setIfInBounds i true).getD e.on false = true := by
      intro k o' hk hko e he hb
      rw [hset] at hk ⊢
      rcases hk with hk | rfl
      · exact .inl (hcl k o' hk hko e he hb)
      · rw [ho] at hko; cases hko; exact .inl (hedge e he hb)
    have hcnt' : (listed.setIfInBounds i true).toList.countP (fun b => !b) ≤ fuel := by
      have hlt : i < listed.toList.length := by simp; omega
      have e1 : listed.toList[i] = false := by
        have : i < listed.size := by omega
        simp [this] at hun; simpa using hun
      have e2 : (listed.setIfInBounds i true).toList = listed.toList.set i true := by simp
      have e3 := countP_set_true listed.toList i hlt e1
      rw [e2]
      omega
    have hfu : ∀ j, (listed.setIfInBounds i true).getD j true = false → j < ops.size → 0 < fuel := by
      intro j hj hjo
      have hjs : j < listed.size := by omega
      have hlt : j < (listed.setIfInBounds i true).toList.length := by simpa using hjs
      have e1 : (listed.setIfInBounds i true).toList[j] = false := by
        have : j < (listed.setIfInBounds i true).size := by simpa using hjs
        rw [Array.getD_eq_getD_getElem?, Array.getElem?_eq_getElem this] at hj
        rw [Array.getElem_toList]; exact hj
      have : 0 < (listed.setIfInBounds i true).toList.countP (fun b => !b) := List.countP_pos_iff.2 ⟨_, List.getElem_mem hlt, by rw [e1]; rfl⟩
      omega
    -- what the walk of 'vs' says at i, in the frame that the run is in
    have at_i : ∀ vs, (∀ i c, V i = some c → vs i = c) → (∀ j, listed.getD j false = true → vs j = ρ j) → execOp a.eval o = execOp (acts ops a0 (VAL vs) i).eval o ∧
        Region.wanted o (yielded ops a.tmps) = Region.wanted o (yielded ops (acts ops a0 (VAL vs) i).tmps) ∧ a.tmps.size = (acts ops a0 (VAL vs) i).tmps.size := by
      intro vs hvV hvs
      have i1 := hinv vs hvV hvs
      have i2 := acts_inv hok a0 (VAL vs) i (by omega)
      have hagree : ∀ t ∈ o.looksAt ops, a.tmps[t]? = (acts ops a0 (VAL vs) i).tmps[t]? := by
        intro t ht
        have hiff : ∀ j o', ops[j]? = some o' → o'.dst = some t → (listed.getD j false = true ↔ j < i) := by
          intro j o' hj hjt
          rcases (k5 j o' t hj hjt).2 ht with ⟨hlt, ha⟩ | ⟨hlt, ha⟩
          · exact ⟨fun _ => hlt, fun _ => anc_in (S := fun j => listed.getD j false = true) hcl (hin listed hsz) i j o ho hedge ha⟩
          · refine ⟨fun hl => ?_, fun h => by omega⟩
            exact absurd (anc_in (S := fun j => listed.getD j false = true) hcl (hin listed hsz) j i o' hj (hcl j o' hl hj) ha) hnl
        by_cases hw : ∃ j o', j < i ∧ ops[j]? = some o' ∧ o'.dst = some t
        · obtain ⟨j, o', hj, hjo, hjt⟩ := hw
          by_cases hlt : t < a0.tmps.size
          · rw [i1.wrote j o' t ((hiff j o' hjo hjt).2 hj) hjo hjt hlt, i2.wrote j o' t hj hjo hjt hlt]
          · rw [Array.getElem?_eq_none (Nat.le_trans (Nat.le_of_eq i1.size) (Nat.le_of_not_lt hlt)), Array.getElem?_eq_none (Nat.le_trans (Nat.le_of_eq i2.size) (Nat.le_of_not_lt hlt))]
        · rw [i1.other t (fun j o' hl hjo hjt => hw ⟨j, o', (hiff j o' hjo hjt).1 hl, hjo, hjt⟩), i2.other t (fun j o' hj hjo hjt => hw ⟨j, o', hj, hjo, hjt⟩)]
      obtain ⟨e1, e2⟩ := see k3 hagree
      exact ⟨e1, e2, by rw [i1.size, i2.size]⟩
    have cls : ∀ vs Lk, (∀ i c, V i = some c → vs i = c) → (∀ j, listed.getD j false = true → vs j = ρ j) → (∀ p ∈ Lk, Alive ops A vs (VAL vs) a0 i p) → ClsS ops G w0 Lk i w := by
      intro vs Lk hvV hvs hLk
      refine ⟨hbw, fun p hp hanc => ?_⟩
      obtain ⟨o', Aj, h1, h2, h3, h4, h5⟩ := hLk p hp
      have hl := anc_in (S := fun j => listed.getD j false = true) hcl (hin listed hsz) i p.1 o ho hedge hanc
      rw [h5, hvs _ hl]
      refine hA p.1 o' Aj hl h2 h3 ?_
      -- wanted in both walks, as both frames agree with what has been carried out
      have hl' : ∀ k, anc ops p.1 k = true → listed.getD k false = true := fun k hk => anc_in (S := fun j => listed.getD j false = true) hcl (hin listed hsz) p.1 k o' h2 (hcl p.1 o' hl h2) hk
      have hpo : p.1 ≤ ops.size := Nat.le_of_lt (Array.getElem?_eq_some_iff.1 h2).1
      have i1 := hinv vs hvV hvs
      have i2 := hinv ρ hρV (fun _ _ => rfl)
      have j1 := acts_inv hok a0 (VAL vs) p.1 hpo
      have j2 := acts_inv hok a0 (VAL ρ) p.1 hpo
      have hsee := see (a := acts ops a0 (VAL ρ) p.1) (b := acts ops a0 (VAL vs) p.1) (ops := ops) (freshOk_spec hok h2).2.2.1 (fun t ht => by
        by_cases hw : ∃ j o', j < p.1 ∧ ops[j]? = some o' ∧ o'.dst = some t
        · obtain ⟨j, oj, hj, hjo, hjt⟩ := hw
          by_cases hlt : t < a0.tmps.size
          · have hjl : listed.getD j false = true := by
              rcases ((freshOk_spec hok h2).2.2.2.2 j oj t hjo hjt).2 ht with ⟨_, ha⟩ | ⟨hlt2, _⟩
              · exact hl' j ha
              · omega
            rw [j2.wrote j oj t hj hjo hjt hlt, j1.wrote j oj t hj hjo hjt hlt, ← i2.wrote j oj t hjl hjo hjt hlt, ← i1.wrote j oj t hjl hjo hjt hlt]
          · rw [Array.getElem?_eq_none (Nat.le_trans (Nat.le_of_eq j2.size) (Nat.le_of_not_lt hlt)), Array.getElem?_eq_none (Nat.le_trans (Nat.le_of_eq j1.size) (Nat.le_of_not_lt hlt))]
        · rw [j2.other t (fun j oj hj hjo hjt => hw ⟨j, oj, hj, hjo, hjt⟩), j1.other t (fun j oj hj hjo hjt => hw ⟨j, oj, hj, hjo, hjt⟩)])
      rw [hsee.2]; exact h4
    -- what has been carried out is wanted in both walks or in none
    have wag : ∀ (ρ' : Nat → Value), (∀ i c, V i = some c → ρ' i = c) → (∀ j, listed.getD j false = true → ρ' j = ρ j) → ∀ j o', listed.getD j false = true → ops[j]? = some o' →
        Region.wanted o' (yielded ops (acts ops a0 (VAL ρ) j).tmps) = Region.wanted o' (yielded ops (acts ops a0 (VAL ρ') j).tmps) := by
      intro ρ' hρV' hρ j o' hjl hjo
      -- wanted at j in the walk of ρ' as in that of ρ
      have hl' : ∀ k, anc ops j k = true → listed.getD k false = true := fun k hk => anc_in (S := fun j => listed.getD j false = true) hcl (hin listed hsz) j k o' hjo (hcl j o' hjl hjo) hk
      have hpo : j ≤ ops.size := Nat.le_of_lt (Array.getElem?_eq_some_iff.1 hjo).1
      have i1 := hinv ρ' hρV' hρ
      have i2 := hinv ρ hρV (fun _ _ => rfl)
      have j1 := acts_inv hok a0 (VAL ρ') j hpo
      have j2 := acts_inv hok a0 (VAL ρ) j hpo
      have hsee := see (a := acts ops a0 (VAL ρ) j) (b := acts ops a0 (VAL ρ') j) (ops := ops) (freshOk_spec hok hjo).2.2.1 (fun t ht => by
        by_cases hw : ∃ k ok, k < j ∧ ops[k]? = some ok ∧ ok.dst = some t
        · obtain ⟨k, ok, hk, hko, hkt⟩ := hw
          by_cases hlt : t < a0.tmps.size
          · have hkl : listed.getD k false = true := by
              rcases ((freshOk_spec hok hjo).2.2.2.2 k ok t hko hkt).2 ht with ⟨_, ha⟩ | ⟨hlt2, _⟩
              · exact hl' k ha
              · omega
            rw [j2.wrote k ok t hk hko hkt hlt, j1.wrote k ok t hk hko hkt hlt, ← i2.wrote k ok t hkl hko hkt hlt, ← i1.wrote k ok t hkl hko hkt hlt]
          · rw [Array.getElem?_eq_none (Nat.le_trans (Nat.le_of_eq j2.size) (Nat.le_of_not_lt hlt)), Array.getElem?_eq_none (Nat.le_trans (Nat.le_of_eq j1.size) (Nat.le_of_not_lt hlt))]
        · rw [j2.other t (fun k ok hk hko hkt => hw ⟨k, ok, hk, hko, hkt⟩), j1.other t (fun k ok hk hko hkt => hw ⟨k, ok, hk, hko, hkt⟩)])
      exact hsee.2
    -- one step on, with the record ρ'
    have next : ∀ (ρ' : Nat → Value) (v : Value) (w' : World), (∀ i c, V i = some c → ρ' i = c) → (∀ j, listed.getD j false = true → ρ' j = ρ j) → Upd G w w' → ((T i = true ∧ Region.wanted o (yielded ops a.tmps) = true ∧ St i w') ∨ ((T i = true → Region.wanted o (yielded ops a.tmps) = false) ∧ Below w.heap.size w w')) →
        (∀ vs, (∀ i c, V i = some c → vs i = c) → (∀ j, listed.getD j false = true → vs j = ρ j) → vs i = ρ' i → a.put o.dst v = a.put o.dst (VAL vs i)) →
        (∀ Ai, A i = some Ai → Region.wanted o (yielded ops a.tmps) = true → Ai (ρ' i) w') →
        wpAny P .any ops Q fuel (listed.setIfInBounds i true) (a.put o.dst v) w' := by
      intro ρ' v w' hρV' hρ hgrow hgst hval hAi
      refine ih _ _ w' ρ' hρV' (by simpa using hsz) hcl' (fun vs hvV hvs => ?_) (hbw.trans hgrow) ?_ (fun j o' Aj hj hjo hjA hjw => ?_) hfu hcnt'
      · have hvs1 : ∀ j, listed.getD j false = true → vs j = ρ j := fun j hj => (hvs j ((hset j).2 (.inl hj))).trans (hρ j hj)
        have hvs2 : vs i = ρ' i := hvs i ((hset i).2 (.inr rfl))
        rw [hval vs hvV hvs1 hvs2]
        exact ((hinv vs hvV hvs1).put ho rfl (fun j o' t _ hjo hjt => (k5 j o' t hjo hjt).1)).congr (fun j => (hset j).symm) (fun _ _ => rfl)
      · rcases hgst with ⟨hTi, hwi, hsti⟩ | ⟨hnt, hbl⟩
        · have hwi' : Region.wanted o (yielded ops (acts ops a0 (VAL ρ') i).tmps) = true := by rw [← (at_i ρ' hρV' hρ).2.1]; exact hwi
          refine ⟨fun j oj hj hTj hjo hjw hno => ?_, fun hno => ?_⟩
          · rcases (hset j).1 hj with hjl | rfl
            · rcases Nat.lt_trichotomy j i with hlt | heq | hgt
              · exact (no_tf (hno i o hlt ((hset i).2 (.inr rfl)) hTi ho) hwi').elim
              · subst heq; exact hsti
              · exact absurd (anc_in (S := fun j => listed.getD j false = true) hcl (hin listed hsz) j i oj hjo (hcl j oj hjl hjo) (chainOk_spec hch (Array.getElem?_eq_some_iff.1 hjo).1 hgt hTj hTi)) hnl
            · exact hsti
          · exact (no_tf (hno i o ((hset i).2 (.inr rfl)) hTi ho) hwi').elim
        · have hskip : ∀ k ok, (listed.setIfInBounds i true).getD k false = true → T k = true → ops[k]? = some ok → Region.wanted ok (yielded ops (acts ops a0 (VAL ρ') k).tmps) = true → listed.getD k false = true := by
            intro k ok hk hTk hko hkw
            rcases (hset k).1 hk with hkl | rfl
            · exact hkl
            · rw [ho] at hko; cases hko
              exact (no_tf (hnt hTk) (by rw [(at_i ρ' hρV' hρ).2.1]; exact hkw)).elim
          refine ⟨fun j oj hj hTj hjo hjw hno => ?_, fun hno => ?_⟩
          · have hjl := hskip j oj hj hTj hjo hjw
            refine hSt j _ _ hbl (hso.1 j oj hjl hTj hjo (by rw [wag ρ' hρV' hρ j oj hjl hjo]; exact hjw) (fun k ok hjk hkl hTk hko => ?_))
            rw [wag ρ' hρV' hρ k ok hkl hko]
            exact hno k ok hjk ((hset k).2 (.inl hkl)) hTk hko
          · refine hS0 _ _ hbl (hso.2 (fun k ok hkl hTk hko => ?_))
            rw [wag ρ' hρV' hρ k ok hkl hko]
            exact hno k ok ((hset k).2 (.inl hkl)) hTk hko
      · have hag : ∀ k, k ≤ ops.size → True := fun _ _ => trivial
        rcases (hset j).1 hj with hjl | rfl
        · rw [hρ j hjl]
          refine hpers j Aj _ w w' hjA (hA j o' Aj hjl hjo hjA ?_) hgrow
          rw [wag ρ' hρV' hρ j o' hjl hjo]; exact hjw
        · rw [ho] at hjo; cases hjo
          refine hAi Aj hjA ?_
          rw [(at_i ρ' hρV' hρ).2.1]; exact hjw
    -- the state in which a call of that kind is carried out
    have hst : ∀ vs, (∀ i c, V i = some c → vs i = c) → (∀ j, listed.getD j false = true → vs j = ρ j) → T i = true → stOf S0 St (lastS ops a0 (VAL vs) T i) w := by
      intro vs hvV hvs hTi
      have hbefore : ∀ k, k < i → T k = true → listed.getD k false = true := fun k hk hTk =>
        anc_in (S := fun j => listed.getD j false = true) hcl (hin listed hsz) i k o ho hedge (chainOk_spec hch hio hk hTi hTk)
      have hbehind : ∀ k ok, i ≤ k → T k = true → ops[k]? = some ok → ¬ listed.getD k false = true := by
        intro k ok hk hTk hko hkl
        rcases Nat.lt_or_ge i k with h | h
        · exact hnl (anc_in (S := fun j => listed.getD j false = true) hcl (hin listed hsz) k i ok hko (hcl k ok hkl hko) (chainOk_spec hch (Array.getElem?_eq_some_iff.1 hko).1 h hTk hTi))
        · have : k = i := by omega
          subst this; exact hnl hkl
      cases hl : lastS ops a0 (VAL vs) T i with
      | none =>
        refine hso.2 (fun k ok hkl hTk hko => ?_)
        rw [wag vs hvV hvs k ok hkl hko]
        rcases Nat.lt_or_ge k i with h | h
        · exact lastS_none _ hl k ok h hTk hko
        · exact absurd hkl (hbehind k ok h hTk hko)
      | some j =>
        obtain ⟨h1, h2, ⟨oj, h3, h4⟩, h5⟩ := lastS_some _ _ hl
        have hjl := hbefore j h1 h2
        refine hso.1 j oj hjl h2 h3 (by rw [wag vs hvV hvs j oj hjl h3]; exact h4) (fun k ok hjk hkl hTk hko => ?_)
        rw [wag vs hvV hvs k ok hkl hko]
        rcases Nat.lt_or_ge k i with h | h
        · exact h5 k ok hjk h hTk hko
        · exact absurd hkl (hbehind k ok h hTk hko)
    unfold wpOp
    simp only [ho]
    obtain ⟨Lk, hLk, hlx⟩ := hlex ρ hρV i o ho
    obtain ⟨e1, e2, e3⟩ := at_i ρ hρV (fun _ _ => rfl)
    cases hw : Region.wanted o (yielded ops a.tmps) with
    | false =>
      simp only [Bool.false_eq_true, if_false]
      refine next ρ undef w hρV (fun _ _ => rfl) (Upd.refl _ _) (.inr ⟨fun _ => hw, Below.refl _ _⟩) (fun vs hvV hvs _ => ?_) (fun Ai _ h => (no_tf hw h).elim)
      obtain ⟨Lv, hLv, hlv⟩ := hlex vs hvV i o ho
      rw [hlv.2 (by rw [← (at_i vs hvV hvs).2.1]; exact hw)]
    | true =>
      simp only [if_true]
      refine .inl ?_
      have hlw := hlx.1 (by rw [← e2]; exact hw)
      cases hAi : A i with
      | some Ai =>
        rw [hAi] at hlw
        cases hTi : T i with
        | true =>
          simp only [hTi, if_true] at hlw
          refine wp_swap e1 e3 (hlw.2 w (cls ρ Lk hρV (fun _ _ => rfl) hLk) (hst ρ hρV (fun _ _ => rfl) hTi) _ _ (fun u w' hgrow hu hsu => ⟨u, rfl, ?_⟩))
          refine next (fun j => if j = i then u else ρ j) u w' (fun j c hc => ?_) (fun j hj => ?_) hgrow (.inl ⟨hTi, hw, hsu⟩) (fun vs hvV hvs hvi => ?_) (fun Aj hj _ => ?_)
          · by_cases hji : j = i
            · rw [if_pos hji]; subst hji; exact hAV j Ai c u w' hAi hc hu
            · rw [if_neg hji]; exact hρV j c hc
          · exact if_neg (fun (e : j = i) => hnl (by rw [← e]; exact hj))
          · obtain ⟨Lv, hLv, hlv⟩ := hlex vs hvV i o ho
            have h1 := hlv.1 (by rw [← (at_i vs hvV hvs).2.1]; exact hw)
            rw [hAi] at h1
            simp only [if_true] at hvi
            rw [h1.1, hvi]
          · rw [hAi] at hj; cases hj; simpa using hu
        | false =>
          simp only [hTi, Bool.false_eq_true, if_false] at hlw
          refine wp_swap e1 e3 (hlw.2 w (cls ρ Lk hρV (fun _ _ => rfl) hLk) _ _ (fun u w' hgrow hu => ⟨u, rfl, ?_⟩))
          refine next (fun j => if j = i then u else ρ j) u w' (fun j c hc => ?_) (fun j hj => ?_) (Upd.of_below hgrow) (.inr ⟨fun h => (no_tf hTi h).elim, hgrow⟩) (fun vs hvV hvs hvi => ?_) (fun Aj hj _ => ?_)
          · by_cases hji : j = i
            · rw [if_pos hji]; subst hji; exact hAV j Ai c u w' hAi hc hu
            · rw [if_neg hji]; exact hρV j c hc
          · exact if_neg (fun (e : j = i) => hnl (by rw [← e]; exact hj))
          · obtain ⟨Lv, hLv, hlv⟩ := hlex vs hvV i o ho
            have h1 := hlv.1 (by rw [← (at_i vs hvV hvs).2.1]; exact hw)
            rw [hAi] at h1
            simp only [if_true] at hvi
            rw [h1.1, hvi]
          · rw [hAi] at hj; cases hj; simpa using hu
      | none =>
        rw [hAi] at hlw
        have hpl : plainOp o.op = true := by
          rcases k1 with h | h
          · simp [hAi] at h
          · exact h
        refine wp_swap e1 e3 (hlw.2 w (cls ρ Lk hρV (fun _ _ => rfl) hLk) _ _ ⟨_, rfl, ?_⟩)
        refine next ρ _ w hρV (fun _ _ => rfl) (Upd.refl _ _) (.inr ⟨fun h => (no_tf hlw.1 h).elim, Below.refl _ _⟩) (fun vs hvV hvs _ => ?_) (fun Aj hj _ => by rw [hAi] at hj; cases hj)
        obtain ⟨Lv, hLv, hlv⟩ := hlex vs hvV i o ho
        obtain ⟨f1, f2, f3⟩ := at_i vs hvV hvs
        have h1 := hlv.1 (by rw [← f2]; exact hw)
        rw [hAi] at h1
        exact same_value hpl (e1.symm.trans f1) e3 f3 (hlw.2 w (cls ρ Lk hρV (fun _ _ => rfl) hLk)) (h1.2 w (cls vs Lv hvV hvs hLv))
end run

/-- THE THEOREM: one walk in the order of the text. 'T' says which calls turn blocks of G; 'St i' is the state behind call i. -/
theorem wp_region_state {P : Program} {ops : Array Oper} {Q : Exit → Act → World → Prop} {id : Nat} {a : Act} {w : World} (G : Nat → Prop) (V : Nat → Option Value) (A : Nat → Option (Value → World → Prop)) (T : Nat → Bool) (S0 : World → Prop) (St : Nat → World → Prop) (hm : P.follows .mixedOrders = true)
    (hok : freshOk ops (fun i => (A i).isSome) = true) (hch : chainOk ops T = true) (hTA : ∀ i, T i = true → (A i).isSome = true) (hS0 : ∀ w w', Below w.heap.size w w' → S0 w → S0 w') (hSt : ∀ j w w', Below w.heap.size w w' → St j w → St j w')
    (hpers : ∀ i Ai v w w', A i = some Ai → Ai v w → Upd G w w' → Ai v w') (hAV : ∀ i Ai c u w, A i = some Ai → V i = some c → Ai u w → u = c) (hs : S0 w)
    (h : ∀ vs, (∀ i c, V i = some c → vs i = c) → wpS P ops G w A T S0 St vs (fun Le c a' => ∀ w', Upd G w w' → (∀ p ∈ Le, p.2 w') → stOf S0 St c w' → Q .normal a' w') 0 [] none ops.toList a) : (Code.region id ops true).wp P Q a w := by
  refine wp_region_any hm ?_
  have hl : ∀ vs : Nat → Value, ∃ val : Nat → Value, (∀ i c, V i = some c → vs i = c) → (∀ k o, ops[k]? = some o → ∃ Lk, (∀ p ∈ Lk, Alive ops A vs val a k p) ∧ LexS P ops G w A T S0 St vs val Lk (lastS ops a val T k) k o (acts ops a val k)) ∧
      ∃ Le : Live, (∀ p ∈ Le, Alive ops A vs val a ops.size p) ∧ (∀ w', Upd G w w' → (∀ p ∈ Le, p.2 w') → stOf S0 St (lastS ops a val T ops.size) w' → Q .normal (acts ops a val ops.size) w') := by
    intro vs
    by_cases hvV : ∀ i c, V i = some c → vs i = c
    · obtain ⟨val, _, h2, Le, h3, h4⟩ := lex_ofS ops.toList 0 [] (fun _ => undef) (by intro k; simp) (by simp) (h vs hvV)
      refine ⟨val, fun _ => ⟨fun k o ho => h2 k o (Nat.zero_le _) ho, Le, by simpa using h3, ?_⟩⟩
      rw [show 0 + ops.toList.length = ops.size from by simp] at h4
      exact h4
    · exact ⟨fun _ => undef, fun h => absurd h hvV⟩
  refine run_anyS (w0 := w) (V := V) (G := G) (S0 := S0) (St := St) (T := T) (Qe := fun (Le : Live) c a' => ∀ w', Upd G w w' → (∀ p ∈ Le, p.2 w') → stOf S0 St c w' → Q .normal a' w') (VAL := fun vs => Classical.choose (hl vs)) hch hTA hS0 hSt hok hpers hAV (fun vs hvV => (Classical.choose_spec (hl vs) hvV).1) (fun vs hvV => (Classical.choose_spec (hl vs) hvV).2) (fun Le c a' w' hb hp hs hq => hq w' hb hp hs)
    ops.size _ a _ (fun i => (V i).getD undef) (fun i c hc => by simp [hc]) (by simp) (fun i o hi => ?_) (fun vs _ _ => ?_) ⟨rfl, rfl, rfl, Nat.le_refl _, fun _ _ _ => rfl⟩ ⟨fun j o hj => ?_, fun _ => hS0 w _ ⟨rfl, rfl, rfl, Nat.le_refl _, fun _ _ => rfl⟩ hs⟩ (fun j o Aj hj => ?_) (fun i hi hio => Nat.lt_of_le_of_lt (Nat.zero_le _) hio) (by simp [List.countP_replicate])
  · simp [Array.getElem?_replicate] at hi
    split at hi <;> simp at hi
  · refine ⟨rfl, rfl, fun j o t hj => ?_, fun t _ => rfl⟩
    simp [Array.getElem?_replicate] at hj
    split at hj <;> simp at hj
  · simp [Array.getElem?_replicate] at hj
    split at hj <;> simp at hj
  · simp [Array.getElem?_replicate] at hj
    split at hj <;> simp at hj
end Go.Proofs.Ytlganffeaapebaa
