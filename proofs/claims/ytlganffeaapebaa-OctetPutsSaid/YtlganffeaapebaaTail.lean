/- A region that draws its order, some of whose first k operations make new memory, and whose last ones come one behind the other in the order of the text (a store, an append). No condition. (Theorems over any program.) -/
import Derived.Test.YtlganffeaapebaaFresh
namespace Go.Proofs.Ytlganffeaapebaa
open Go.RowKit

/-- As Q, but for the plain end. -/
def Qn (Q : Exit → Act → World → Prop) (R : Act → World → Prop) : Exit → Act → World → Prop
  | .normal => R
  | e => Q e

theorem wp_qn {P : Program} {o : Oper} {a : Act} {w : World} {K : Act → World → Prop} {Q : Exit → Act → World → Prop} {R : Act → World → Prop} (h : o.wp P a w K (Qn Q R)) : o.wp P a w K Q := by
  unfold Oper.wp at *
  generalize (execOp a.eval o).run P w = r at *
  cases r with
  | ok n w' =>
    cases n <;> simp only [Oper.upon] at h ⊢ <;>
      first
        | exact h
        | exact Calls.mono h (fun e w'' he => by cases e <;> exact he)
  | halt x w' => cases x <;> simp only [Oper.upon] at h ⊢ <;> exact h

/-- What is asked of the cut, by reckoning: from k on each operation waits for all before it. -/
def tailOk (ops : Array Oper) (k : Nat) : Bool :=
  decide (k ≤ ops.size) &&
  ((List.range ops.size).all fun j => decide (j < k) || (List.range j).all fun i => anc ops j i) &&
  ((List.range ops.size).all fun i => match ops[i]? with
    | none => true
    | some o => (o.after.toList.all fun e => !Region.binds .any e || decide (e.on < i)) && (decide (k ≤ i) || match o.guard with | some (g, _) => decide (g < k) | none => true))

section
variable {P : Program} {ops : Array Oper} {k : Nat} {Q : Exit → Act → World → Prop}

theorem tailOk_le (h : tailOk ops k = true) : k ≤ ops.size := by
  unfold tailOk at h; simp only [Bool.and_eq_true, decide_eq_true_eq] at h; exact h.1.1
theorem tailOk_chain (h : tailOk ops k = true) {i j : Nat} (hj : j < ops.size) (hk : k ≤ j) (hi : i < j) : anc ops j i = true := by
  unfold tailOk at h; simp only [Bool.and_eq_true, decide_eq_true_eq] at h
  have h1 := List.all_eq_true.1 h.1.2 j (List.mem_range.2 hj)
  rw [Bool.or_eq_true] at h1
  rcases h1 with h1 | h1
  · simp at h1; omega
  · exact List.all_eq_true.1 h1 i (List.mem_range.2 hi)
theorem tailOk_edge (h : tailOk ops k = true) {i : Nat} {o : Oper} (ho : ops[i]? = some o) : ∀ e ∈ o.after, Region.binds .any e = true → e.on < i := by
  unfold tailOk at h; simp only [Bool.and_eq_true, decide_eq_true_eq] at h
  have h1 := List.all_eq_true.1 h.2 i (List.mem_range.2 (Array.getElem?_eq_some_iff.1 ho).1)
  rw [ho] at h1
  simp only [Bool.and_eq_true] at h1
  intro e he hb
  have := List.all_eq_true.1 h1.1 e (by simpa using he)
  simpa [hb] using this
theorem tailOk_guard (h : tailOk ops k = true) {i : Nat} {o : Oper} (ho : ops[i]? = some o) (hi : i < k) {g : Nat} {b : Bool} (hg : o.guard = some (g, b)) : g < k := by
  unfold tailOk at h; simp only [Bool.and_eq_true, decide_eq_true_eq] at h
  have h1 := List.all_eq_true.1 h.2 i (List.mem_range.2 (Array.getElem?_eq_some_iff.1 ho).1)
  rw [ho] at h1
  simp only [Bool.and_eq_true, hg, Bool.or_eq_true, decide_eq_true_eq] at h1
  rcases h1.2 with h2 | h2
  · omega
  · exact h2

/-- From k on: one behind the other. -/
theorem tail_two (h : tailOk ops k = true) : ∀ (d m : Nat), m + d = ops.size → k ≤ m → ∀ (fuel : Nat) (listed : Array Bool) (a : Act) (w : World), d ≤ fuel → listed.size = ops.size → (∀ j, j < ops.size → listed.getD j false = decide (j < m)) →
    wpList P ops Q (ops.toList.drop m) a w → wpAny P .any ops Q fuel listed a w := by
  intro d
  induction d with
  | zero =>
    intro m hm hk fuel listed a w _ hsz hl hw
    refine wpAny_done ?_ (by rw [List.drop_of_length_le (by simp; omega)] at hw; exact hw) fuel
    rw [List.eq_nil_iff_forall_not_mem]
    intro j hj
    obtain ⟨h1, o, ho, _⟩ := mem_ready.1 hj
    have hjl := (Array.getElem?_eq_some_iff.1 ho).1
    have := hl j hjl
    rw [decide_eq_true (by omega)] at this
    have hjs : j < listed.size := by omega
    simp [hjs] at h1 this
    rw [this] at h1; cases h1
  | succ d ih =>
    intro m hm hk fuel listed a w hf hsz hl hw
    obtain ⟨f, rfl⟩ : ∃ f, fuel = f + 1 := ⟨fuel - 1, by omega⟩
    have hml : m < ops.size := by omega
    have hom : ops[m]? = some ops[m] := Array.getElem?_eq_getElem hml
    have hgd : ∀ j, j < ops.size → listed.getD j true = listed.getD j false := fun j hj => by simp [show j < listed.size by omega]
    have hmr : m ∈ Region.ready .any ops listed := mem_ready.2 ⟨by rw [hgd m hml, hl m hml]; simp, _, hom, fun e he hb => by
      have := tailOk_edge h hom e he hb
      rw [hl _ (by omega)]; simp; omega⟩
    refine ⟨fun hr => (by rw [hr] at hmr; exact absurd hmr (by simp)), fun i hi => ?_⟩
    obtain ⟨h1, o, ho, hedge⟩ := mem_ready.1 hi
    have hil := (Array.getElem?_eq_some_iff.1 ho).1
    rw [hgd i hil, hl i hil] at h1
    have him : m ≤ i := by simpa using h1
    have hie : i = m := by
      rcases Nat.eq_or_lt_of_le him with h2 | h2
      · exact h2.symm
      · exfalso
        have ha := tailOk_chain h hil (by omega) h2
        have hS : ∀ k o, (k < m) → ops[k]? = some o → ∀ e ∈ o.after, Region.binds .any e = true → e.on < m := fun k o hkm hk e he hb => by have := tailOk_edge h hk e he hb; omega
        have hlt : ∀ e ∈ o.after, Region.binds .any e = true → e.on < m := fun e he hb => by
          have h3 := hedge e he hb
          have h4 := tailOk_edge h ho e he hb
          rw [hl _ (by omega)] at h3; simpa using h3
        have h5 : m < m := anc_in (S := fun i => i < m) hS (fun k hk => ⟨_, Array.getElem?_eq_getElem (show k < ops.size by omega)⟩) i m o ho hlt ha
        omega
    subst hie
    have hd : ops.toList.drop i = ops[i] :: ops.toList.drop (i + 1) := by rw [List.drop_eq_getElem_cons (by simpa using hml)]; simp
    rw [hd] at hw
    unfold wpOp
    rw [hom]
    simp only [wpList] at hw
    have next : ∀ a w, wpList P ops Q (ops.toList.drop (i + 1)) a w → wpAny P .any ops Q f (listed.setIfInBounds i true) a w := fun a w hn =>
      ih (i + 1) (by omega) (by omega) f _ a w (by omega) (by simpa using hsz) (fun j hj => by
        by_cases hji : j = i
        · subst hji; simp [show j < listed.size by omega]
        · have := hl j hj
          simp only [Array.getD_eq_getD_getElem?, Array.getElem?_setIfInBounds] at this ⊢
          rw [if_neg (by omega), this]
          by_cases h2 : j < i <;> simp [h2] <;> omega) hn
    simp only
    split
    · rename_i hwt
      rw [if_pos hwt] at hw
      exact hw.imp (Oper.wp_mono next) id
    · rename_i hwt
      rw [if_neg hwt] at hw
      exact next _ _ hw

/-- The first k. -/
def pre (ops : Array Oper) (k : Nat) : Array Oper := (ops.toList.take k).toArray
theorem pre_get {i : Nat} (hi : i < k) : (pre ops k)[i]? = ops[i]? := by
  unfold pre; simp [hi]
theorem pre_none {i : Nat} (hi : k ≤ i) : (pre ops k)[i]? = none := by
  unfold pre; simp [List.getElem?_take, Nat.not_lt.2 hi]
theorem pre_size (h : k ≤ ops.size) : (pre ops k).size = k := by unfold pre; simp; omega

theorem tail_one (h : tailOk ops k = true) : ∀ (fuel : Nat) (listed l' : Array Bool) (a : Act) (w : World), listed.size = ops.size → l'.size = k → (∀ i, i < k → l'.getD i false = listed.getD i false) → (∀ j, k ≤ j → j < ops.size → listed.getD j false = false) →
    (∀ i o, listed.getD i false = true → ops[i]? = some o → ∀ e ∈ o.after, Region.binds .any e = true → listed.getD e.on false = true) →
    wpAny P .any (pre ops k) (Qn Q (wpList P ops Q (ops.toList.drop k))) fuel l' a w → wpAny P .any ops Q (fuel + (ops.size - k)) listed a w := by
  have hk := tailOk_le h
  intro fuel
  induction fuel with
  | zero =>
    intro listed l' a w hsz hs' hl ht hc hw
    obtain ⟨hr, hw⟩ := hw
    refine tail_two h (ops.size - k) k (by omega) (Nat.le_refl _) _ listed a w (by omega) hsz (fun j hj => ?_) hw
    by_cases hjk : j < k
    · rw [decide_eq_true hjk]
      have key : ∀ n j, j < n → j < k → listed.getD j false = true := by
        intro n
        induction n with
        | zero => intro j hj; omega
        | succ n ih =>
          intro j hjn hjk
          by_cases h1 : j < n
          · exact ih j h1 hjk
          · have hjn2 : j = n := by omega
            subst hjn2
            have ho : ops[j]? = some ops[j] := Array.getElem?_eq_getElem (by omega)
            cases hlj : listed.getD j false with
            | true => rfl
            | false =>
              exfalso
              have h2 : l'.getD j true = false := by
                have := hl j hjk
                rw [hlj] at this
                simp [show j < l'.size by omega] at this ⊢; exact this
              have : j ∈ Region.ready .any (pre ops k) l' := mem_ready.2 ⟨h2, ops[j], by rw [pre_get hjk]; exact ho, fun e he hb => by
                have h3 := tailOk_edge h ho e he hb
                rw [hl _ (by omega)]
                exact ih e.on (by omega) (by omega)⟩
              rw [hr] at this; cases this
      exact key (j + 1) j (by omega) hjk
    · rw [decide_eq_false hjk]; exact ht j (by omega) hj
  | succ f ih =>
    intro listed l' a w hsz hs' hl ht hc hw
    by_cases hall : ∀ i, i < k → listed.getD i false = true
    · have hr : Region.ready .any (pre ops k) l' = [] := by
        rw [List.eq_nil_iff_forall_not_mem]
        intro j hj
        obtain ⟨h1, o, ho, _⟩ := mem_ready.1 hj
        have hjl := (Array.getElem?_eq_some_iff.1 ho).1
        rw [pre_size hk] at hjl
        have := (hl j hjl).trans (hall j hjl)
        simp [show j < l'.size by omega] at h1 this
        rw [this] at h1; cases h1
      refine tail_two h (ops.size - k) k (by omega) (Nat.le_refl _) _ listed a w (by omega) hsz (fun j hj => ?_) (hw.1 hr)
      by_cases hjk : j < k
      · rw [decide_eq_true hjk]; exact hall j hjk
      · rw [decide_eq_false hjk]; exact ht j (by omega) hj
    · have hbar : ∀ i ∈ Region.ready .any ops listed, i < k := by
        intro i hi
        obtain ⟨h1, o, ho, hedge⟩ := mem_ready.1 hi
        have hil := (Array.getElem?_eq_some_iff.1 ho).1
        rcases Nat.lt_or_ge i k with h2 | h2
        · exact h2
        · exfalso
          refine hall fun m hm => ?_
          exact anc_in (S := fun i => listed.getD i false = true) (fun k o hk ho => hc k o hk ho) (fun k hk => ⟨_, Array.getElem?_eq_getElem (show k < ops.size by
            rcases Nat.lt_or_ge k ops.size with h4 | h4
            · exact h4
            · simp [Array.getElem?_eq_none (show listed.size ≤ k by omega)] at hk)⟩) i m o ho hedge (tailOk_chain h hil h2 (by omega))
      have hne : Region.ready .any ops listed ≠ [] := by
        intro hr
        refine hall ?_
        have key : ∀ n j, j < n → j < k → listed.getD j false = true := by
          intro n
          induction n with
          | zero => intro j hj; omega
          | succ n ih =>
            intro j hjn hjk
            by_cases h1 : j < n
            · exact ih j h1 hjk
            · have hjn2 : j = n := by omega
              subst hjn2
              have ho : ops[j]? = some ops[j] := Array.getElem?_eq_getElem (by omega)
              cases hlj : listed.getD j false with
              | true => rfl
              | false =>
                exfalso
                have h2 : listed.getD j true = false := by
                  simp [show j < listed.size by omega] at hlj ⊢; exact hlj
                have : j ∈ Region.ready .any ops listed := mem_ready.2 ⟨h2, ops[j], ho, fun e he hb => by
                  have h3 := tailOk_edge h ho e he hb
                  exact ih e.on (by omega) (by omega)⟩
                rw [hr] at this; cases this
        exact fun i hi => key (i + 1) i (by omega) hi
      rw [show f + 1 + (ops.size - k) = (f + (ops.size - k)) + 1 from by omega]
      refine ⟨fun hr => absurd hr hne, fun i hi => ?_⟩
      have hik := hbar i hi
      obtain ⟨h1, o, ho, hedge⟩ := mem_ready.1 hi
      have hil := (Array.getElem?_eq_some_iff.1 ho).1
      have hir : i ∈ Region.ready .any (pre ops k) l' := mem_ready.2 ⟨by
          have := hl i hik
          simp [show i < l'.size by omega, show i < listed.size by omega] at this h1 ⊢; rw [this]; exact h1, o, by rw [pre_get hik]; exact ho, fun e he hb => by
          have h3 := tailOk_edge h ho e he hb
          rw [hl _ (by omega)]; exact hedge e he hb⟩
      have hop := hw.2 i hir
      have next : ∀ a w, wpAny P .any (pre ops k) (Qn Q (wpList P ops Q (ops.toList.drop k))) f (l'.setIfInBounds i true) a w → wpAny P .any ops Q (f + (ops.size - k)) (listed.setIfInBounds i true) a w := fun a w hn =>
        ih _ _ a w (by simpa using hsz) (by simpa using hs') (fun j hj => by
          have := hl j hj
          simp only [Array.getD_eq_getD_getElem?, Array.getElem?_setIfInBounds] at this ⊢
          by_cases hji : i = j
          · subst hji; simp [show i < l'.size by omega, show i < listed.size by omega]
          · rw [if_neg hji, if_neg hji]; exact this) (fun j hj hjl => by
          have := ht j hj hjl
          simp only [Array.getD_eq_getD_getElem?, Array.getElem?_setIfInBounds] at this ⊢
          rw [if_neg (by omega)]; exact this) (fun j oj hj hoj e he hb => by
          simp only [Array.getD_eq_getD_getElem?, Array.getElem?_setIfInBounds] at hj ⊢
          by_cases he2 : i = e.on
          · subst he2; simp [show e.on < listed.size by omega]
          · rw [if_neg he2]
            by_cases hji : i = j
            · subst hji
              rw [ho] at hoj; cases hoj
              simpa [Array.getD_eq_getD_getElem?] using hedge e he hb
            · rw [if_neg hji] at hj
              simpa [Array.getD_eq_getD_getElem?] using hc j oj (by simpa [Array.getD_eq_getD_getElem?] using hj) hoj e he hb) hn
      unfold wpOp at hop ⊢
      rw [pre_get hik, ho] at hop
      rw [ho]
      simp only at hop ⊢
      have hwt : Region.wanted o (yielded (pre ops k) a.tmps) = Region.wanted o (yielded ops a.tmps) := by
        unfold Region.wanted
        cases hg : o.guard with
        | none => rfl
        | some gb =>
          obtain ⟨g, b⟩ := gb
          have := tailOk_guard h ho hik hg
          simp only [yielded, pre_get this]
      rw [hwt] at hop
      split
      · rename_i h5
        rw [if_pos h5] at hop
        exact hop.imp (fun h6 => Oper.wp_mono next (wp_qn h6)) id
      · rename_i h5
        rw [if_neg h5] at hop
        exact next _ _ hop

/-- The theorem of XFresh, at the orders themselves. -/
theorem wpAny_vals {a : Act} {w w1 : World} (V : Nat → Option Value) (A : Nat → Option (Value → World → Prop))
    (hok : freshOk ops (fun i => (A i).isSome) = true) (hpers : ∀ i Ai v w w', A i = some Ai → Ai v w → Below w.heap.size w w' → Ai v w')
    (hAV : ∀ i Ai c u w, A i = some Ai → V i = some c → Ai u w → u = c)
    (h : ∀ vs, (∀ i c, V i = some c → vs i = c) → wpF P ops w A vs (fun Le a' => ∀ w', Below w.heap.size w w' → (∀ p ∈ Le, p.2 w') → Q .normal a' w') 0 [] ops.toList a) (hw1 : Below w.heap.size w w1) :
    wpAny P .any ops Q ops.size (Array.replicate ops.size false) a w1 := by
  have hl : ∀ vs : Nat → Value, ∃ val : Nat → Value, (∀ i c, V i = some c → vs i = c) → (∀ k o, ops[k]? = some o → ∃ Lk, (∀ p ∈ Lk, Alive ops A vs val a k p) ∧ LexAt P ops w A vs val Lk k o (acts ops a val k)) ∧
      ∃ Le : Live, (∀ p ∈ Le, Alive ops A vs val a ops.size p) ∧ (∀ w', Below w.heap.size w w' → (∀ p ∈ Le, p.2 w') → Q .normal (acts ops a val ops.size) w') := by
    intro vs
    by_cases hvV : ∀ i c, V i = some c → vs i = c
    · obtain ⟨val, _, h2, Le, h3, h4⟩ := lex_of ops.toList 0 [] (fun _ => undef) (by intro k; simp) (by simp) (h vs hvV)
      refine ⟨val, fun _ => ⟨fun k o ho => h2 k o (Nat.zero_le _) ho, Le, by simpa using h3, ?_⟩⟩
      rw [show 0 + ops.toList.length = ops.size from by simp] at h4
      exact h4
    · exact ⟨fun _ => undef, fun h => absurd h hvV⟩
  refine run_any (w0 := w) (V := V) (Qe := fun (Le : Live) a' => ∀ w', Below w.heap.size w w' → (∀ p ∈ Le, p.2 w') → Q .normal a' w') (VAL := fun vs => Classical.choose (hl vs)) hok hpers hAV (fun vs hvV => (Classical.choose_spec (hl vs) hvV).1) (fun vs hvV => (Classical.choose_spec (hl vs) hvV).2) (fun Le a' w' hb hp hq => hq w' hb hp)
    ops.size _ a _ (fun i => (V i).getD undef) (fun i c hc => by simp [hc]) (by simp) (fun i o hi => ?_) (fun vs _ _ => ?_) hw1 (fun j o Aj hj => ?_) (fun i hi hio => Nat.lt_of_le_of_lt (Nat.zero_le _) hio) (by simp [List.countP_replicate])
  · simp [Array.getElem?_replicate] at hi
    split at hi <;> simp at hi
  · refine ⟨rfl, rfl, fun j o t hj => ?_, fun t _ => rfl⟩
    simp [Array.getElem?_replicate] at hj
    split at hj <;> simp at hj
  · simp [Array.getElem?_replicate] at hj
    split at hj <;> simp at hj

/-- THE THEOREM: the first k in whatever order, their new values known ('V'); the rest as a plain region. -/
theorem wp_region_tail {id : Nat} {a : Act} {w : World} (k : Nat) (V : Nat → Option Value) (hm : P.follows .mixedOrders = true) (ht : tailOk ops k = true) (hok : freshOk (pre ops k) (fun i => (V i).isSome) = true)
    (h : ∀ vs, (∀ i c, V i = some c → vs i = c) → wpF P (pre ops k) w (valA V) vs (fun _ a' => ∀ w', Below w.heap.size w w' → wpList P ops Q (ops.toList.drop k) a' w') 0 [] (ops.toList.take k) a) : (Code.region id ops true).wp P Q a w := by
  have hk := tailOk_le ht
  refine wp_region_any hm ?_
  have e : (fun i => (valA V i).isSome) = fun i => (V i).isSome := by funext i; simp [valA]
  have hsz := pre_size (ops := ops) hk
  have h1 : wpAny P .any (pre ops k) (Qn Q (wpList P ops Q (ops.toList.drop k))) (pre ops k).size (Array.replicate (pre ops k).size false) a { w with drawn := w.drawn + 1 } := by
    refine wpAny_vals (w := w) V (valA V) (by rw [e]; exact hok) (fun i Ai v w w' hA hv _ => ?_) (fun i Ai c u w hA hc hu => ?_) (fun vs hvs => ?_) ⟨rfl, rfl, rfl, Nat.le_refl _, fun _ _ => rfl⟩
    · unfold valA at hA
      obtain ⟨c, hc, rfl⟩ := Option.map_eq_some_iff.1 hA
      exact hv
    · unfold valA at hA
      rw [hc] at hA; cases hA; exact hu
    · have := h vs hvs
      have mono : ∀ (rest : List Oper) (i : Nat) (L : Live) (a : Act), wpF P (pre ops k) w (valA V) vs (fun _ a' => ∀ w', Below w.heap.size w w' → wpList P ops Q (ops.toList.drop k) a' w') i L rest a →
          wpF P (pre ops k) w (valA V) vs (fun Le a' => ∀ w', Below w.heap.size w w' → (∀ p ∈ Le, p.2 w') → Qn Q (wpList P ops Q (ops.toList.drop k)) .normal a' w') i L rest a := by
        intro rest
        induction rest with
        | nil => intro i L a h w' hb _; exact h w' hb
        | cons o rest ih =>
          intro i L a h
          refine ⟨fun hw => ?_, fun hw => ih _ _ _ (h.2 hw)⟩
          have h1 := h.1 hw
          cases hA : valA V i with
          | none => rw [hA] at h1; obtain ⟨v, hv, hr⟩ := h1; exact ⟨v, hv, ih _ _ _ hr⟩
          | some Ai => rw [hA] at h1; exact ⟨h1.1, ih _ _ _ h1.2⟩
      have h9 := mono _ _ _ _ this
      rw [show (pre ops k).toList = ops.toList.take k from by unfold pre; rfl]
      exact h9
  rw [hsz] at h1
  have h2 := tail_one ht k (Array.replicate ops.size false) (Array.replicate k false) a _ (by simp) (by simp) (fun i hi => by simp [hi, show i < ops.size by omega]) (fun j hj hjl => by simp [hjl])
    (fun i o hi => by simp [Array.getElem?_replicate] at hi; split at hi <;> simp at hi) h1
  rw [show k + (ops.size - k) = ops.size from by omega] at h2
  exact h2

/-- .. where some of the new values are known of by 'A' alone. -/
theorem wp_region_tailA {id : Nat} {a : Act} {w : World} (k : Nat) (V : Nat → Option Value) (A : Nat → Option (Value → World → Prop)) (hm : P.follows .mixedOrders = true) (ht : tailOk ops k = true) (hok : freshOk (pre ops k) (fun i => (A i).isSome) = true)
    (hpers : ∀ i Ai v w w', A i = some Ai → Ai v w → Below w.heap.size w w' → Ai v w') (hAV : ∀ i Ai c u w, A i = some Ai → V i = some c → Ai u w → u = c)
    (h : ∀ vs, (∀ i c, V i = some c → vs i = c) → wpF P (pre ops k) w A vs (fun Le a' => ∀ w', Below w.heap.size w w' → (∀ p ∈ Le, p.2 w') → wpList P ops Q (ops.toList.drop k) a' w') 0 [] (ops.toList.take k) a) : (Code.region id ops true).wp P Q a w := by
  have hk := tailOk_le ht
  refine wp_region_any hm ?_
  have hsz := pre_size (ops := ops) hk
  have h1 : wpAny P .any (pre ops k) (Qn Q (wpList P ops Q (ops.toList.drop k))) (pre ops k).size (Array.replicate (pre ops k).size false) a { w with drawn := w.drawn + 1 } :=
    wpAny_vals (w := w) V A hok hpers hAV (fun vs hvs => h vs hvs) ⟨rfl, rfl, rfl, Nat.le_refl _, fun _ _ => rfl⟩
  rw [hsz] at h1
  have h2 := tail_one ht k (Array.replicate ops.size false) (Array.replicate k false) a _ (by simp) (by simp) (fun i hi => by simp [hi, show i < ops.size by omega]) (fun j hj hjl => by simp [hjl])
    (fun i o hi => by simp [Array.getElem?_replicate] at hi; split at hi <;> simp at hi) h1
  rw [show k + (ops.size - k) = ops.size from by omega] at h2
  exact h2

theorem wpF_valA {w0 : World} {A : Nat → Option (Value → World → Prop)} {vs : Nat → Value} {Qe : Live → Act → Prop} {i : Nat} {L : Live} {o : Oper} {rest : List Oper} {a : Act} (c : Value) (hA : A i = some (fun v _ => v = c)) (hv : vs i = c)
    (h : ∃ a', (∀ w, Cls ops w0 L i w → ∀ K Qp, (∀ w', Below w.heap.size w w' → K a' w') → o.wp P a w K Qp) ∧ a.put o.dst c = a' ∧ Region.wanted o (yielded ops a.tmps) = true ∧ wpF P ops w0 A vs Qe (i + 1) ((i, fun _ => vs i = c) :: L) rest a') : wpF P ops w0 A vs Qe i L (o :: rest) a := by
  obtain ⟨a', h1, h2, h3, h4⟩ := h
  refine wpF_new (a' := a') (fun v _ => v = c) hA h3 (by rw [hv]; exact h2) (fun w hwc K Qp hK => h1 w hwc K Qp (fun w' hb => ?_)) h4
  rw [← h2]; exact hK c w' hb rfl
theorem wpF_newx {w0 : World} {A : Nat → Option (Value → World → Prop)} {vs : Nat → Value} {Qe : Live → Act → Prop} {i : Nat} {L : Live} {o : Oper} {rest : List Oper} {a : Act} (Ai : Value → World → Prop) (hA : A i = some Ai)
    (h : ∃ a', (∀ w, Cls ops w0 L i w → ∀ K Qp, (∀ u w', Below w.heap.size w w' → Ai u w' → K (a.put o.dst u) w') → o.wp P a w K Qp) ∧ a.put o.dst (vs i) = a' ∧ Region.wanted o (yielded ops a.tmps) = true ∧ wpF P ops w0 A vs Qe (i + 1) ((i, Ai (vs i)) :: L) rest a') : wpF P ops w0 A vs Qe i L (o :: rest) a := by
  obtain ⟨a', h1, h2, h3, h4⟩ := h
  exact wpF_new Ai hA h3 h2 h1 h4

/-- One call whose value is known, one element laid in a block of its own. -/
def A2 (i1 : Nat) (c1 : Value) (i2 : Nat) (u : Value) : Nat → Option (Value → World → Prop) := fun i =>
  if i = i1 then some (fun v _ => v = c1) else if i = i2 then some (fun v w => ∃ g, v = .slice (some ⟨g, 0, none⟩) 1 1 ∧ w.cell? ⟨g, 0, none⟩ = some u) else none
def V2 (i1 : Nat) (c1 : Value) : Nat → Option Value := fun i => if i = i1 then some c1 else none
theorem A2_pers (i1 : Nat) (c1 : Value) (i2 : Nat) (u : Value) : ∀ i Ai v w w', A2 i1 c1 i2 u i = some Ai → Ai v w → Below w.heap.size w w' → Ai v w' := by
  intro i Ai v w w' hA hv hb
  unfold A2 at hA
  split at hA
  · cases hA; exact hv
  · split at hA
    · cases hA; obtain ⟨g, h1, h2⟩ := hv; exact ⟨g, h1, bl_get hb h2⟩
    · cases hA
theorem A2_V2 (i1 : Nat) (c1 : Value) (i2 : Nat) (u : Value) : ∀ i Ai c v w, A2 i1 c1 i2 u i = some Ai → V2 i1 c1 i = some c → Ai v w → v = c := by
  intro i Ai c v w hA hV hv
  unfold V2 at hV
  split at hV
  · rename_i h
    unfold A2 at hA
    rw [if_pos h] at hA
    cases hA; cases hV; exact hv
  · cases hV
end
end Go.Proofs.Ytlganffeaapebaa
