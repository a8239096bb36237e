/- Which nodes of a block are used, and what is left of them: the plain law. No condition. -/
import Derived.Test.YtgecmooedhnenaaGs
namespace Go.Proofs.Ytgecmooedhnenaa
open Go.RowKit
set_option linter.unusedSimpArgs false
set_option linter.unusedVariables false
set_option linter.unnecessarySimpa false

def takesB (n : Nod) (v : Int) : Bool := decide (n.na = v) || (decide (n.kd = 6) && decide (n.nb = v))
def orderedB (l : List Nod) : Bool := (List.range l.length).all fun i => thereB (l.getD i default) ((i : Int) + 1)
/-- Which values are wanted when k nodes have been looked at, from the last one on. -/
def wt (l : List Nod) : Nat → Int → Bool
  | 0, v => decide (v = l.length)
  | k + 1, v => wt l k v || (wt l k ((l.length : Int) - k) && takesB (l.getD (l.length - 1 - k) default) v)
def usedB (l : List Nod) (i : Nat) : Bool := wt l (l.length - 1 - i) ((i : Int) + 1)
def usedL (l : List Nod) : List Nat := (List.range l.length).filter (usedB l)
def numU (us : List Nat) (v : Int) : Int := ((us.filter fun u : Nat => decide ((u : Int) < v)).length : Int)
def pruneN (us : List Nat) (n : Nod) : Nod := { n with na := numU us n.na, nb := if n.kd = 6 then numU us n.nb else n.nb }
def pruneL (l : List Nod) : List Nod := if orderedB l = true then (usedL l).map fun i => pruneN (usedL l) (l.getD i default) else l

theorem ordered_at {l : List Nod} (h : orderedB l = true) {i : Nat} (hi : i < l.length) : 0 ≤ (l.getD i default).na ∧ (l.getD i default).na ≤ i ∧ 0 ≤ secN (l.getD i default) ∧ secN (l.getD i default) ≤ i := by
  have := List.all_eq_true.1 h i (by simpa using hi)
  have := there_iff.1 this
  omega
theorem ordered_takes {l : List Nod} (h : orderedB l = true) {i : Nat} (hi : i < l.length) {v : Int} (hv : takesB (l.getD i default) v = true) : 0 ≤ v ∧ v ≤ i := by
  have := ordered_at h hi
  unfold takesB at hv
  unfold secN at this
  simp only [Bool.or_eq_true, Bool.and_eq_true, decide_eq_true_eq] at hv
  rcases hv with rfl | ⟨h6, rfl⟩
  · omega
  · rw [if_pos h6] at this; omega
/-- What is wanted so far. -/
theorem wt_iff (l : List Nod) : ∀ k, k ≤ l.length → ∀ v, wt l k v = true ↔ v = l.length ∨ ∃ j, l.length - k ≤ j ∧ j < l.length ∧ usedB l j = true ∧ takesB (l.getD j default) v = true
  | 0, _, v => by
    simp only [wt, decide_eq_true_eq]
    constructor
    · exact .inl
    · rintro (h | ⟨j, h1, h2, _⟩)
      · exact h
      · omega
  | k + 1, hk, v => by
    have hu : wt l k ((l.length : Int) - k) = usedB l (l.length - 1 - k) := by
      unfold usedB
      rw [show l.length - 1 - (l.length - 1 - k) = k by omega, show (((l.length - 1 - k : Nat) : Int)) + 1 = (l.length : Int) - k by omega]
    simp only [wt, Bool.or_eq_true, Bool.and_eq_true, wt_iff l k (by omega) v, hu]
    constructor
    · rintro ((h | ⟨j, h1, h2, h3⟩) | ⟨h1, h2⟩)
      · exact .inl h
      · exact .inr ⟨j, by omega, h2, h3⟩
      · exact .inr ⟨l.length - 1 - k, by omega, by omega, h1, h2⟩
    · rintro (h | ⟨j, h1, h2, h3, h4⟩)
      · exact .inl (.inl h)
      · by_cases e : j = l.length - 1 - k
        · subst e; exact .inr ⟨h3, h4⟩
        · exact .inl (.inr ⟨j, by omega, h2, h3, h4⟩)
theorem used_iff {l : List Nod} {i : Nat} (hi : i < l.length) : usedB l i = true ↔ i + 1 = l.length ∨ ∃ j, i < j ∧ j < l.length ∧ usedB l j = true ∧ takesB (l.getD j default) ((i : Int) + 1) = true := by
  unfold usedB
  rw [wt_iff l _ (by omega)]
  constructor
  · rintro (h | ⟨j, h1, h2, h3, h4⟩)
    · exact .inl (by omega)
    · exact .inr ⟨j, by omega, h2, h3, h4⟩
  · rintro (h | ⟨j, h1, h2, h3, h4⟩)
    · exact .inl (by omega)
    · exact .inr ⟨j, by omega, h2, h3, h4⟩
/-- What is wanted when a node is looked at stays what it is: later ones take values ahead of it. -/
theorem used_wt {l : List Nod} (h : orderedB l = true) {i k : Nat} (hi : i < l.length) (hk : l.length - 1 - i ≤ k) (hk2 : k ≤ l.length) : wt l k ((i : Int) + 1) = usedB l i := by
  rw [Bool.eq_iff_iff, wt_iff l k hk2, used_iff hi]
  constructor
  · rintro (h1 | ⟨j, h1, h2, h3, h4⟩)
    · exact .inl (by omega)
    · have := ordered_takes h h2 h4
      exact .inr ⟨j, by omega, h2, h3, h4⟩
  · rintro (h1 | ⟨j, h1, h2, h3, h4⟩)
    · exact .inl (by omega)
    · exact .inr ⟨j, by omega, h2, h3, h4⟩
theorem mem_used {l : List Nod} {i : Nat} : i ∈ usedL l ↔ i < l.length ∧ usedB l i = true := by
  unfold usedL; rw [List.mem_filter, List.mem_range]
/-- Used nodes take what used nodes make, or what came in. -/
theorem used_takes {l : List Nod} (h : orderedB l = true) {i : Nat} (hi : i ∈ usedL l) {v : Int} (hv : takesB (l.getD i default) v = true) : 0 ≤ v ∧ v ≤ i ∧ (v = 0 ∨ (v - 1).toNat ∈ usedL l) := by
  obtain ⟨h1, h2⟩ := mem_used.1 hi
  have h3 := ordered_takes h h1 hv
  refine ⟨h3.1, h3.2, ?_⟩
  by_cases e : v = 0
  · exact .inl e
  · refine .inr (mem_used.2 ⟨by omega, (used_iff (by omega)).2 (.inr ⟨i, by omega, h1, h2, ?_⟩)⟩)
    rw [show (((v - 1).toNat : Nat) : Int) + 1 = v by omega]; exact hv
theorem takes_na (n : Nod) : takesB n n.na = true := by unfold takesB; simp
theorem takes_nb {n : Nod} (h : n.kd = 6) : takesB n n.nb = true := by unfold takesB; simp [h]
/-! Numbers in order. -/
theorem numU_mono (us : List Nat) {a b : Int} (h : a ≤ b) : numU us a ≤ numU us b := by
  unfold numU
  have : (us.filter fun u : Nat => decide ((u : Int) < a)).Sublist (us.filter fun u : Nat => decide ((u : Int) < b)) := by
    have e : us.filter (fun u : Nat => decide ((u : Int) < a)) = (us.filter fun u : Nat => decide ((u : Int) < b)).filter (fun u : Nat => decide ((u : Int) < a)) := by
      rw [List.filter_filter]
      congr 1; funext u
      by_cases h1 : (u : Int) < a
      · have : (u : Int) < b := by omega
        simp [h1, this]
      · simp [h1]
    rw [e]; exact List.filter_sublist
  have := this.length_le
  omega
theorem numU_0 (us : List Nat) {v : Int} (h : v ≤ 0) : numU us v = 0 := by
  unfold numU
  rw [List.filter_eq_nil_iff.2 (fun u _ => by simp; omega)]; rfl
theorem numU_nn (us : List Nat) (v : Int) : 0 ≤ numU us v := by unfold numU; omega
theorem numU_le (us : List Nat) (v : Int) : numU us v ≤ us.length := by unfold numU; have := List.length_filter_le (fun u : Nat => decide ((u : Int) < v)) us; omega
/-- How many of an increasing list lie below one that is at the place j, or behind it. -/
theorem filter_take {us : List Nat} (h : us.Pairwise (· < ·)) : ∀ {j : Nat}, j < us.length → us.filter (fun u : Nat => decide ((u : Int) < us.getD j 0)) = us.take j := by
  induction us with
  | nil => intro j hj; simp at hj
  | cons a us ih =>
    intro j hj
    obtain ⟨h1, h2⟩ := List.pairwise_cons.1 h
    cases j with
    | zero =>
      simp only [List.getD_cons_zero, List.take_zero]
      rw [List.filter_eq_nil_iff]
      intro u hu
      rcases List.mem_cons.1 hu with rfl | hu
      · simp
      · have := h1 u hu; simp; omega
    | succ j =>
      have hj' : j < us.length := by simpa using hj
      have hm : us.getD j 0 ∈ us := by rw [List.getD_eq_getElem?_getD, List.getElem?_eq_getElem hj']; exact List.getElem_mem hj'
      have := h1 _ hm
      rw [List.getD_cons_succ, List.take_succ_cons, List.filter_cons, if_pos (by rw [decide_eq_true_eq]; omega), ih h2 hj']
theorem numU_at {us : List Nat} (h : us.Pairwise (· < ·)) {j : Nat} (hj : j < us.length) : numU us (us.getD j 0 : Nat) = j := by
  unfold numU; rw [filter_take h hj, List.length_take]; omega
theorem numU_up {us : List Nat} (h : us.Pairwise (· < ·)) {j : Nat} (hj : j < us.length) : numU us ((us.getD j 0 : Nat) + 1) = j + 1 := by
  have h1 := numU_at h hj
  have hm : us.getD j 0 ∈ us := by rw [List.getD_eq_getElem?_getD, List.getElem?_eq_getElem hj]; exact List.getElem_mem hj
  unfold numU at h1 ⊢
  have : (us.filter fun u : Nat => decide ((u : Int) < ((us.getD j 0 : Nat) : Int) + 1)) = us.take (j + 1) := by
    by_cases hj2 : j + 1 < us.length
    · rw [← filter_take h hj2]
      apply List.filter_congr
      intro u hu
      have hp := List.pairwise_iff_getElem.1 h
      obtain ⟨i, hi, rfl⟩ := List.mem_iff_getElem.1 hu
      rw [List.getD_eq_getElem?_getD, List.getElem?_eq_getElem hj, List.getD_eq_getElem?_getD, List.getElem?_eq_getElem hj2]
      simp only [Option.getD_some]
      rw [decide_eq_decide]
      constructor
      · intro hlt
        have h3 := hp j (j + 1) hj hj2 (by omega)
        omega
      · intro hlt
        by_cases h4 : i ≤ j
        · by_cases h5 : i = j
          · subst h5; omega
          · have := hp i j hi hj (by omega); omega
        · by_cases h6 : i = j + 1
          · subst h6; omega
          · have := hp (j + 1) i hj2 hi (by omega); omega
    · rw [List.take_of_length_le (by omega)]
      rw [List.filter_eq_self]
      intro u hu
      have hp := List.pairwise_iff_getElem.1 h
      obtain ⟨i, hi, rfl⟩ := List.mem_iff_getElem.1 hu
      rw [List.getD_eq_getElem?_getD, List.getElem?_eq_getElem hj]
      simp only [Option.getD_some, decide_eq_true_eq]
      by_cases h5 : i = j
      · subst h5; omega
      · have := hp i j hi hj (by omega); omega
  rw [this, List.length_take]; omega
theorem used_sorted (l : List Nod) : (usedL l).Pairwise (· < ·) := by
  unfold usedL; exact List.Pairwise.filter _ List.pairwise_lt_range
theorem numU_range (c : Nat) {v : Int} (h0 : 0 ≤ v) (h1 : v ≤ c) : numU (List.range c) v = v := by
  by_cases e : v.toNat < c
  · have := numU_at (us := List.range c) List.pairwise_lt_range (j := v.toNat) (by simpa using e)
    rw [List.getD_eq_getElem?_getD, List.getElem?_range e] at this
    simp only [Option.getD_some] at this
    rw [show ((v.toNat : Nat) : Int) = v by omega] at this; exact this
  · have e : v = c := by omega
    subst e
    unfold numU
    rw [List.filter_eq_self.2 (fun u hu => by have := List.mem_range.1 hu; simp; omega)]
    simp
theorem idx_used {l : List Nod} {i : Nat} (h : i ∈ usedL l) : ∃ j, j < (usedL l).length ∧ (usedL l).getD j 0 = i := by
  obtain ⟨j, hj, rfl⟩ := List.mem_iff_getElem.1 h
  exact ⟨j, hj, by rw [List.getD_eq_getElem?_getD, List.getElem?_eq_getElem hj]; rfl⟩
theorem pruneN_takes {us : List Nat} {n : Nod} {v : Int} (h : takesB n v = true) : takesB (pruneN us n) (numU us v) = true := by
  unfold takesB at h ⊢
  unfold pruneN
  simp only [Bool.or_eq_true, Bool.and_eq_true, decide_eq_true_eq] at h ⊢
  rcases h with rfl | ⟨h6, rfl⟩
  · exact .inl rfl
  · right; exact ⟨h6, by rw [if_pos h6]⟩
theorem pruneL_len {l : List Nod} (h : orderedB l = true) : (pruneL l).length = (usedL l).length := by unfold pruneL; rw [if_pos h, List.length_map]
theorem pruneL_at {l : List Nod} (h : orderedB l = true) {j : Nat} (hj : j < (usedL l).length) : (pruneL l).getD j default = pruneN (usedL l) (l.getD ((usedL l).getD j 0) default) := by
  unfold pruneL
  rw [if_pos h, List.getD_eq_getElem?_getD, List.getElem?_map, List.getElem?_eq_getElem hj, List.getD_eq_getElem?_getD (l := usedL l), List.getElem?_eq_getElem hj]; rfl
theorem used_at {l : List Nod} {j : Nat} (hj : j < (usedL l).length) : (usedL l).getD j 0 ∈ usedL l := by
  rw [List.getD_eq_getElem?_getD, List.getElem?_eq_getElem hj]; exact List.getElem_mem hj
/-- What a pruned node takes lies ahead of it. -/
theorem pruned_there {l : List Nod} (h : orderedB l = true) {j : Nat} (hj : j < (usedL l).length) {v : Int} (hv : takesB (l.getD ((usedL l).getD j 0) default) v = true) : 0 ≤ numU (usedL l) v ∧ numU (usedL l) v ≤ j := by
  obtain ⟨h1, h2, _⟩ := used_takes h (used_at hj) hv
  refine ⟨numU_nn _ _, ?_⟩
  have := numU_mono (usedL l) h2
  rw [numU_at (used_sorted l) hj] at this; exact this
theorem pruned_ordered {l : List Nod} (h : orderedB l = true) : orderedB (pruneL l) = true := by
  unfold orderedB
  rw [List.all_eq_true]
  intro j hj
  rw [List.mem_range, pruneL_len h] at hj
  rw [pruneL_at h hj, there_iff]
  have h1 := pruned_there h hj (takes_na _)
  have h2 := pruned_there h hj (v := (l.getD ((usedL l).getD j 0) default).nb)
  unfold secN pruneN
  dsimp only
  split
  · rename_i h6
    have h2 := h2 (takes_nb h6)
    omega
  · omega
theorem pruned_used {l : List Nod} (h : orderedB l = true) : ∀ (d j : Nat), (usedL l).length - 1 - j = d → j < (usedL l).length → usedB (pruneL l) j = true := by
  intro d
  induction d using Nat.strongRecOn with
  | _ d ih =>
    intro j hd hj
    rw [used_iff (by rw [pruneL_len h]; exact hj), pruneL_len h]
    by_cases e : j + 1 = (usedL l).length
    · exact .inl e
    · right
      have hu := mem_used.1 (used_at hj)
      rcases (used_iff hu.1).1 hu.2 with hl | ⟨i, h1, h2, h3, h4⟩
      · -- the last node is the last one used
        exfalso
        have h5 := mem_used.1 (used_at (l := l) (j := j + 1) (by omega))
        have h6 := numU_at (used_sorted l) hj
        have h7 := numU_at (used_sorted l) (j := j + 1) (by omega)
        have h8 := numU_mono (usedL l) (a := ((usedL l).getD (j + 1) 0 : Nat)) (b := ((usedL l).getD j 0 : Nat)) (by omega)
        omega
      · obtain ⟨j', hj', rfl⟩ := idx_used (mem_used.2 ⟨h2, h3⟩)
        have hlt : j < j' := by
          rcases Nat.lt_or_ge j j' with h9 | h9
          · exact h9
          · exfalso
            have h6 := numU_at (used_sorted l) hj
            have h7 := numU_at (used_sorted l) hj'
            have h8 := numU_mono (usedL l) (a := (((usedL l).getD j 0 : Nat) : Int) + 1) (b := ((usedL l).getD j' 0 : Nat)) (by omega)
            rw [numU_up (used_sorted l) hj, h7] at h8
            omega
        refine ⟨j', hlt, by omega, ih _ (by omega) j' rfl hj', ?_⟩
        rw [pruneL_at h hj']
        have := pruneN_takes (us := usedL l) h4
        rw [numU_up (used_sorted l) hj] at this
        exact this
theorem pruned_usedL {l : List Nod} (h : orderedB l = true) : usedL (pruneL l) = List.range (usedL l).length := by
  conv => lhs; unfold usedL
  rw [pruneL_len h]
  exact List.filter_eq_self.2 fun j hj => pruned_used h _ j rfl (List.mem_range.1 hj)
theorem pruneL_twice (l : List Nod) : pruneL (pruneL l) = pruneL l := by
  by_cases h : orderedB l = true
  · have h2 := pruned_ordered h
    have e0 : pruneL (pruneL l) = (usedL (pruneL l)).map fun i => pruneN (usedL (pruneL l)) ((pruneL l).getD i default) := by rw [pruneL, if_pos h2]
    rw [e0, pruned_usedL h]
    apply List.ext_getElem?
    intro j
    rw [List.getElem?_map]
    by_cases hj : j < (usedL l).length
    · have hj2 : j < (pruneL l).length := by rw [pruneL_len h]; exact hj
      rw [List.getElem?_range hj, List.getElem?_eq_getElem hj2]
      have he : (pruneL l)[j] = (pruneL l).getD j default := by rw [List.getD_eq_getElem?_getD, List.getElem?_eq_getElem hj2]; rfl
      rw [he, Option.map_some, pruneL_at h hj]
      congr 1
      have h3 := pruned_there h hj (takes_na _)
      have h4 := pruned_there h hj (v := (l.getD ((usedL l).getD j 0) default).nb)
      generalize hn : l.getD ((usedL l).getD j 0) default = n at *
      unfold pruneN
      simp only
      rw [numU_range _ h3.1 (by omega)]
      by_cases h6 : n.kd = 6
      · have h4 := h4 (takes_nb h6)
        rw [if_pos h6, if_pos h6, numU_range _ h4.1 (by omega)]
      · rw [if_neg h6]
    · rw [List.getElem?_eq_none (by simpa using hj), List.getElem?_eq_none (by rw [pruneL_len h]; omega)]; rfl
  · unfold pruneL; rw [if_neg h, if_neg h]
end Go.Proofs.Ytgecmooedhnenaa

