/- Texts of this claim, put together: VB. No condition. -/
import Derived.ScopeJumps
import Derived.IntWalk
import Derived.KernelRfl
import Derived.Laws.StructEq
import Derived.ChangeKeysEq
import Derived.Test.YtdmkhinckljddaaGreatBundleCopiesG1
set_option linter.unusedVariables false
set_option linter.unusedSimpArgs false
set_option linter.unnecessarySimpa false
/- A logic of values: regions, code, functions. No condition. (Theorems over any program.) -/
set_option linter.unusedVariables false
set_option linter.unusedSimpArgs false
set_option linter.unnecessarySimpa false
namespace Go.Proofs.YtdmkhinckljddaaGreat
open Go.RowKit

def mapBlk (fo : Nat → AV) (fp : Nat → Nat → Nat → AV) : Blk → Blk
  | .var cells => .var (AV.mapL fo fp cells)
  | .lp b R t => .lp b R (AV.mapL fo fp t)
  | .foc e z rows i r => .foc e z rows i (AV.mapL fo fp r)
  | b => b
def mapO (fo : Nat → AV) (fp : Nat → Nat → Nat → AV) : List (Nat × Blk) → List (Nat × Blk)
  | [] => []
  | (k, b) :: l => (k, mapBlk fo fp b) :: mapO fo fp l
theorem look_mapO (fo : Nat → AV) (fp : Nat → Nat → Nat → AV) (k : Nat) : ∀ l, look (mapO fo fp l) k = (look l k).map (mapBlk fo fp)
  | [] => rfl
  | (j, b) :: l => by
    rw [mapO, look, look, look_mapO fo fp k l]
    split <;> rfl
def dropL (ks : List Nat) : List (Nat × Blk) → List (Nat × Blk)
  | [] => []
  | (k, b) :: l => if ks.contains k then dropL ks l else (k, b) :: dropL ks l
theorem look_dropL (ks : List Nat) (k : Nat) : ∀ l, look (dropL ks l) k = if ks.contains k = true then none else look l k
  | [] => by simp [dropL, look]
  | (j, b) :: l => by
    rw [dropL]
    by_cases hj : ks.contains j = true
    · rw [if_pos hj, look_dropL ks k l, look]
      by_cases hjk : j = k
      · subst hjk; rw [if_pos hj, if_pos hj]
      · simp [hjk]
    · rw [if_neg hj, look, look, look_dropL ks k l]
      by_cases hjk : j = k
      · subst hjk; simp only [beq_self_eq_true, if_true]; rw [if_neg hj]
      · simp [hjk]

/-- The state under another naming: what is live under μ' is what was live under another name. -/
theorem StM.remap {S : Ex} {w0 : Base} {w : World} {μ μ' : Nat → Option OI} {σ : VS} {a : Act} (h : StM S w0 μ σ a w) (fo : Nat → AV) (fp : Nat → Nat → Nat → AV) (o' : List (Nat × Blk)) (ren : Nat → Nat)
    (hX : ∀ b, XOf S μ' b → XOf S μ b) (hfo : ∀ k v, Rel μ (XOf S μ) w (.own k) v → Rel μ' (XOf S μ') w (fo k) v) (hfp : ∀ k i o v, Rel μ (XOf S μ) w (.ptr k i o) v → Rel μ' (XOf S μ') w (fp k i o) v)
    (hlive : ∀ k o, μ' k = some o → μ (ren k) = some o) (hinj : ∀ k k' o o', μ' k = some o → μ' k' = some o' → ren k = ren k' → k = k')
    (ho' : ∀ k, (∃ o, μ' k = some o) → ∃ b, look σ.o (ren k) = some b ∧ look o' k = some (mapBlk fo fp b)) (ho2 : ∀ k b, look o' k = some b → ∃ o, μ' k = some o) (hpin : ∀ k o, w0.pins k = some o → μ' k = some o) (hrk : μ' rk = μ rk ∨ μ' rk = none := by first | exact .inl rfl | (dsimp only; split <;> first | exact .inr rfl | exact .inl rfl)) (hren : ∀ k o, μ' k = some o → ren k = rk → k = rk := by exact fun _ _ _ h => h) :
    StM S w0 μ' ⟨σ.t.map (AV.map fo fp), o'⟩ a w := by
  have hw : Wd (XOf S μ) (XOf S μ') w w := ⟨Nat.le_refl _, fun _ _ _ => rfl, fun b _ h => hX b h, fun _ h => h⟩
  refine ⟨h.defers.step hw, by simpa using h.size, fun i c v hc hv => ?_, fun k b hk => ?_, fun k o hk => ?_, fun k k' o o2 g hk hk' hg hg' => ?_, h.below, ⟨h.old.lt, hpin, h.old.hi, h.old.tab, h.old.fr⟩⟩
  · rw [List.getElem?_map, Option.map_eq_some_iff] at hc
    obtain ⟨c0, h0, rfl⟩ := hc
    exact (h.tmps i c0 v h0 hv).map hw hfo hfp hrk
  · obtain ⟨o, ho⟩ := ho2 k b hk
    obtain ⟨b0, hb0, hb1⟩ := ho' k ⟨o, ho⟩
    rw [hk] at hb1; injection hb1 with hb1; subst hb1
    obtain ⟨o3, ho3, hB⟩ := h.blks _ _ hb0
    rw [hlive k o ho] at ho3; injection ho3 with ho3; subst ho3
    refine ⟨o, ho, ?_⟩
    cases b0 with
    | var cells =>
      obtain ⟨g, cs, T, e, h1, h2, h3, h4, h5⟩ := hB
      refine ⟨g, cs, T, e, h1, h2, by rw [AV.mapL_eq]; simpa using h3, by rw [AV.mapL_eq]; simpa using h4, fun j c v hc hv => ?_⟩
      rw [AV.mapL_eq, List.getElem?_map, Option.map_eq_some_iff] at hc
      obtain ⟨c0, h0, rfl⟩ := hc
      exact (h5 j c0 v h0 hv).map hw hfo hfp hrk
    | slc e z rows =>
      obtain ⟨h1, h2, h3, h4, h5, h6⟩ := hB
      refine ⟨h1, h2, h3, h4, h5, ?_⟩
      rcases h6 with h6 | ⟨g, cs, e', h7, h8, h9, h10⟩
      · exact .inl h6
      · exact .inr ⟨g, cs, e', h7, h8, h9, fun i r j c v hi hj hv => ⟨(h10 i r j c v hi hj hv).1.step hw, (h10 i r j c v hi hj hv).2⟩⟩
    | obj x => exact hB
    | lp b R t =>
      obtain ⟨g, fn, ts, D, e, h1, h2, h3, h5⟩ := hB
      refine ⟨g, fn, ts, D, e, h1, h2, by rw [AV.mapL_eq]; simpa using h3, fun j c v hc hv => ?_⟩
      rw [AV.mapL_eq, List.getElem?_map, Option.map_eq_some_iff] at hc
      obtain ⟨c0, h0, rfl⟩ := hc
      exact (h5 j c0 v h0 hv).map hw hfo hfp hrk
    | foc e z rows i r =>
      obtain ⟨h1, h2, h3, h4, h5, hi, hr, g, cs, e', h7, h8, h9, h10, h11⟩ := hB
      refine ⟨h1, h2, h3, h4, h5, hi, by rw [AV.mapL_eq]; simpa using hr, g, cs, e', h7, h8, h9, fun i r j c v hn hi hj hv => ⟨(h10 i r j c v hn hi hj hv).1.step hw, (h10 i r j c v hn hi hj hv).2⟩, fun j c v hj hv => ?_⟩
      rw [AV.mapL_eq, List.getElem?_map, Option.map_eq_some_iff] at hj
      obtain ⟨c0, h0, rfl⟩ := hj
      exact ⟨(h11 j c0 v h0 hv).1.map hw hfo hfp hrk, (h11 j c0 v h0 hv).2⟩
    | reg m => exact hB
  · obtain ⟨b, hb1, hb⟩ := ho' k ⟨o, hk⟩
    refine ⟨_, hb, fun hr => ?_⟩
    obtain ⟨b2, hb2, hl⟩ := h.live _ o (hlive k o hk)
    rw [hb1] at hb2; injection hb2 with hb2; subst hb2
    obtain ⟨e1, m, e2⟩ := hl hr
    exact ⟨hren k o hk e1, m, by rw [e2]; rfl⟩
  · exact hinj k k' o o2 hk hk' (h.inj _ _ o o2 g (hlive k o hk) (hlive k' o2 hk') hg hg')

def pfo (ks : List Nat) (k : Nat) : AV := if ks.contains k then .any else .own k
def pfp (ks : List Nat) (k i o : Nat) : AV := if ks.contains k then .any else .ptr k i o
def purgeS (ks : List Nat) (σ : VS) : VS := match ks with
  | [] => σ
  | ks => ⟨σ.t.map (AV.map (pfo ks) (pfp ks)), mapO (pfo ks) (pfp ks) (dropL ks σ.o)⟩
def lowK (ks : List Nat) : Bool := ks.all fun k => Nat.blt k pinB
theorem lowK_mem {ks : List Nat} (h : lowK ks = true) {k : Nat} (hk : ks.contains k = true) : k < pinB := by
  have := List.all_eq_true.1 h k (by simpa using hk)
  rwa [Nat.blt_eq] at this
theorem St.purge {S : Ex} {w0 : Base} {w : World} {σ : VS} {a : Act} (h : St S w0 σ a w) (ks : List Nat) (hlow : lowK ks = true) : St S w0 (purgeS ks σ) a w := by
  cases ks with
  | nil => exact h
  | cons k0 kr =>
    obtain ⟨μ, h⟩ := h
    generalize hks : (k0 :: kr) = ks
    have hgoal : purgeS ks σ = ⟨σ.t.map (AV.map (pfo ks) (pfp ks)), mapO (pfo ks) (pfp ks) (dropL ks σ.o)⟩ := by subst hks; rfl
    rw [hgoal]
    have hX : ∀ b, XOf S (fun k => if ks.contains k = true then none else μ k) b → XOf S μ b := by
      rintro b (hs | ⟨k, o, hk, hg⟩)
      · exact .inl hs
      · dsimp only at hk; split at hk
        · cases hk
        · exact .inr ⟨k, o, hk, hg⟩
    refine ⟨fun k => if ks.contains k = true then none else μ k, h.remap (pfo ks) (pfp ks) _ (fun k => k) hX ?_ ?_ ?_ (fun k k' _ _ _ _ e => e) ?_ ?_ (fun k o hk => by
      have h2 := h.old.hi k o hk
      rw [if_neg (fun hc => by have := lowK_mem (by rw [hks] at hlow; exact hlow) hc; omega)]; exact h.old.pin k o hk) (dite (ks.contains rk = true) (fun hc => .inr (if_pos hc)) (fun hc => .inl (if_neg hc)))⟩
    · intro k v hr
      unfold pfo
      split
      · exact .any _
      · rename_i hk
        exact hr.step ⟨Nat.le_refl _, fun _ _ _ => rfl, fun b _ h => hX b h, fun _ h => h⟩ fun j hj => by simp [AV.ment] at hj; subst hj; left; simp only [if_neg hk]
    · intro k i o v hr
      unfold pfp
      split
      · exact .any _
      · rename_i hk
        exact hr.step ⟨Nat.le_refl _, fun _ _ _ => rfl, fun b _ h => hX b h, fun _ h => h⟩ fun j hj => by simp [AV.ment] at hj; subst hj; left; simp only [if_neg hk]
    · intro k o hk; split at hk
      · cases hk
      · exact hk
    · rintro k ⟨o, hk⟩
      split at hk
      · cases hk
      · rename_i hn
        obtain ⟨b, hb, _⟩ := h.live k o hk
        exact ⟨b, hb, by rw [look_mapO, look_dropL, if_neg hn, hb]; rfl⟩
    · intro k b hk
      rw [look_mapO, look_dropL] at hk
      split at hk
      · cases hk
      · rename_i hn
        rw [Option.map_eq_some_iff] at hk
        obtain ⟨b0, hb0, _⟩ := hk
        obtain ⟨o, ho, _⟩ := h.blks k b0 hb0
        exact ⟨o, by simp only [if_neg hn]; exact ho⟩

mutual
theorem purge_ment (ks : List Nat) (d : Nat) (hd : ks.contains d = true) (hdr : d ≠ rk) : ∀ c : AV, (c.map (pfo ks) (pfp ks)).ment d = false
  | .any => rfl
  | .lit _ => rfl
  | .agg l => purgeL_ment ks d hd hdr l
  | .tup l => purgeL_ment ks d hd hdr l
  | .sl _ _ => rfl
  | .ia _ => rfl
  | .own k => by
    simp only [AV.map, pfo]
    split
    · rfl
    · rename_i hk
      simp only [AV.ment]
      by_cases e : k = d
      · subst e; exact absurd hd hk
      · simpa using e
  | .ptr k i o => by
    simp only [AV.map, pfp]
    split
    · rfl
    · rename_i hk
      simp only [AV.ment]
      by_cases e : k = d
      · subst e; exact absurd hd hk
      · simpa using e
  | .clo _ l => purgeL_ment ks d hd hdr l
  | .opt _ _ _ a => purge_ment ks d hd hdr a
  | .ifc _ a => purge_ment ks d hd hdr a
  | .mth _ a => purge_ment ks d hd hdr a
  | .bnd _ a => purge_ment ks d hd hdr a
  | .mp k => by
    simp only [AV.map, pfp]
    split
    · rfl
    · rename_i hk
      simp only [mpOf, AV.ment]
      by_cases e : k = d
      · subst e; exact absurd hd hk
      · simpa using e
  | .yl k => by
    simp only [AV.map, pfp]
    split
    · rfl
    · rename_i hk
      simp only [ylOf, AV.ment]
      by_cases e : k = d
      · subst e; exact absurd hd hk
      · simpa using e
  | .fs _ _ => rfl
  | .tr _ _ => by simp only [AV.map, AV.ment]; simpa using Ne.symm hdr
  | .tia _ => by simp only [AV.map, AV.ment]; simpa using Ne.symm hdr
  | .uint _ => rfl
theorem purgeL_ment (ks : List Nat) (d : Nat) (hd : ks.contains d = true) (hdr : d ≠ rk) : ∀ l : List AV, AV.mentL d (AV.mapL (pfo ks) (pfp ks) l) = false
  | [] => rfl
  | a :: l => by rw [AV.mapL, AV.mentL, purge_ment ks d hd hdr a, purgeL_ment ks d hd hdr l]; rfl
end
theorem purge_clean (ks : List Nat) (σ : VS) (d : Nat) (hd : ks.contains d = true) (hdr : d ≠ rk) : Clean d (purgeS ks σ) := by
  cases ks with
  | nil => simp at hd
  | cons k0 kr =>
    generalize hks : (k0 :: kr) = ks at hd ⊢
    have hgoal : purgeS ks σ = ⟨σ.t.map (AV.map (pfo ks) (pfp ks)), mapO (pfo ks) (pfp ks) (dropL ks σ.o)⟩ := by subst hks; rfl
    rw [hgoal]
    refine ⟨fun i c hc => ?_, fun k b hk => ?_, ?_⟩
    · dsimp only at hc; rw [List.getElem?_map, Option.map_eq_some_iff] at hc
      obtain ⟨c0, _, rfl⟩ := hc; exact purge_ment ks d hd hdr c0
    · dsimp only at hk; rw [look_mapO, Option.map_eq_some_iff] at hk
      obtain ⟨b0, _, rfl⟩ := hk
      cases b0 with
      | var cells => exact purgeL_ment ks d hd hdr cells
      | slc => rfl
      | obj => rfl
      | lp b R t => exact purgeL_ment ks d hd hdr t
      | foc e z rows i r => exact purgeL_ment ks d hd hdr r
      | reg => rfl
    · dsimp only; rw [look_mapO, look_dropL, if_pos hd]; rfl
end Go.Proofs.YtdmkhinckljddaaGreat
namespace Go.Proofs.YtdmkhinckljddaaGreat
open Go.RowKit

/-! ### Calls that are handed blocks of the caller's own -/
/-- The memory alone: the blocks o under the names μ. -/
abbrev Mem (S : Ex) (β : Base) (μ : Nat → Option OI) (o : List (Nat × Blk)) (w : World) : Prop := StM S β μ ⟨[], o⟩ { tmps := #[], defers := [] } w
/-- The function f, called with these values and handed these blocks, gives that value and leaves those blocks; nothing else that was there is written, and names from 'pinB' on stay what they were. -/
def VM (P : Program) (f : Nat) (args : List AV) (o : List (Nat × Blk)) (r : AV) (o' : List (Nat × Blk)) : Prop :=
  ∀ (S : Ex) (β : Base) (μ : Nat → Option OI) (w : World) (xs : List Value), Mem S β μ o w → xs.length = args.length → (∀ (i : Nat) (c : AV) (v : Value), args[i]? = some c → xs[i]? = some v → Rel μ (XOf S μ) w c v) →
    Calls P f xs.toArray w fun e w' => ∃ x μ', e = .returned x ∧ Mem S β μ' o' w' ∧ Rel μ' (XOf S μ') w' r x
def mpo (rn : Nat → Option Nat) (k : Nat) : AV := match rn k with
  | some k' => .own k'
  | none => .any
def mpp (rn : Nat → Option Nat) (k i o : Nat) : AV := match rn k with
  | some k' => .ptr k' i o
  | none => .any
/-- Names of the caller's, and what they are called inside. -/
structure RenOK (σ : VS) (rn ri : Nat → Option Nat) : Prop where
  to : ∀ k k', rn k = some k' → ri k' = some k
  fro : ∀ k k', ri k' = some k → rn k = some k'
  live : ∀ k k', rn k = some k' → ∃ b, look σ.o k = some b
  pin : ∀ k k', rn k = some k' → pinB ≤ k → pinB ≤ k'
  rg : look σ.o rk = none
  rr : ∀ k k', rn k = some k' → k' ≠ rk
structure OutOK (σ : VS) (rn ri outF outI : Nat → Option Nat) : Prop where
  to : ∀ k k', outF k' = some k → outI k = some k'
  fro : ∀ k k', outI k = some k' → outF k' = some k
  pin : ∀ k', pinB ≤ k' → outF k' = ri k'
  fresh : ∀ k k', k' < pinB → outF k' = some k → Clean k σ ∧ rn k = none ∧ k < pinB
def muK (ri : Nat → Option Nat) (μ : Nat → Option OI) : Nat → Option OI := fun k' => (ri k').bind μ
def passed (rn : Nat → Option Nat) (μ : Nat → Option OI) (b : Nat) : Prop := ∃ k o, (rn k).isSome = true ∧ μ k = some o ∧ o.has b
def kept (S : Ex) (rn : Nat → Option Nat) (μ : Nat → Option OI) : Ex := ⟨fun b => S b ∨ ∃ k o, rn k = none ∧ μ k = some o ∧ o.has b, S.f⟩
def baseK (rn ri : Nat → Option Nat) (μ : Nat → Option OI) (w : World) : Base := ⟨w, passed rn μ, fun k' => if pinB ≤ k' then muK ri μ k' else none⟩

theorem passed_x {S : Ex} {rn : Nat → Option Nat} {μ : Nat → Option OI} {b : Nat} (h : passed rn μ b) : XOf S μ b := by
  obtain ⟨k, o, _, h1, h2⟩ := h; exact .inr ⟨k, o, h1, h2⟩
theorem kept_x {S : Ex} {rn : Nat → Option Nat} {μ : Nat → Option OI} {b : Nat} (h : kept S rn μ b) : XOf S μ b := by
  rcases h with h | ⟨k, o, _, h1, h2⟩
  · exact .inl h
  · exact .inr ⟨k, o, h1, h2⟩
theorem muK_some {rn ri : Nat → Option Nat} {μ : Nat → Option OI} {k' : Nat} {o : OI} (h : muK ri μ k' = some o) : ∃ k, ri k' = some k ∧ μ k = some o := by
  unfold muK at h
  cases hr : ri k' with
  | none => rw [hr] at h; cases h
  | some k => rw [hr] at h; exact ⟨k, rfl, h⟩
theorem RenOK.kr {σ : VS} {rn ri : Nat → Option Nat} (hr : RenOK σ rn ri) (μ : Nat → Option OI) : muK ri μ rk = none := by
  unfold muK
  cases e : ri rk with
  | none => rfl
  | some k => exact absurd rfl (hr.rr k rk (hr.fro _ _ e))
theorem RenOK.mr {σ : VS} {rn ri : Nat → Option Nat} (hr : RenOK σ rn ri) {S : Ex} {β : Base} {w : World} {μ : Nat → Option OI} {a : Act} (h : StM S β μ σ a w) : μ rk = none := by
  cases e : μ rk with
  | none => rfl
  | some o => obtain ⟨b, hb, _⟩ := h.live rk o e; rw [hr.rg] at hb; cases hb
theorem RenOK.nr {σ : VS} {rn ri : Nat → Option Nat} (hr : RenOK σ rn ri) {S : Ex} {β : Base} {w : World} {μ : Nat → Option OI} {a : Act} (h : StM S β μ σ a w) {k : Nat} {o : OI} (hk : μ k = some o) : o.r = none := by
  cases e : o.r with
  | none => rfl
  | some x =>
    obtain ⟨b, hb, hl⟩ := h.live k o hk
    obtain ⟨rfl, _⟩ := hl (by rw [e]; rfl)
    rw [hr.rg] at hb; cases hb
theorem inK {S : Ex} {β : Base} {w : World} {μ : Nat → Option OI} {σ : VS} {rn ri : Nat → Option Nat} (hr : RenOK σ rn ri) {c : AV} {v : Value} (h : Rel μ (XOf S μ) w c v) :
    Rel (muK ri μ) (XOf (kept S rn μ) (muK ri μ)) w (c.map (mpo rn) (mpp rn)) v := by
  have hkr := hr.kr μ
  have hw : Wd (XOf S μ) (XOf (kept S rn μ) (muK ri μ)) w w := ⟨Nat.le_refl _, fun _ _ _ => rfl, fun b _ hb => by
    rcases hb with hb | ⟨k', o, hk, hg⟩
    · exact kept_x hb
    · obtain ⟨k, _, h2⟩ := muK_some (rn := rn) hk; exact .inr ⟨k, o, h2, hg⟩, fun _ h => h⟩
  have hmu : ∀ k k', rn k = some k' → muK ri μ k' = μ k := fun k k' e => by unfold muK; rw [hr.to k k' e]; rfl
  refine h.map hw (fun k v hv => ?_) (fun k i o v hv => ?_) (.inr hkr)
  · unfold mpo
    cases e : rn k with
    | none => exact .any _
    | some k' =>
      cases hv with
      | pure hp => cases hp
      | own h1 => exact .own ((hmu k k' e).trans h1)
      | deadO _ h1 => exact .deadO _ ((hmu k k' e).trans h1)
  · unfold mpp
    cases e : rn k with
    | none => exact .any _
    | some k' =>
      cases hv with
      | pure hp => cases hp
      | ptr h1 hg => exact .ptr ((hmu k k' e).trans h1) hg
      | deadP _ h1 => exact .deadP _ ((hmu k k' e).trans h1)
theorem Mem.enter {S : Ex} {β : Base} {w : World} {μ : Nat → Option OI} {σ : VS} {a : Act} (h : StM S β μ σ a w) {rn ri : Nat → Option Nat} (hr : RenOK σ rn ri) {oK : List (Nat × Blk)}
    (hoK : ∀ k', look oK k' = (ri k').bind fun k => (look σ.o k).map (mapBlk (mpo rn) (mpp rn))) : Mem (kept S rn μ) (baseK rn ri μ w) (muK ri μ) oK w := by
  have hw : Wd (XOf S μ) (XOf (kept S rn μ) (muK ri μ)) w w := ⟨Nat.le_refl _, fun _ _ _ => rfl, fun b _ hb => by
    rcases hb with hb | ⟨k', o, hk, hg⟩
    · exact kept_x hb
    · obtain ⟨k, _, h2⟩ := muK_some (rn := rn) hk; exact .inr ⟨k, o, h2, hg⟩, fun _ h => h⟩
  refine ⟨DefOK.nil _ _ _, rfl, fun i c v hc => by simp at hc, fun k' b hb => ?_, fun k' o hk => ?_, fun k1 k2 o1 o2 g h1 h2 g1 g2 => ?_, Bel.refl _ _ _, ⟨fun b hb => ⟨h.xlt (kept_x hb), fun hp => ?_⟩, fun k o hk => ?_, fun k o hk => ?_, ⟨h.tab, fun p hp hq => by obtain ⟨k, o, _, h2, h3⟩ := hq; exact h.tabX hp h2 h3⟩, fun b hb => ⟨Nat.lt_of_lt_of_le (h.old.fr b hb).1 h.below.size, fun hp => by
    obtain ⟨k, o, _, h2, h3⟩ := hp
    rcases (h.lt h2 h3).1 with h4 | h4
    · have := (h.old.fr b hb).1; omega
    · exact (h.old.fr b hb).2 h4⟩⟩⟩
  · dsimp only at hb
    rw [hoK] at hb
    cases hk : ri k' with
    | none => rw [hk] at hb; cases hb
    | some k =>
      rw [hk] at hb
      simp only [Option.bind_some, Option.map_eq_some_iff] at hb
      obtain ⟨b0, hb0, rfl⟩ := hb
      obtain ⟨o, ho, hB⟩ := h.blks k b0 hb0
      have hmu : muK ri μ k' = some o := by unfold muK; rw [hk]; exact ho
      have hm : ∀ g, o.g = some g → (baseK rn ri μ w).mine g := fun g hg => .inr ⟨k, o, by rw [hr.fro k k' hk]; rfl, ho, .inl hg⟩
      refine ⟨o, hmu, ?_⟩
      cases b0 with
      | var cells =>
        obtain ⟨g, cs, T, e, h1, h2, h3, h4, h5⟩ := hB
        refine ⟨g, cs, T, e, hm g e, h2, by rw [AV.mapL_eq]; simpa using h3, by rw [AV.mapL_eq]; simpa using h4, fun j c v hc hv => ?_⟩
        rw [AV.mapL_eq, List.getElem?_map, Option.map_eq_some_iff] at hc
        obtain ⟨c0, h0, rfl⟩ := hc
        exact inK (β := β) hr (h5 j c0 v h0 hv)
      | slc e z rows =>
        obtain ⟨h1, h2, h3, h4, h5, h6⟩ := hB
        refine ⟨h1, h2, h3, h4, h5, ?_⟩
        rcases h6 with h6 | ⟨g, cs, e', h7, h8, h9, h10⟩
        · exact .inl h6
        · exact .inr ⟨g, cs, e', hm g e', h8, h9, fun i r j c v hi hj hv => ⟨(h10 i r j c v hi hj hv).1.step hw, (h10 i r j c v hi hj hv).2⟩⟩
      | obj x => obtain ⟨g, e, h1, h2⟩ := hB; exact ⟨g, e, hm g e, h2⟩
      | lp b R t =>
        obtain ⟨g, fn, ts, D, e, h1, h2, h3, h5⟩ := hB
        refine ⟨g, fn, ts, D, e, hm g e, h2, by rw [AV.mapL_eq]; simpa using h3, fun j c v hc hv => ?_⟩
        rw [AV.mapL_eq, List.getElem?_map, Option.map_eq_some_iff] at hc
        obtain ⟨c0, h0, rfl⟩ := hc
        exact inK (β := β) hr (h5 j c0 v h0 hv)
      | foc e z rows i r =>
        obtain ⟨h1, h2, h3, h4, h5, hi, hr', g, cs, e', h7, h8, h9, h10, h11⟩ := hB
        refine ⟨h1, h2, h3, h4, h5, hi, by rw [AV.mapL_eq]; simpa using hr', g, cs, e', hm g e', h8, h9, fun i r j c v hn hi hj hv => ⟨(h10 i r j c v hn hi hj hv).1.step hw, (h10 i r j c v hn hi hj hv).2⟩, fun j c v hj hv => ?_⟩
        rw [AV.mapL_eq, List.getElem?_map, Option.map_eq_some_iff] at hj
        obtain ⟨c0, h0, rfl⟩ := hj
        exact ⟨inK (β := β) hr (h11 j c0 v h0 hv).1, (h11 j c0 v h0 hv).2⟩
      | reg m => obtain ⟨lo, W, e, _⟩ := hB; rw [hr.nr h ho] at e; cases e
  · obtain ⟨k, h1, h2⟩ := muK_some (rn := rn) hk
    obtain ⟨b, hb, _⟩ := h.live k o h2
    exact ⟨mapBlk (mpo rn) (mpp rn) b, by dsimp only; rw [hoK, h1]; simp [hb], fun e => by rw [hr.nr h h2] at e; cases e⟩
  · obtain ⟨j1, e1, f1⟩ := muK_some (rn := rn) h1
    obtain ⟨j2, e2, f2⟩ := muK_some (rn := rn) h2
    have := h.inj j1 j2 o1 o2 g f1 f2 g1 g2
    subst this
    have a1 := hr.fro _ _ e1
    have a2 := hr.fro _ _ e2
    rw [a1] at a2; injection a2
  · rcases hb with hs | ⟨k, o, h1, h2, h3⟩
    · obtain ⟨k, o, _, h2, h3⟩ := hp; exact h.sep h2 h3 hs
    · obtain ⟨k2, o2, g1, g2, g3⟩ := hp
      have := h.inj k k2 o o2 b h2 g2 h3 g3
      subst this; rw [h1] at g1; cases g1
  · unfold baseK at hk
    dsimp only at hk
    split at hk
    · exact hk
    · cases hk
  · unfold baseK at hk
    dsimp only at hk
    split at hk
    · assumption
    · cases hk
def muOut (rn outI : Nat → Option Nat) (μ μ' : Nat → Option OI) : Nat → Option OI := fun k => match outI k with
  | some k' => μ' k'
  | none => match rn k with
    | some _ => none
    | none => μ k
theorem Mem.leave {S : Ex} {β : Base} {w w' : World} {μ μ' : Nat → Option OI} {σ : VS} {a : Act} (h : StM S β μ σ a w) {rn ri outF outI : Nat → Option Nat} (hr : RenOK σ rn ri) (hx : OutOK σ rn ri outF outI) {o' newO : List (Nat × Blk)}
    (hm : Mem (kept S rn μ) (baseK rn ri μ w) μ' o' w')
    (hnO : ∀ k, look newO k = match outI k with | some k' => (look o' k').map (mapBlk (mpo outF) (mpp outF)) | none => match rn k with | some _ => none | none => look σ.o k) :
    StM S β (muOut rn outI μ μ') ⟨σ.t, newO⟩ a w' ∧ ∀ r x, Rel μ' (XOf (kept S rn μ) μ') w' r x → Rel (muOut rn outI μ μ') (XOf S (muOut rn outI μ μ')) w' (r.map (mpo outF) (mpp outF)) x := by
  -- a name that stays
  have pinned : ∀ k k', outI k = some k' → pinB ≤ k' → μ' k' = μ k := by
    intro k k' ho hk
    have h1 := hx.fro k k' ho
    rw [hx.pin k' hk] at h1
    obtain ⟨b, hb⟩ := hr.live k k' (hr.fro _ _ h1)
    obtain ⟨o, ho2, _⟩ := h.blks k b hb
    rw [ho2]
    refine hm.old.pin k' o ?_
    unfold baseK; dsimp only; rw [if_pos hk]; unfold muK; rw [h1]; exact ho2
  have keep : ∀ k, ¬ (∃ k', outI k = some k' ∧ k' < pinB) → muOut rn outI μ μ' k = μ k ∨ muOut rn outI μ μ' k = none := by
    intro k hk
    unfold muOut
    cases ho : outI k with
    | some k' =>
      left
      exact pinned k k' ho (by apply Classical.byContradiction; intro hlt; exact hk ⟨k', ho, by omega⟩)
    | none =>
      cases e : rn k with
      | some _ => exact .inr rfl
      | none => exact .inl rfl
  have outX : ∀ b, XOf S (muOut rn outI μ μ') b → XOf (kept S rn μ) μ' b := by
    rintro b (hs | ⟨k, o, hk, hg⟩)
    · exact .inl (.inl hs)
    · unfold muOut at hk
      cases ho : outI k with
      | some k' => rw [ho] at hk; exact .inr ⟨k', o, hk, hg⟩
      | none =>
        rw [ho] at hk
        dsimp only at hk
        cases e : rn k with
        | some _ => rw [e] at hk; cases hk
        | none => rw [e] at hk; exact .inl (.inr ⟨k, o, e, hk, hg⟩)
  have w1 : Wd (XOf S μ) (XOf S (muOut rn outI μ μ')) w w' := by
    refine ⟨hm.below.size, fun b hb hX => hm.below.block b hb fun hp => hX (passed_x hp), fun b hb hXb => ?_, fun _ h => h⟩
    rcases outX b hXb with hk | ⟨k', o, hk, hg⟩
    · exact kept_x hk
    · rcases (hm.lt hk hg).1 with h1 | h1
      · exact absurd hb (Nat.not_lt.2 h1)
      · exact passed_x h1
  have w2 : Wd (XOf (kept S rn μ) μ') (XOf S (muOut rn outI μ μ')) w' w' := ⟨Nat.le_refl _, fun _ _ _ => rfl, fun b _ hb => outX b hb, fun _ h => h⟩
  have mrn : muOut rn outI μ μ' rk = none := by
    unfold muOut
    cases ho : outI rk with
    | some k' =>
      exfalso
      have h1 := hx.fro rk k' ho
      by_cases hk : pinB ≤ k'
      · rw [hx.pin k' hk] at h1
        obtain ⟨b, hb⟩ := hr.live rk k' (hr.fro _ _ h1)
        rw [hr.rg] at hb; cases hb
      · have := (hx.fresh rk k' (by omega) h1).2.2
        unfold rk pinB at this; omega
    | none =>
      dsimp only
      cases e : rn rk with
      | some _ => rfl
      | none => exact hr.mr h
  have hmu : ∀ k k', outF k' = some k → muOut rn outI μ μ' k = μ' k' := fun k k' e => by unfold muOut; rw [hx.to k k' e]
  have outR : ∀ c v, Rel μ' (XOf (kept S rn μ) μ') w' c v → Rel (muOut rn outI μ μ') (XOf S (muOut rn outI μ μ')) w' (c.map (mpo outF) (mpp outF)) v := by
    intro c v hv
    refine hv.map w2 (fun k v hv => ?_) (fun k i o v hv => ?_) (.inr mrn)
    · unfold mpo
      cases e : outF k with
      | none => exact .any _
      | some k' =>
        cases hv with
        | pure hp => cases hp
        | own h1 => exact .own ((hmu k' k e).trans h1)
        | deadO _ h1 => exact .deadO _ ((hmu k' k e).trans h1)
    · unfold mpp
      cases e : outF k with
      | none => exact .any _
      | some k' =>
        cases hv with
        | pure hp => cases hp
        | ptr h1 hg => exact .ptr ((hmu k' k e).trans h1) hg
        | deadP _ h1 => exact .deadP _ ((hmu k' k e).trans h1)
  have outReg : ∀ k k', outI k = some k' → ∀ o, μ' k' = some o → o.r.isSome = true → False := by
    intro k k' ho o ho2 he
    obtain ⟨_, _, hl⟩ := hm.live k' o ho2
    obtain ⟨rfl, _⟩ := hl he
    have h1 := hx.fro k rk ho
    rw [hx.pin rk (by unfold rk pinB; omega)] at h1
    exact hr.rr k rk (hr.fro _ _ h1) rfl
  have clean : ∀ k, (∃ k', outI k = some k' ∧ k' < pinB) → Clean k σ := fun k ⟨k', h1, h2⟩ => (hx.fresh k k' h2 (hx.fro k k' h1)).1
  have bel : Bel β w' := h.below.upd ⟨hm.below.os, hm.below.tape, hm.below.output, hm.below.size, fun k hk => absurd hk (Nat.not_lt_zero _)⟩ fun b hb hnm => hm.below.block b hb fun hp => by
    obtain ⟨k, o, _, h2, h3⟩ := hp; exact hnm (h.lt h2 h3).1
  refine ⟨⟨h.defers.step w1, h.size, fun i c v hc hv => (h.tmps i c v hc hv).step w1 fun k hk => keep k fun hf => ?_, fun k b hb => ?_, fun k o hk => ?_, fun k1 k2 o1 o2 g h1 h2 g1 g2 => ?_, bel, ⟨h.old.lt, fun k o hk => ?_, h.old.hi, h.old.tab, h.old.fr⟩⟩, outR⟩
  · have := (clean k hf).t i c hc; rw [this] at hk; cases hk
  · dsimp only at hb
    rw [hnO] at hb
    cases ho : outI k with
    | some k' =>
      rw [ho] at hb
      simp only [Option.map_eq_some_iff] at hb
      obtain ⟨b0, hb0, rfl⟩ := hb
      obtain ⟨o, ho2, hB⟩ := hm.blks k' b0 hb0
      have hm2 : ∀ g, (baseK rn ri μ w).mine g → β.mine g := by
        rintro g (h1 | ⟨k2, o2, _, h2, h3⟩)
        · exact .inl (Nat.le_trans h.below.size h1)
        · exact (h.lt h2 h3).1
      refine ⟨o, by unfold muOut; rw [ho]; exact ho2, ?_⟩
      cases b0 with
      | var cells =>
        obtain ⟨g, cs, T, e, h1, h2, h3, h4, h5⟩ := hB
        refine ⟨g, cs, T, e, hm2 g h1, h2, by rw [AV.mapL_eq]; simpa using h3, by rw [AV.mapL_eq]; simpa using h4, fun j c v hc hv => ?_⟩
        rw [AV.mapL_eq, List.getElem?_map, Option.map_eq_some_iff] at hc
        obtain ⟨c0, h0, rfl⟩ := hc
        exact outR c0 v (h5 j c0 v h0 hv)
      | slc e z rows =>
        obtain ⟨h1, h2, h3, h4, h5, h6⟩ := hB
        refine ⟨h1, h2, h3, h4, h5, ?_⟩
        rcases h6 with h6 | ⟨g, cs, e', h7, h8, h9, h10⟩
        · exact .inl h6
        · exact .inr ⟨g, cs, e', hm2 g h7, h8, h9, fun i r j c v hi hj hv => ⟨(h10 i r j c v hi hj hv).1.step w2, (h10 i r j c v hi hj hv).2⟩⟩
      | obj x => obtain ⟨g, e, h1, h2⟩ := hB; exact ⟨g, e, hm2 g h1, h2⟩
      | lp b R t =>
        obtain ⟨g, fn, ts, D, e, h1, h2, h3, h5⟩ := hB
        refine ⟨g, fn, ts, D, e, hm2 g h1, h2, by rw [AV.mapL_eq]; simpa using h3, fun j c v hc hv => ?_⟩
        rw [AV.mapL_eq, List.getElem?_map, Option.map_eq_some_iff] at hc
        obtain ⟨c0, h0, rfl⟩ := hc
        exact outR c0 v (h5 j c0 v h0 hv)
      | foc e z rows i r =>
        obtain ⟨h1, h2, h3, h4, h5, hi, hr', g, cs, e', h7, h8, h9, h10, h11⟩ := hB
        refine ⟨h1, h2, h3, h4, h5, hi, by rw [AV.mapL_eq]; simpa using hr', g, cs, e', hm2 g h7, h8, h9, fun i r j c v hn hi hj hv => ⟨(h10 i r j c v hn hi hj hv).1.step w2, (h10 i r j c v hn hi hj hv).2⟩, fun j c v hj hv => ?_⟩
        rw [AV.mapL_eq, List.getElem?_map, Option.map_eq_some_iff] at hj
        obtain ⟨c0, h0, rfl⟩ := hj
        exact ⟨outR c0 v (h11 j c0 v h0 hv).1, (h11 j c0 v h0 hv).2⟩
      | reg m =>
        exfalso
        exact outReg k k' ho o ho2 (by obtain ⟨lo, W, e, _⟩ := hB; rw [e]; rfl)
    | none =>
      rw [ho] at hb
      dsimp only at hb
      cases e : rn k with
      | some _ => rw [e] at hb; cases hb
      | none =>
        rw [e] at hb
        obtain ⟨o, ho2, hB⟩ := h.blks k b hb
        refine ⟨o, by unfold muOut; rw [ho]; dsimp only; rw [e]; exact ho2, hB.step w1 (fun g hg => hm.below.block g (h.lt ho2 hg).2 fun hp => ?_) fun jj hj => keep jj fun hf => ?_⟩
        · obtain ⟨k2, o2, h1, h2, h3⟩ := hp
          have := h.inj k k2 o o2 g ho2 h2 hg h3
          subst this; rw [e] at h1; cases h1
        · have := (clean jj hf).o k b hb; rw [this] at hj; cases hj
  · dsimp only
    rw [hnO]
    unfold muOut at hk
    cases ho : outI k with
    | some k' =>
      rw [ho] at hk
      obtain ⟨b, hb, _⟩ := hm.live k' o hk
      exact ⟨_, by dsimp only at hb ⊢; rw [hb]; rfl, fun e => (outReg k k' ho o hk e).elim⟩
    | none =>
      rw [ho] at hk
      dsimp only at hk ⊢
      cases e : rn k with
      | some _ => rw [e] at hk; cases hk
      | none => rw [e] at hk; exact h.live k o hk
  · unfold muOut at h1 h2
    have sepm : ∀ k k' o o2, outI k = some k' → μ' k' = some o → o.has g → ∀ j, rn j = none → μ j = some o2 → o2.has g → False := fun k k' o o2 _ q2 q3 j q4 q5 q6 => hm.sep q2 q3 (.inr ⟨j, o2, q4, q5, q6⟩)
    cases e1 : outI k1 with
    | some k1' =>
      rw [e1] at h1
      cases e2 : outI k2 with
      | some k2' =>
        rw [e2] at h2
        have := hm.inj k1' k2' o1 o2 g h1 h2 g1 g2
        subst this
        have q1 := hx.fro _ _ e1
        have q2 := hx.fro _ _ e2
        rw [q1] at q2; injection q2
      | none =>
        rw [e2] at h2
        dsimp only at h2
        cases e3 : rn k2 with
        | some _ => rw [e3] at h2; cases h2
        | none => rw [e3] at h2; exact (sepm k1 k1' o1 o2 e1 h1 g1 k2 e3 h2 g2).elim
    | none =>
      rw [e1] at h1
      dsimp only at h1
      cases e3 : rn k1 with
      | some _ => rw [e3] at h1; cases h1
      | none =>
        rw [e3] at h1
        cases e2 : outI k2 with
        | some k2' => rw [e2] at h2; exact (sepm k2 k2' o2 o1 e2 h2 g2 k1 e3 h1 g1).elim
        | none =>
          rw [e2] at h2
          dsimp only at h2
          cases e4 : rn k2 with
          | some _ => rw [e4] at h2; cases h2
          | none => rw [e4] at h2; exact h.inj k1 k2 o1 o2 g h1 h2 g1 g2
  · have p1 := h.old.pin k o hk
    have p2 := h.old.hi k o hk
    unfold muOut
    cases ho : outI k with
    | some k' =>
      dsimp only
      by_cases hp : pinB ≤ k'
      · rw [pinned k k' ho hp]; exact p1
      · have := (hx.fresh k k' (by omega) (hx.fro k k' ho)).2.2; omega
    | none =>
      dsimp only
      cases e : rn k with
      | some k' =>
        have hp := hr.pin k k' e p2
        have := hx.to k k' (by rw [hx.pin k' hp]; exact hr.to k k' e)
        rw [ho] at this; cases this
      | none => exact p1
end Go.Proofs.YtdmkhinckljddaaGreat
namespace Go.Proofs.YtdmkhinckljddaaGreat
open Go.RowKit

def look2 : List (Nat × Nat) → Nat → Option Nat
  | [], _ => none
  | (a, b) :: l, k => if a == k then some b else look2 l k
def look2i : List (Nat × Nat) → Nat → Option Nat
  | [], _ => none
  | (a, b) :: l, k => if b == k then some a else look2i l k
def dist : List Nat → Bool
  | [] => true
  | a :: l => !(l.contains a) && dist l
theorem look2_mem : ∀ {l : List (Nat × Nat)} {a b : Nat}, look2 l a = some b → (a, b) ∈ l
  | [], a, b, h => by simp [look2] at h
  | (x, y) :: l, a, b, h => by
    rw [look2] at h
    split at h
    · rename_i e; injection h with h; subst h
      have : x = a := by simpa using e
      subst this; simp
    · exact List.mem_cons_of_mem _ (look2_mem h)
theorem look2i_mem : ∀ {l : List (Nat × Nat)} {a b : Nat}, look2i l b = some a → (a, b) ∈ l
  | [], a, b, h => by simp [look2i] at h
  | (x, y) :: l, a, b, h => by
    rw [look2i] at h
    split at h
    · rename_i e; injection h with h; subst h
      have : y = b := by simpa using e
      subst this; simp
    · exact List.mem_cons_of_mem _ (look2i_mem h)
theorem mem_look2 : ∀ {l : List (Nat × Nat)} {a b : Nat}, dist (l.map (·.1)) = true → (a, b) ∈ l → look2 l a = some b
  | [], a, b, _, h => by cases h
  | (x, y) :: l, a, b, hd, h => by
    simp only [List.map_cons, dist, Bool.and_eq_true, Bool.not_eq_true'] at hd
    rw [look2]
    rcases List.mem_cons.1 h with e | h
    · injection e with e1 e2; subst e1 e2; simp
    · have hne : ¬ x = a := by
        rintro rfl
        have : (l.map (·.1)).contains x = true := by
          rw [List.contains_iff_mem]; exact List.mem_map.2 ⟨(x, b), h, rfl⟩
        rw [hd.1] at this; cases this
      rw [if_neg (by simpa using hne)]; exact mem_look2 hd.2 h
theorem mem_look2i : ∀ {l : List (Nat × Nat)} {a b : Nat}, dist (l.map (·.2)) = true → (a, b) ∈ l → look2i l b = some a
  | [], a, b, _, h => by cases h
  | (x, y) :: l, a, b, hd, h => by
    simp only [List.map_cons, dist, Bool.and_eq_true, Bool.not_eq_true'] at hd
    rw [look2i]
    rcases List.mem_cons.1 h with e | h
    · injection e with e1 e2; subst e1 e2; simp
    · have hne : ¬ y = b := by
        rintro rfl
        have : (l.map (·.2)).contains y = true := by
          rw [List.contains_iff_mem]; exact List.mem_map.2 ⟨(a, y), h, rfl⟩
        rw [hd.1] at this; cases this
      rw [if_neg (by simpa using hne)]; exact mem_look2i hd.2 h

def outFn (ren out : List (Nat × Nat)) (k' : Nat) : Option Nat := if Nat.ble pinB k' then look2i ren k' else look2 out k'
def outIn (ren out : List (Nat × Nat)) (k : Nat) : Option Nat := match look2i out k with
  | some k' => some k'
  | none => match look2 ren k with
    | some k' => if Nat.ble pinB k' then some k' else none
    | none => none
/-- Names in order: those that are handed on, those that come back. -/
def renChk (ren out : List (Nat × Nat)) (o : List (Nat × Blk)) : Bool :=
  (look o rk).isNone && ren.all (fun p => !(p.2 == rk)) && dist (ren.map (·.1)) && dist (ren.map (·.2)) && dist (out.map (·.1)) && dist (out.map (·.2)) && ren.all (fun p => (look o p.1).isSome && (Nat.blt p.1 pinB || Nat.ble pinB p.2)) && out.all (fun p => Nat.blt p.1 pinB && Nat.blt p.2 pinB && (look2 ren p.2).isNone)
structure RenChk (ren out : List (Nat × Nat)) (o : List (Nat × Blk)) : Prop where
  rg : look o rk = none
  rr : ∀ p ∈ ren, p.2 ≠ rk
  d1 : dist (ren.map (·.1)) = true
  d2 : dist (ren.map (·.2)) = true
  d3 : dist (out.map (·.1)) = true
  d4 : dist (out.map (·.2)) = true
  r : ∀ p ∈ ren, (∃ b, look o p.1 = some b) ∧ (pinB ≤ p.1 → pinB ≤ p.2)
  u : ∀ p ∈ out, p.1 < pinB ∧ p.2 < pinB ∧ look2 ren p.2 = none
theorem renChk_ok {ren out : List (Nat × Nat)} {o : List (Nat × Blk)} (h : renChk ren out o = true) : RenChk ren out o := by
  unfold renChk at h
  simp only [Bool.and_eq_true, List.all_eq_true] at h
  obtain ⟨⟨⟨⟨⟨⟨⟨g1, g2⟩, h1⟩, h2⟩, h3⟩, h4⟩, h5⟩, h6⟩ := h
  refine ⟨by simpa using g1, fun p hp => by simpa using g2 p hp, h1, h2, h3, h4, fun p hp => ?_, fun p hp => ?_⟩
  · have := h5 p hp
    obtain ⟨a, b⟩ := this
    refine ⟨Option.isSome_iff_exists.1 a, fun hpin => ?_⟩
    rw [Bool.or_eq_true, Nat.blt_eq, Nat.ble_eq] at b
    rcases b with b | b
    · omega
    · exact b
  · have := h6 p hp
    obtain ⟨⟨a, b⟩, c⟩ := this
    rw [Nat.blt_eq] at a b
    exact ⟨a, b, by simpa using c⟩
theorem RenChk.ren {ren out : List (Nat × Nat)} {σ : VS} (h : RenChk ren out σ.o) : RenOK σ (look2 ren) (look2i ren) :=
  ⟨fun k k' e => mem_look2i h.d2 (look2_mem e), fun k k' e => mem_look2 h.d1 (look2i_mem e), fun k k' e => (h.r _ (look2_mem e)).1, fun k k' e => (h.r _ (look2_mem e)).2, h.rg, fun k k' e => h.rr _ (look2_mem e)⟩
theorem RenChk.out {ren out : List (Nat × Nat)} {σ : VS} (h : RenChk ren out σ.o) (hc : ∀ k ∈ out.map (·.2), Clean k σ) : OutOK σ (look2 ren) (look2i ren) (outFn ren out) (outIn ren out) := by
  refine ⟨fun k k' e => ?_, fun k k' e => ?_, fun k' hk => ?_, fun k k' hk e => ?_⟩
  · unfold outFn at e
    split at e
    · rename_i hp
      have h1 := h.ren.fro k k' e
      unfold outIn
      cases ho : look2i out k with
      | some j => have := (h.u _ (look2i_mem ho)).2.2; rw [h1] at this; cases this
      | none => dsimp only; rw [h1]; dsimp only; rw [if_pos hp]
    · unfold outIn; rw [mem_look2i h.d4 (look2_mem e)]
  · unfold outIn at e
    cases ho : look2i out k with
    | some j =>
      rw [ho] at e; injection e with e; subst e
      have hm := look2i_mem ho
      have := (h.u _ hm).1
      unfold outFn
      rw [if_neg (by rw [Nat.ble_eq]; omega)]; exact mem_look2 h.d3 hm
    | none =>
      rw [ho] at e
      dsimp only at e
      cases hr : look2 ren k with
      | none => rw [hr] at e; cases e
      | some j =>
        rw [hr] at e
        dsimp only at e
        split at e
        · rename_i hp; injection e with e; subst e
          unfold outFn; rw [if_pos hp]; exact h.ren.to k j hr
        · cases e
  · unfold outFn; rw [if_pos (by rw [Nat.ble_eq]; exact hk)]
  · unfold outFn at e
    rw [if_neg (by rw [Nat.ble_eq]; omega)] at e
    have hm := look2_mem e
    exact ⟨hc k (List.mem_map.2 ⟨_, hm, rfl⟩), (h.u _ hm).2.2, (h.u _ hm).2.1⟩
/-- The blocks as they are handed on. -/
def inO (rn : Nat → Option Nat) (o : List (Nat × Blk)) : List (Nat × Nat) → List (Nat × Blk)
  | [] => []
  | (k, k') :: l => match look o k with
    | some b => (k', mapBlk (mpo rn) (mpp rn) b) :: inO rn o l
    | none => inO rn o l
theorem look_inO (rn : Nat → Option Nat) (o : List (Nat × Blk)) (k' : Nat) : ∀ {l : List (Nat × Nat)}, (∀ p ∈ l, ∃ b, look o p.1 = some b) → look (inO rn o l) k' = (look2i l k').bind fun k => (look o k).map (mapBlk (mpo rn) (mpp rn))
  | [], _ => rfl
  | (a, b) :: l, h => by
    obtain ⟨bl, hb⟩ := h (a, b) (by simp)
    rw [inO, look2i, hb]
    dsimp only
    rw [look]
    split
    · simp only [Option.bind_some]; rw [hb]; rfl
    · exact look_inO rn o k' fun p hp => h p (by simp [hp])
def dropsA (ren : List (Nat × Nat)) : List (Nat × Option Blk) := ren.map fun p => (p.1, none)
theorem look_drops (k : Nat) : ∀ (ren : List (Nat × Nat)) (o : List (Nat × Blk)), look (actsO (dropsA ren) o) k = match look2 ren k with | some _ => none | none => look o k
  | [], _ => rfl
  | (a, b) :: l, o => by
    show look (actsO (dropsA l) (drop1 a o)) k = _
    rw [look_drops k l, look2]
    by_cases e : a = k
    · subst e
      rw [if_pos (by simp)]
      cases look2 l a with
      | some _ => rfl
      | none => dsimp only; rw [look_drop1, if_pos rfl]
    · rw [if_neg (by simpa using e)]
      cases look2 l k with
      | some _ => rfl
      | none => dsimp only; rw [look_drop1, if_neg e]
def putsA (outF : Nat → Option Nat) (o' : List (Nat × Blk)) : List (Nat × Option Blk) := match o' with
  | [] => []
  | (k', b) :: l => match outF k' with
    | some k => (k, some (mapBlk (mpo outF) (mpp outF) b)) :: putsA outF l
    | none => putsA outF l
theorem look_puts {outF outI : Nat → Option Nat} (hto : ∀ k k', outF k' = some k → outI k = some k') (hfro : ∀ k k', outI k = some k' → outF k' = some k) (k : Nat) : ∀ (o' o : List (Nat × Blk)), dist (o'.map (·.1)) = true →
    look (actsO (putsA outF o') o) k = match outI k with
      | some k' => (match look o' k' with | some b => some (mapBlk (mpo outF) (mpp outF) b) | none => look o k)
      | none => look o k
  | [], o, _ => by cases outI k <;> rfl
  | (j, b) :: l, o, hd => by
    simp only [List.map_cons, dist, Bool.and_eq_true, Bool.not_eq_true'] at hd
    have hnl : look l j = none := by
      cases e : look l j with
      | none => rfl
      | some b2 =>
        exfalso
        have : ∀ (l : List (Nat × Blk)), look l j = some b2 → (l.map (·.1)).contains j = true := by
          intro l
          induction l with
          | nil => intro h; simp [look] at h
          | cons p l ih =>
            obtain ⟨q, c⟩ := p
            intro h
            rw [look] at h
            split at h
            · rename_i e; have : q = j := by simpa using e
              subst this; simp
            · have := ih h; rw [List.map_cons, List.contains_cons, this, Bool.or_true]
        have := this l e; rw [hd.1] at this; cases this
    rw [putsA]
    cases hf : outF j with
    | none =>
      dsimp only
      rw [look_puts hto hfro k l o hd.2]
      cases hi : outI k with
      | none => rfl
      | some k' =>
        have hne : ¬ j = k' := by
          rintro rfl
          have := hfro k j hi; rw [hf] at this; cases this
        dsimp only
        rw [look, if_neg (by simpa using hne)]
    | some kk =>
      dsimp only
      rw [actsO, look_puts hto hfro k l _ hd.2]
      cases hi : outI k with
      | none =>
        dsimp only
        rw [look_put1, if_neg (by rintro rfl; rw [hto kk j hf] at hi; cases hi)]
      | some k' =>
        dsimp only
        rw [look]
        by_cases e : j = k'
        · subst e
          rw [if_pos (by simp), hnl]
          dsimp only
          have := hfro k j hi
          rw [hf] at this; injection this with this; subst this
          rw [look_put1, if_pos rfl]
        · rw [if_neg (by simpa using e)]
          cases look l k' with
          | some _ => rfl
          | none =>
            dsimp only
            rw [look_put1, if_neg (by rintro rfl; have := hto kk j hf; rw [hi] at this; injection this with this; exact e this.symm)]
end Go.Proofs.YtdmkhinckljddaaGreat
namespace Go.Proofs.YtdmkhinckljddaaGreat
open Go.RowKit

mutual
def AV.keys : AV → List Nat
  | .own k => [k]
  | .ptr k _ _ => [k]
  | .mp k => [k]
  | .yl k => [k]
  | .tr _ _ => [rk]
  | .tia _ => [rk]
  | .agg l => AV.keysL l
  | .tup l => AV.keysL l
  | .clo _ l => AV.keysL l
  | .opt _ _ _ a => a.keys
  | .ifc _ a => a.keys
  | .mth _ a => a.keys
  | .bnd _ a => a.keys
  | _ => []
def AV.keysL : List AV → List Nat
  | [] => []
  | a :: l => a.keys ++ AV.keysL l
end
def opKeys (t : List AV) (op : Op) : List Nat := op.operands.toList.flatMap fun x => (evV t x).keys
def envOf (ks : List Nat) (o : List (Nat × Blk)) : Env := fun k => if ks.contains k then look o k else none
theorem envOf_ok (ks : List Nat) (σ : VS) : EnvOK (envOf ks σ.o) σ := fun k b h => by
  unfold envOf at h; split at h
  · exact h
  · cases h

/-- A value as an interface's. -/
def isIfcP (P : Program) (t : TypeId) : Bool := match P.underlying t with
  | some (.interface _) => true
  | some _ => false
  | none => true
def vIfc (P : Program) (t : TypeId) (x : Operand) (ρ : Operand → AV) (π : List PI) : Option (Eff × List PI) := match isIfcP P t with
  | false => some ({ v := .ifc t (ρ x) }, π)
  | true => none
theorem vIfc_ok {P : Program} {o : Oper} {t : TypeId} {x : Operand} {σ : VS} {π π' : List PI} {E : Eff} (ho : o.op = .makeInterface t x) (h : vIfc P t x (evV σ.t) π = some (E, π')) : OpS P o σ E := by
  unfold vIfc at h
  split at h
  · rename_i hi
    injection h with h; injection h with h1 h2; subst h1
    refine opS_val fun S w0 μ ac w hst => ⟨.iface t (ac.eval x), ?_, .ifc (hst.eval x)⟩
    unfold isIfcP at hi
    split at hi
    · cases hi
    · rename_i d hne hd
      have : (Instr.makeInterface t (ac.eval x)).run P w = .ok (.iface t (ac.eval x)) w := by
        unfold Instr.makeInterface
        rw [Sem.run_bind, run_underlying hd, Result.andThen_ok]
        split
        · rename_i q; exact (hne _ rfl).elim
        · rfl
      simp [execOp, ho, this]
    · cases hi
  · cases h
def vop (P : Program) (o : Oper) (ρ : Operand → AV) (env : Env) (π : List PI) : Option (Eff × List PI) := match o.op with
  | .move x => vMove x ρ π
  | .assign x => vMove x ρ π
  | .pick c x y => vPick c x y ρ π
  | .alloc t => vAlloc P t o.dst π
  | .box t x => vBox P t x o.dst ρ env π
  | .build t ps => vBuild P t ps ρ env π
  | .buildSlice t n ps => vBuildSlice P t n ps o.dst ρ env π
  | .load t x => match isArrP P t with
    | true => vLoadA P t x ρ env π
    | false => vLoad P t x ρ env π
  | .store t x y => match isArrP P t with
    | true => vStoreA P t x y ρ env π
    | false => vStore P t x y ρ env π
  | .nilCheck x => vNil P x ρ env π
  | .binOp op t x y _ => match ρ x with
    | .ptr k _ _ => vPtrNil P op t k (ρ y) env π
    | _ => vBin P o op t x y ρ π
  | .unOp op _ x => vUn P o op x ρ π
  | .convert s d x => match s == d, ρ x with
    | true, .own k => vConvC P s k env π
    | _, _ => match rowsOf env (ρ x) with
      | some (z, rows) => vConvB P s d rows z π
      | none => vConv P o s d x ρ π
  | .makeSlice t l c => vMake P t l c o.dst ρ π
  | .slice t x lo hi mx => match ρ x with
    | .own k => vSliceO P t k lo hi mx o.dst ρ env π
    | .lit _ => vPure P o ρ π
    | _ => vSlice P t x lo hi mx ρ π
  | .fieldAddr s x f => vFieldAddr P s x f ρ env π
  | .field s x f => vField P s x f ρ π
  | .indexAddr t x i => vIndexAddr P t x i ρ env π
  | .index _ _ _ => vTold P o ρ π
  | .extract x i => vExtract x i ρ π
  | .makeFunc fn first caps => vFunc fn first caps ρ π
  | .makeInterface t x => vIfc P t x ρ π
  | .makeMap _ r => vMakeMap r o.dst π
  | .lookup t x ix ok => vLookup P t x ix ok ρ env π
  | .mapUpdate t m k x => vMapUpdate P t m k x ρ env π
  | .insert t m k x => vMapUpdate P t m k x ρ env π
  | .call ⟨.value fo, args, _⟩ => vCall P fo args ρ env π
  | .call ⟨.invoke r n, args, _⟩ => vInv P r n args ρ env π
  | .call ⟨.builtin .append, ⟨[s, x]⟩, ⟨[t, t']⟩⟩ => match isIntT P t' with
    | true => vAppendZ P s x t t' o.dst ρ π
    | false => vAppend P s x t t' o.dst ρ env π
  | .call ⟨.builtin .len, ⟨[x]⟩, ⟨[t]⟩⟩ => vLen P o x t ρ env π
  | .call ⟨.builtin .min, _, _⟩ => vPure P o ρ π
  | .call ⟨.builtin .max, _, _⟩ => vPure P o ρ π
  | .call ⟨.builtin .cap, _, _⟩ => vPure P o ρ π
  | _ => none
theorem vop_ok {P : Program} {o : Oper} {σ : VS} {env : Env} {π π' : List PI} {E : Eff} (he : EnvOK env σ) (h : vop P o (evV σ.t) env π = some (E, π')) (hob : All E.ob) : OpS P o σ E := by
  unfold vop at h
  split at h
  · rename_i x ho; exact vMove_ok (.inl ho) h hob
  · rename_i x ho; exact vMove_ok (.inr ho) h hob
  · rename_i ho; exact vPick_ok ho h hob
  · rename_i ho; exact vAlloc_ok ho h
  · rename_i ho; exact vBox_ok ho he h
  · rename_i ho; exact vBuild_ok ho he h
  · rename_i ho; exact vBuildSlice_ok ho he h
  · rename_i ho
    split at h
    · exact vLoadA_ok ho he h
    · exact vLoad_ok ho he h hob
  · rename_i ho
    split at h
    · exact vStoreA_ok ho he h
    · exact vStore_ok ho he h hob
  · rename_i ho; exact vNil_ok ho he h hob
  · rename_i ho
    split at h
    · rename_i hx; exact vPtrNil_ok ho he hx h
    · exact vBin_ok ho h hob
  · rename_i ho; exact vUn_ok ho h hob
  · rename_i ho
    split at h
    · rename_i hsd hx
      have hsd := eq_of_beq hsd
      rw [← hsd] at ho
      exact vConvC_ok ho he hx h
    · split at h
      · rename_i hx; exact vConvB_ok ho he hx h hob
      · exact vConv_ok ho h hob
  · rename_i ho; exact vMake_ok ho h hob
  · rename_i ho
    split at h
    · rename_i hx; exact vSliceO_ok ho he hx h hob
    · exact vPure_ok h
    · exact vSlice_ok ho h hob
  · rename_i ho; exact vFieldAddr_ok ho he h
  · rename_i ho; exact vField_ok ho h
  · rename_i ho; exact vIndexAddr_ok ho he h hob
  · exact vTold_ok h hob
  · rename_i ho; exact vExtract_ok ho h
  · rename_i ho; exact vFunc_ok ho h
  · rename_i ho; exact vIfc_ok ho h
  · rename_i ho; exact vMakeMap_ok ho h
  · rename_i ho; exact vLookup_ok ho he h hob
  · rename_i ho; exact vMapUpdate_ok (.inl ho) he h hob
  · rename_i ho; exact vMapUpdate_ok (.inr ho) he h hob
  · rename_i ho; exact vCall_ok ho he h hob
  · rename_i ho; exact vInv_ok ho he h hob
  · rename_i ho
    split at h
    · exact vAppendZ_ok ho h hob
    · exact vAppend_ok ho he h hob
  · rename_i ho; exact vLen_ok ho he h
  · exact vPure_ok h
  · exact vPure_ok h
  · exact vPure_ok h
  · cases h

/-- One operation of a region, its guard looked at first. -/
def guardV (ops : Array Oper) (o : Oper) (t : List AV) : Option (Option (Tmp × Bool)) := match o.guard with
  | none => some none
  | some (j, want) => match ops[j]? with
    | some oj => match oj.dst with
      | some d => some (some (d, want))
      | none => none
    | none => none
def vstep (P : Program) (ops : Array Oper) (o : Oper) (σ : VS) (π : List PI) : Option (Eff × List PI) := match guardV ops o σ.t with
  | some none => vop P o (evV σ.t) (envOf (opKeys σ.t o.op) σ.o) π
  | some (some (d, want)) => match σ.t.getD d .any, π with
    | .lit (.bool b), .br true :: π' => match vop P o (evV σ.t) (envOf (opKeys σ.t o.op) σ.o) π' with
      | some (E, π2) => some ({ E with ob := (b = want) :: E.ob }, π2)
      | none => none
    | .lit (.bool b), .br false :: π' => some ({ ob := [b = !want], v := .tup [] }, π')
    | .tup [], .br false :: π' => some ({ ob := [], v := .tup [] }, π')
    | _, _ => none
  | none => none
/-- The effect is right at the operation with its guard. -/
def StepS (P : Program) (ops : Array Oper) (o : Oper) (σ : VS) (E : Eff) : Prop :=
  ∀ S w0 μ a w, StM S w0 μ σ a w → (E.new.isSome = true → ∃ d, o.dst = some d ∧ Clean d σ) → (∀ k ∈ E.fresh, Clean k σ) → ∀ K Q, (∀ a' w', St S w0 (app o.dst E σ) a' w' → K a' w') →
    if Region.wanted o (yielded ops a.tmps) then o.wp P a w K Q else K (a.put o.dst undef) w
theorem yielded_lit {S : Ex} {w0 : Base} {w : World} {μ : Nat → Option OI} {σ : VS} {a : Act} (h : StM S w0 μ σ a w) {ops : Array Oper} {j d : Nat} {oj : Oper} {b : Bool} (hj : ops[j]? = some oj) (hd : oj.dst = some d) (hb : σ.t.getD d .any = .lit (.bool b)) :
    yielded ops a.tmps j = some b := by
  have hr := h.eval (.tmp d)
  rw [show evV σ.t (.tmp d) = σ.t.getD d .any from rfl, hb] at hr
  have := rel_lit hr
  have hlt : d < σ.t.length := by
    by_cases hlt : d < σ.t.length
    · exact hlt
    · rw [List.getD_eq_getElem?_getD, List.getElem?_eq_none (Nat.le_of_not_lt hlt)] at hb; cases hb
  have hlt' : d < a.tmps.size := by rw [h.size]; exact hlt
  simp only [yielded, hj, Option.bind_some, hd]
  simp only [Act.eval, Array.getD_eq_getD_getElem?] at this
  rw [Array.getElem?_eq_getElem hlt'] at this ⊢
  simp only [Option.getD_some] at this
  rw [this]
theorem rel_tupv {μ : Nat → Option OI} {X : Ex} {w : World} {l : List AV} {v : Value} (h : Rel μ X w (.tup l) v) : ∃ vs, v = .tuple vs := by
  cases h with
  | pure hp => cases hp
  | tup _ _ => exact ⟨_, rfl⟩
theorem yielded_tup {S : Ex} {w0 : Base} {w : World} {μ : Nat → Option OI} {σ : VS} {a : Act} (h : StM S w0 μ σ a w) {ops : Array Oper} {j d : Nat} {oj : Oper} (hj : ops[j]? = some oj) (hd : oj.dst = some d) (hb : σ.t.getD d .any = .tup []) :
    yielded ops a.tmps j = none := by
  have hr := h.eval (.tmp d)
  rw [show evV σ.t (.tmp d) = σ.t.getD d .any from rfl, hb] at hr
  have ht : ∃ vs, a.eval (.tmp d) = .tuple vs := by
    exact rel_tupv hr
  obtain ⟨vs, ht⟩ := ht
  simp only [yielded, hj, Option.bind_some, hd]
  simp only [Act.eval, Array.getD_eq_getD_getElem?] at ht
  cases he : a.tmps[d]? with
  | none => rfl
  | some x => rw [he] at ht; simp only [Option.getD_some] at ht; rw [ht]
theorem vstep_ok {P : Program} {ops : Array Oper} {o : Oper} {σ : VS} {π π' : List PI} {E : Eff} (h : vstep P ops o σ π = some (E, π')) (hob : All E.ob) : StepS P ops o σ E := by
  unfold vstep at h
  split at h
  · rename_i hg
    have hgn : o.guard = none := by
      unfold guardV at hg; split at hg
      · assumption
      · split at hg
        · split at hg
          · injection hg with hg; cases hg
          · cases hg
        · cases hg
    intro S w0 μ a w hst hcl _ K Q hK
    rw [if_pos (by simp [Region.wanted, hgn])]
    exact vop_ok (envOf_ok _ _) h hob S w0 μ a w hst hcl K Q hK
  · rename_i d want hg
    obtain ⟨j, oj, hgd, hj, hd⟩ : ∃ j oj, o.guard = some (j, want) ∧ ops[j]? = some oj ∧ oj.dst = some d := by
      unfold guardV at hg; split at hg
      · injection hg with hg; cases hg
      · rename_i j want' hgd
        split at hg
        · rename_i oj hj
          split at hg
          · rename_i d' hd
            injection hg with hg; injection hg with hg; injection hg with h1 h2; subst h1 h2
            exact ⟨j, oj, hgd, hj, hd⟩
          · cases hg
        · cases hg
    split at h
    · rename_i b π2 hb
      split at h
      · rename_i E2 π3 hv
        injection h with h; injection h with h1 h2; subst h1
        obtain ⟨hbw, hob2⟩ := hob
        intro S w0 μ a w hst hcl _ K Q hK
        have hy := yielded_lit hst hj hd hb
        rw [if_pos (by simp [Region.wanted, hgd, hy, hbw])]
        exact vop_ok (envOf_ok _ _) hv hob2 S w0 μ a w hst hcl K Q hK
      · cases h
    · rename_i b π2 hb
      injection h with h; injection h with h1 h2; subst h1
      obtain ⟨hbw, _⟩ := hob
      intro S w0 μ a w hst hcl _ K Q hK
      have hy := yielded_lit hst hj hd hb
      rw [if_neg (by cases want <;> simp_all [Region.wanted])]
      exact hK _ _ ⟨μ, hst.put o.dst (.tup rfl (by simp))⟩
    · rename_i π2 hb
      injection h with h; injection h with h1 h2; subst h1
      intro S w0 μ a w hst hcl _ K Q hK
      have hy := yielded_tup hst hj hd hb
      rw [if_neg (by cases want <;> simp_all [Region.wanted])]
      exact hK _ _ ⟨μ, hst.put o.dst (.tup rfl (by simp))⟩
    · cases h
  · cases h
end Go.Proofs.YtdmkhinckljddaaGreat
namespace Go.Proofs.YtdmkhinckljddaaGreat
open Go.RowKit

/-! ### A region: slices whose numbers turn -/
/-- What is read out of a region. -/
def trP : AV → Option AV
  | .lit (.int k _) => some (.uint k)
  | .fs z rows => some (.tr z rows)
  | _ => none
def vRg (P : Program) (o : Oper) (r : List AV) (ρ : Operand → AV) (env : Env) (π : List PI) : Option (Eff × List PI) := match o.op with
  | .binOp .xor _ x y _ => match ρ x, ρ y with
    | .uint k, .lit (.int k' _) => if k == k' then some ({ v := .uint k }, π) else none
    | _, _ => none
  | .indexAddr t x ix => match ρ x, ρ ix with
    | .tr z rows, .lit (.int _ n) => match elemOfSl P t, env rk with
      | some (_, m), some (.reg _) => if m == z then some ({ ob := [0 ≤ n, rows[n.toNat]? = some r], v := .tia r }, π) else none
      | _, _ => none
    | _, _ => none
  | .fieldAddr s x f => match fieldOf P s f, ρ x, env rk with
    | some (off, _, _ + 1), .tia row, some (.reg _) => some ({ v := .tia (row.drop off) }, π)
    | _, _, _ => none
  | .load t x => match aggP P t, ρ x, env rk with
    | some false, .tia (c :: _), some (.reg _) => match trP c with
      | some c' => some ({ v := c' }, π)
      | none => none
    | _, _, _ => none
  | .store t x y => match szP P t, ρ x, ρ y, env rk with
    | some 1, .tia (.lit (.int k _) :: _), .uint k', some (.reg _) => if k == k' then some ({ v := .any, upd := some (rk, .reg true) }, π) else none
    | _, _, _, _ => none
  | .call ⟨.builtin .len, ⟨[x]⟩, ⟨[t]⟩⟩ => match ρ x, P.underlying t, env rk with
    | .tr _ rows, some (.slice _), some (.reg _) => some ({ v := .lit (.int .i64 rows.length) }, π)
    | _, _, _ => none
  | _ => none

theorem rgOf {S : Ex} {w0 : Base} {w : World} {μ : Nat → Option OI} {σ : VS} {a : Act} {env : Env} (h : StM S w0 μ σ a w) (he : EnvOK env σ) {m : Bool} (hm : env rk = some (.reg m)) :
    ∃ o lo W, μ rk = some o ∧ o.r = some (lo, W) ∧ W.heap.size ≤ w.heap.size ∧ ∀ b, lo ≤ b → b < W.heap.size → w0.mine b ∧ LikeO (W.heap[b]?) (w.heap[b]?) := by
  obtain ⟨o, ho, lo, W, hr, _, hsz, hh⟩ := h.blks rk _ (he _ _ hm)
  exact ⟨o, lo, W, ho, hr, hsz, fun b h1 h2 => ⟨(hh b h1 h2).1, (hh b h1 h2).2.2⟩⟩
/-- What an address into a region is. -/
theorem tiaOf {S : Ex} {w0 : Base} {w : World} {μ : Nat → Option OI} {σ : VS} {a : Act} {env : Env} (h : StM S w0 μ σ a w) (he : EnvOK env σ) {m : Bool} (hm : env rk = some (.reg m)) {row : List AV} {v : Value} (hr : Rel μ (XOf S μ) w (.tia row) v) :
    ∃ (o : OI) (lo : Nat) (W : World) (b off : Nat) (cv : Nat → Value), μ rk = some o ∧ o.r = some (lo, W) ∧ v = .pointer (some ⟨b, off, none⟩) ∧ ((lo ≤ b ∧ b < W.heap.size) ∧ ∃ cs T, W.heap[b]? = some (.cells cs T (0, 0))) ∧ (∀ (j : Nat) (c : AV), row[j]? = some c → W.cell? ⟨b, off + j, none⟩ = some (cv j)) ∧ ∀ (j : Nat) (c : AV), row[j]? = some c → PRel (outE lo) W c (cv j) := by
  obtain ⟨o, lo, W, ho, hor, _⟩ := rgOf h he hm
  cases hr with
  | pure hp => cases hp
  | deadI _ hd => rw [ho] at hd; cases hd
  | tia cv h1 h2 h3 h4 h5 => exact ⟨_, _, _, _, _, cv, h1, h2, rfl, h3, h4, h5⟩
theorem trOf {S : Ex} {w0 : Base} {w : World} {μ : Nat → Option OI} {σ : VS} {a : Act} {env : Env} (h : StM S w0 μ σ a w) (he : EnvOK env σ) {m : Bool} (hm : env rk = some (.reg m)) {z : Nat} {rows : List (List AV)} {v : Value} (hr : Rel μ (XOf S μ) w (.tr z rows) v) :
    ∃ o lo W, μ rk = some o ∧ o.r = some (lo, W) ∧ PRel (outE lo) W (.fs z rows) v := by
  obtain ⟨o, lo, W, ho, hor, _⟩ := rgOf h he hm
  cases hr with
  | pure hp => cases hp
  | deadT _ hd => rw [ho] at hd; cases hd
  | tr h1 h2 h3 => exact ⟨_, _, _, h1, h2, h3⟩
theorem LikeO.cells {a b : Option Obj} (h : LikeO a b) {cs : Array Value} {T : TypeId} {q : Nat × Nat} (ha : a = some (.cells cs T q)) : ∃ cs', b = some (.cells cs' T q) ∧ cs'.size = cs.size ∧ ∀ (j : Nat) (v v' : Value), cs[j]? = some v → cs'[j]? = some v' → v' = v ∨ ∃ k n n', v = .int k n ∧ v' = .int k n' := by
  rcases h with h | ⟨c1, c2, T2, q2, h1, h2, h3, h4⟩
  · exact ⟨cs, h.trans ha, rfl, fun j v v' e1 e2 => .inl (by rw [e1] at e2; injection e2 with e2; exact e2.symm)⟩
  · rw [ha] at h1; injection h1 with h1; injection h1 with e1 e2 e3; subst e1 e2 e3
    exact ⟨c2, h2, h3, h4⟩
theorem vRg_ok {P : Program} {o : Oper} {r : List AV} {σ : VS} {env : Env} {π π' : List PI} {E : Eff} (he : EnvOK env σ) (h : vRg P o r (evV σ.t) env π = some (E, π')) (hob : All E.ob) : OpS P o σ E := by
  unfold vRg at h
  split at h
  · rename_i t x y u ho
    split at h
    · rename_i k k' n hx hy
      split at h
      · rename_i hk
        have hk := eq_of_beq hk; subst hk
        injection h with h; injection h with h1 h2; subst h1
        refine opS_val fun S w0 μ ac w hst => ?_
        have ex := hst.eval x; rw [hx] at ex
        have ey := hst.eval y; rw [hy] at ey; have ey := rel_lit ey
        generalize hu : ac.eval x = v at ex
        cases ex with
        | pure hp => cases hp
        | uint m =>
          refine ⟨.int k (k.wrap ((BitVec.ofInt k.bits m) ^^^ (BitVec.ofInt k.bits n)).toNat), ?_, .uint _⟩
          have hg : (eqGuard .xor t x y (.int k m) (.int k n)).run P w = .ok () w := rfl
          simp only [execOp, ho, hu, ey, Sem.run_bind, hg, Result.andThen_ok]
          simp [binOp, Op.intBits]
      · cases h
    · cases h
  · rename_i t x ix ho
    split at h
    · rename_i z rows kk n hx hix
      split at h
      · rename_i e m b hel hk
        split at h
        · rename_i hmz
          have hmz := eq_of_beq hmz; subst hmz
          injection h with h; injection h with h1 h2; subst h1
          obtain ⟨h0, hr, _⟩ := hob
          obtain ⟨hu, hsz⟩ := elemOfSl_ok hel
          refine opS_val fun S w0 μ ac w hst => ?_
          have ei := hst.eval ix; rw [hix] at ei; have ei := rel_lit ei
          have ex := hst.eval x; rw [hx] at ex
          obtain ⟨oi, lo, W, ho1, ho2, hp⟩ := trOf hst he hk ex
          generalize hu' : ac.eval x = u at hp
          cases hp with
          | fs hp hF => cases hp with
            | nil => simp at hr
            | @sl _ _ b off cap cv hX hb hc hm hz h1 h2 h3 =>
              have hlt : n.toNat < rows.length := (List.getElem?_eq_some_iff.1 hr).1
              have hne := ne_of_get hr
              refine ⟨.pointer (some ⟨b, off + n.toNat * m, none⟩), ?_, .tia (cv n.toNat) ho1 ho2 ⟨⟨Nat.le_of_not_lt (hX hne), hb hne⟩, (hF hne _ _ _ rfl).2⟩ (fun j c hj => h1 _ _ _ _ hr hj) (fun j c hj => h2 _ _ _ _ hr hj)⟩
              have hin : 0 ≤ n ∧ n < (rows.length : Int) := ⟨h0, by omega⟩
              simp only [execOp, ho, hu', ei, Instr.indexAt, asIntOf, Sem.run_bind, Sem.run_pure, Result.andThen_ok, run_underlying hu, run_sizeOf hsz, if_pos hin, add_zero_none]
        · cases h
      · cases h
    · cases h
  · rename_i s x f ho
    split at h
    · rename_i off t n row b hf hx hk
      injection h with h; injection h with h1 h2; subst h1
      obtain ⟨fields, fd, hu, hfd, rfl, rfl, hsz⟩ := fieldOf_ok hf
      have hrun : ∀ b q (w : World), (Instr.fieldAt s (.pointer (some ⟨b, q, none⟩)) f).run P w = .ok (.pointer (some ⟨b, q + fd.offset, none⟩)) w := by
        intro b q w
        simp only [Instr.fieldAt, Sem.run_bind, run_underlying hu, Result.andThen_ok, hfd, Instr.sureAddr, Sem.run_pure, fieldPlace, run_sizeOf hsz, Nat.succ_ne_zero, if_false, add_zero_none]
      refine opS_val fun S w0 μ ac w hst => ?_
      have ex := hst.eval x; rw [hx] at ex
      obtain ⟨oi, lo, W, b, q, cv, ho1, ho2, hv, h3, h4, h5⟩ := tiaOf hst he hk ex
      refine ⟨.pointer (some ⟨b, q + fd.offset, none⟩), ?_, .tia (fun j => cv (fd.offset + j)) ho1 ho2 h3 (fun j c hj => ?_) (fun j c hj => ?_)⟩
      · simp only [execOp, ho, hv, Sem.run_bind, hrun, Result.andThen_ok, Sem.run_pure]
      · rw [Nat.add_assoc]; exact h4 _ _ (by rw [List.getElem?_drop] at hj; exact hj)
      · exact h5 _ _ (by rw [List.getElem?_drop] at hj; exact hj)
    · cases h
  · rename_i t x ho
    split at h
    · rename_i c rest b ha hx hk
      split at h
      · rename_i c' hc'
        injection h with h; injection h with h1 h2; subst h1
        refine opS_val fun S w0 μ ac w hst => ?_
        have ex := hst.eval x; rw [hx] at ex
        obtain ⟨oi, lo, W, b, q, cv, ho1, ho2, hv, ⟨⟨h3, h3'⟩, cs, T, h3c⟩, h4, h5⟩ := tiaOf hst he hk ex
        obtain ⟨o', lo', W', ho1', ho2', hsz, hh⟩ := rgOf hst he hk
        rw [ho1] at ho1'; injection ho1' with ho1'; subst ho1'
        rw [ho2] at ho2'; injection ho2' with ho2'; injection ho2' with e1 e2; subst e1 e2
        obtain ⟨cs', hb, hcs, hlike⟩ := (hh b h3 h3').2.cells h3c
        have h6 := h4 0 c rfl
        have h7 := h5 0 c rfl
        rw [Nat.add_zero] at h6
        have h6' : cs[q]? = some (cv 0) := by simpa [World.cell?, h3c] using h6
        have hq : q < cs'.size := by rw [hcs]; exact (Array.getElem?_eq_some_iff.1 h6').1
        have h8 : cs'[q]? = some cs'[q] := Array.getElem?_eq_getElem hq
        have h9 := hlike q _ _ h6' h8
        have h10 : w.cell? ⟨b, q, none⟩ = some cs'[q] := by simp [World.cell?, hb, h8]
        refine ⟨cs'[q], ?_, ?_⟩
        · simp only [execOp, ho, hv, Instr.loadAt, Instr.sureAddr, Sem.run_bind, Sem.run_pure, Result.andThen_ok, loadVar, run_isAgg ha, Bool.false_eq_true, if_false]
          simp [load, Sem.run, h10]
        · generalize hz : cs'[q] = v' at h9
          generalize cv 0 = v0 at h7 h9
          unfold trP at hc'
          split at hc'
          · injection hc' with hc'; subst hc'
            cases h7
            rcases h9 with rfl | ⟨k, n, n', e1, rfl⟩
            · exact .uint _
            · injection e1 with e1 e2; subst e1; exact .uint _
          · injection hc' with hc'; subst hc'
            rcases h9 with rfl | ⟨k, n, n', rfl, rfl⟩
            · exact .tr ho1 ho2 h7
            · cases h7 with
              | fs h => cases h
          · cases hc'
      · cases h
    · cases h
  · rename_i t x y ho
    split at h
    · rename_i k n rest k' b hs hx hy hk
      split at h
      · rename_i hkk
        have hkk := eq_of_beq hkk; subst hkk
        injection h with h; injection h with h1 h2; subst h1
        intro S w0 μ ac w hst _ K Q hK
        have ex := hst.eval x; rw [hx] at ex
        have ey := hst.eval y; rw [hy] at ey
        obtain ⟨oi, lo, W, b, q, cv, ho1, ho2, hv, ⟨⟨h3, h3'⟩, cs, T, h3c⟩, h4, h5⟩ := tiaOf hst he hk ex
        obtain ⟨o', ho1', lo', W', ho2', hg0, hsz, hh⟩ := hst.blks rk _ (he _ _ hk)
        rw [ho1] at ho1'; injection ho1' with ho1'; subst ho1'
        rw [ho2] at ho2'; injection ho2' with ho2'; injection ho2' with e1 e2; subst e1 e2
        obtain ⟨hmine, _, hlk⟩ := hh b h3 h3'
        obtain ⟨cs', hb, hcs, hlike⟩ := hlk.cells h3c
        have h6 := h4 0 _ rfl
        have h7 := h5 0 _ rfl
        rw [Nat.add_zero] at h6
        have h6' : cs[q]? = some (cv 0) := by simpa [World.cell?, h3c] using h6
        have hq : q < cs'.size := by rw [hcs]; exact (Array.getElem?_eq_some_iff.1 h6').1
        generalize hyv : ac.eval y = yv at ey
        have hyi : ∃ m, yv = .int k m := by
          cases ey with
          | pure hp => cases hp
          | uint m => exact ⟨m, rfl⟩
        obtain ⟨m, rfl⟩ := hyi
        have hr := run_storeAt (P := P) (t := t) (off := q) (v := .int k m) hb (by rw [hs]; rfl) (by show q + 1 ≤ _; omega) (fun u hu => by simp [Value.cells] at hu; subst hu; rfl)
        unfold Oper.wp
        simp only [execOp, ho, hv, hyv, Sem.run_bind, hr, Result.andThen_ok]
        refine hK _ _ ⟨μ, ?_⟩
        have hhas : oi.has b := .inr ⟨lo, W, ho2, h3, h3'⟩
        generalize hcs2 : (cs'.toList.take q ++ (Value.int k m).cells.toList ++ cs'.toList.drop (q + (Value.int k m).cells.size)).toArray = cs2
        have hget : ∀ j, cs2[j]? = if q ≤ j ∧ j < q + 1 then [Value.int k m][j - q]? else cs'[j]? := by
          intro j; rw [← hcs2]; exact seg_get (vs := [Value.int k m]) (by show q + 1 ≤ _; omega) j
        have hsz2 : cs2.size = cs'.size := by
          rw [← hcs2]; simp [Value.cells]; omega
        have hput := StM.writeR (w' := w.setRow b cs2) hst rk oi b ho1 hhas (.reg true) (fun _ => ⟨rfl, true, rfl⟩) (setRow_size _ _ _) (fun b' hb' => setRow_other w b b' cs2 hb') (hst.below.setRow hmine cs2) (fun _ => by
          refine ⟨lo, W, ho2, hg0, by rw [setRow_size]; exact hsz, fun b' hb1 hb2 => ⟨(hh b' hb1 hb2).1, ⟨(by intro e; cases e), ?_⟩⟩⟩
          by_cases hbb : b' = b
          · subst hbb
            rw [setRow_heap w b' cs' cs2 T (0, 0) hb]
            refine .inr ⟨cs, cs2, T, (0, 0), h3c, rfl, by omega, fun j v v' e1 e2 => ?_⟩
            rw [hget] at e2
            split at e2
            · rename_i hj
              have : j = q := by omega
              subst this
              rw [h6'] at e1; injection e1 with e1; subst e1
              simp at e2; subst e2
              exact .inr ⟨k, n, m, by generalize cv 0 = v0 at h7; cases h7; rfl, rfl⟩
            · exact hlike j v v' e1 e2
          · rw [setRow_other w b b' cs2 hbb]; exact (hh b' hb1 hb2).2.2)
        exact hput.put o.dst (.any _)
      · cases h
    · cases h
  · rename_i x t ho
    split at h
    · rename_i z rows e b hx hu hk
      injection h with h; injection h with h1 h2; subst h1
      refine opS_val fun S w0 μ ac w hst => ?_
      have ex := hst.eval x; rw [hx] at ex
      obtain ⟨oi, lo, W, ho1, ho2, hp⟩ := trOf hst he hk ex
      generalize hu' : ac.eval x = u at hp
      refine ⟨.int .i64 rows.length, ?_, .pure (.lit _)⟩
      have : ∃ a c, u = .slice a rows.length c := by
        cases hp with
        | fs hp hF => cases hp with
          | nil => exact ⟨_, _, rfl⟩
          | sl => exact ⟨_, _, rfl⟩
      obtain ⟨a, c, rfl⟩ := this
      simp [execOp, ho, resolve, invoke, builtin, hu', Builtin.len_, run_underlying hu, goInt]
    · cases h
  · cases h
end Go.Proofs.YtdmkhinckljddaaGreat
namespace Go.Proofs.YtdmkhinckljddaaGreat
open Go.RowKit

/-! ### Calls that give what nobody else holds -/
/-- Read as fresh, the value lies in fresh blocks alone. -/
def FsP (a : AV) : Prop := ∀ (n : Nat) (w : World) (v : Value), PRel ⟨fun _ => False, fun b => b < n⟩ w a v → PRel ⟨fun b => b < n, fun b => b < n⟩ w a v
def FsR (a : AV) : Prop := ∀ (n : Nat) (w : World) (v : Value), Rel (fun _ => none) ⟨fun _ => False, fun b => b < n⟩ w a v → Rel (fun _ => none) ⟨fun b => b < n, fun b => b < n⟩ w a v
theorem FsP.lit (x : Value) : FsP (.lit x) := fun n w v h => by cases h; exact .lit _
theorem FsP.fs {z : Nat} {rows : List (List AV)} (h : ∀ r ∈ rows, ∀ c ∈ r, FsP c) : FsP (.fs z rows) := fun n w v hp => by
  cases hp with
  | fs hp hF =>
    refine .fs ?_ hF
    cases hp with
    | nil _ hm h0 => exact .nil _ hm h0
    | sl cv hX hb hc hm hz h1 h2 h3 =>
      exact .sl cv (fun hne => (hF hne _ _ _ rfl).1) hb hc hm hz h1 (fun i r j c hi hj => h r (List.mem_of_getElem? hi) c (List.mem_of_getElem? hj) _ _ _ (h2 i r j c hi hj)) h3
theorem FsR.lit (x : Value) : FsR (.lit x) := fun n w v h => .pure (by rw [rel_lit h]; exact .lit _)
theorem FsR.fs {z : Nat} {rows : List (List AV)} (h : ∀ r ∈ rows, ∀ c ∈ r, FsP c) : FsR (.fs z rows) := fun n w v hp => by
  cases hp with
  | pure hp => exact .pure (FsP.fs h n w v hp)
theorem FsR.agg {l : List AV} (h : ∀ c ∈ l, FsR c) : FsR (.agg l) := fun n w v hp => by
  cases hp with
  | pure hp => cases hp
  | agg hl hh => exact .agg hl fun i c v hc hv => h c (List.mem_of_getElem? hc) n w v (hh i c v hc hv)
/-- The value says nothing of freshness. -/
def NoF (a : AV) : Prop := ∀ (F : Nat → Prop) (w : World) (v : Value), Rel (fun _ => none) E0 w a v → Rel (fun _ => none) ⟨fun _ => False, F⟩ w a v
def NoP (a : AV) : Prop := ∀ (F : Nat → Prop) (w : World) (v : Value), PRel E0 w a v → PRel ⟨fun _ => False, F⟩ w a v
theorem NoP.lit (x : Value) : NoP (.lit x) := fun F w v h => by cases h; exact .lit _
theorem NoP.sl {z : Nat} {rows : List (List AV)} (h : ∀ r ∈ rows, ∀ c ∈ r, NoP c) : NoP (.sl z rows) := fun F w v hp => by
  cases hp with
  | nil _ hm h0 => exact .nil _ hm h0
  | sl cv hX hb hc hm hz h1 h2 h3 => exact .sl cv hX hb hc hm hz h1 (fun i r j c hi hj => h r (List.mem_of_getElem? hi) c (List.mem_of_getElem? hj) _ _ _ (h2 i r j c hi hj)) h3
theorem NoF.lit (x : Value) : NoF (.lit x) := fun F w v h => .pure (by rw [rel_lit h]; exact .lit _)
theorem NoF.sl {z : Nat} {rows : List (List AV)} (h : ∀ r ∈ rows, ∀ c ∈ r, NoP c) : NoF (.sl z rows) := fun F w v hp => by
  cases hp with
  | pure hp => exact .pure (NoP.sl h F w v hp)
theorem NoF.agg {l : List AV} (h : ∀ c ∈ l, NoF c) : NoF (.agg l) := fun F w v hp => by
  cases hp with
  | pure hp => cases hp
  | agg hl hh => exact .agg hl fun i c v hc hv => h c (List.mem_of_getElem? hc) F w v (hh i c v hc hv)
def NoL (l : List AV) : Prop := ∀ c ∈ l, NoF c
mutual
/-- What is fresh, laid into a region. -/
def AV.toTr : AV → AV
  | .lit v => .lit v
  | .fs z rows => .tr z rows
  | .agg l => .agg (AV.toTrL l)
  | .tup l => .tup (AV.toTrL l)
  | _ => .any
def AV.toTrL : List AV → List AV
  | [] => []
  | a :: l => a.toTr :: AV.toTrL l
end
theorem AV.toTrL_eq : ∀ l, AV.toTrL l = l.map AV.toTr
  | [] => rfl
  | a :: l => by rw [AV.toTrL, AV.toTrL_eq l]; rfl
theorem toTr_ok {μ : Nat → Option OI} {X Y : Ex} {w w' : World} {n : Nat} {a : AV} {v : Value} {o : OI} (hX : X = ⟨fun b => b < n, fun b => b < n⟩) (ho : μ rk = some o) (hr : o.r = some (n, w)) (h : Rel (fun _ => none) X w a v) : Rel μ Y w' a.toTr v := by
  induction h with
  | pure h => cases h with
    | lit => exact .pure (.lit _)
    | fs h hF =>
      subst hX
      exact .tr ho hr ((PRel.fs h hF).step ⟨Nat.le_refl _, fun _ _ _ => rfl, fun _ _ h => h, fun _ h => h.elim⟩)
    | nil => exact .any _
    | sl => exact .any _
  | @agg l vs hl h ih =>
    rw [AV.toTr, AV.toTrL_eq]
    refine .agg (by simpa using hl) fun i c v hc hv => ?_
    rw [List.getElem?_map, Option.map_eq_some_iff] at hc
    obtain ⟨c0, h0, rfl⟩ := hc
    exact ih i c0 v h0 hv
  | @tup l vs hl h ih =>
    rw [AV.toTr, AV.toTrL_eq]
    refine .tup (by simpa using hl) fun i c v hc hv => ?_
    rw [List.getElem?_map, Option.map_eq_some_iff] at hc
    obtain ⟨c0, h0, rfl⟩ := hc
    exact ih i c0 v h0 hv
  | _ => exact .any _

def vCallF (P : Program) (fo : Operand) (args : Array Operand) (ρ : Operand → AV) (env : Env) (as : List AV) (r : AV) (reg : Bool) (π : List PI) : Option (Eff × List PI) := match ρ fo with
  | .clo f [] => match callable P f && r.closed with
    | true => match reg with
      | false => some ({ ob := [WeakL ((args.toList.map ρ).map (resolveV env)) as, VC P f as r, NoL as, FsR r], v := r }, π)
      | true => some ({ ob := [WeakL ((args.toList.map ρ).map (resolveV env)) as, VC P f as r, NoL as, FsR r], v := r.toTr, acts := [(rk, some (.reg false))], fresh := [rk] }, π)
    | false => none
  | _ => none
theorem vCallF_ok {P : Program} {o : Oper} {fo : Operand} {args : Array Operand} {ats : Array TypeId} {σ : VS} {env : Env} {as : List AV} {r : AV} {reg : Bool} {π π' : List PI} {E : Eff} (ho : o.op = .call { callee := .value fo, args := args, argTypes := ats }) (he : EnvOK env σ)
    (h : vCallF P fo args (evV σ.t) env as r reg π = some (E, π')) (hob : All E.ob) : ∀ S w0 μ a w, StM S w0 μ σ a w → (∀ k ∈ E.fresh, Clean k σ) → ∀ K Q, (∀ a' w', St S w0 (app o.dst E σ) a' w' → K a' w') → o.wp P a w K Q := by
  unfold vCallF at h
  split at h
  · rename_i f hfo
    split at h
    · rename_i hc
      simp only [Bool.and_eq_true] at hc
      obtain ⟨hcall, hrc⟩ := hc
      have main : ∀ (S : Ex) (w0 : Base) (μ : Nat → Option OI) (a : Act) (w : World), StM S w0 μ σ a w → WeakL ((args.toList.map (evV σ.t)).map (resolveV env)) as → VC P f as r → NoL as → FsR r →
          ∀ K Q, (∀ w' x, Below w.heap.size w w' → Rel (fun _ => none) ⟨fun b => b < w.heap.size, fun b => b < w.heap.size⟩ w' r x → K (a.put o.dst x) w') → o.wp P a w K Q := by
        intro S w0 μ a w hst hweak hvc hno hfs K Q hK
        obtain ⟨zs, hl, hh, hrun⟩ := enters_value ho hfo hcall S w0 μ a w hst
        rw [List.append_nil] at hl hh
        unfold Oper.wp
        rw [hrun, Oper.upon_enter]
        refine (hvc ⟨fun _ => False, fun b => b < w.heap.size⟩ w _ ⟨fun b hb => hb.elim, hst.tab, fun b hb => hb⟩ (by rw [hl]; simpa using hweak.1) fun i c v hc hv => ?_).mono fun e w' hx => ?_
        · have hlen := hweak.1
          have hlt : i < (args.toList.map (evV σ.t)).length := by
            have := (List.getElem?_eq_some_iff.1 hc).1
            rw [← hlen] at this; simpa using this
          have hm : ((args.toList.map (evV σ.t)).map (resolveV env))[i]? = some (resolveV env (args.toList.map (evV σ.t))[i]) := by
            rw [List.getElem?_map, List.getElem?_eq_getElem hlt]; rfl
          refine hno c (List.mem_of_getElem? hc) _ _ _ (hweak.2 i _ c hm hc _ _ _ _ ?_)
          refine (untrE_ok hst he (hh i _ v (List.getElem?_eq_getElem hlt) hv)).map ⟨Nat.le_refl _, fun _ _ _ => rfl, fun _ _ h => h.elim, fun _ h => h.elim⟩ (fun k v hr => ?_) (fun _ _ _ _ _ => .any _) (.inr rfl)
          split
          · rename_i e z rows hk
            have hr' : Rel μ (XOf S μ) w (.own k) v := by
              cases hr with
              | pure hp => cases hp
              | own h => exact .own h
              | deadO _ h => exact .deadO _ h
            exact .pure (own_sl hst (he k _ hk) hr' (fun b hb => hb.elim) (fun _ h => h.elim) (fun _ _ _ _ h => h))
          · exact .any _
        · obtain ⟨x, rfl, hrel, hb⟩ := hx
          exact hK w' x hb (hfs _ _ _ hrel)
      split at h
      · injection h with h; injection h with h1 h2; subst h1
        obtain ⟨g1, g2, g3, g4, _⟩ := hob
        intro S w0 μ a w hst _ K Q hK
        refine main S w0 μ a w hst g1 g2 g3 g4 K Q fun w' x hb hrel => hK _ _ ⟨μ, (hst.later hb).put o.dst (hrel.closed hrc ⟨Nat.le_refl _, fun _ _ _ => rfl, fun b _ h => hst.xlt h, fun b h => Nat.lt_of_lt_of_le (hst.old.fr b h).1 hst.below.size⟩)⟩
      · injection h with h; injection h with h1 h2; subst h1
        obtain ⟨g1, g2, g3, g4, _⟩ := hob
        intro S w0 μ a w hst hfr K Q hK
        refine main S w0 μ a w hst g1 g2 g3 g4 K Q fun w' x hb hrel => hK _ _ ?_
        have hnew := StM.freshR (w' := w') hst rk none (hfr rk (by simp)) ⟨none, 0, 0, 0, some (w.heap.size, w')⟩ (.reg false) hb.size (fun b hlt _ => hb.block b hlt) (hst.below.later hb) (fun _ h => by cases h)
          (fun g hg => by
            rcases hg with hg | ⟨lo, W, e, h1, h2⟩
            · cases hg
            · injection e with e; injection e with e1 e2; subst e1 e2; exact .inl h1) (fun _ => ⟨rfl, false, rfl⟩)
          (fun μ' hμ hw => ⟨w.heap.size, w', rfl, rfl, Nat.le_refl _, fun b h1 h2 => ⟨.inl (Nat.le_trans hst.below.size h1), fun _ => rfl, .inl rfl⟩⟩)
        exact ⟨_, hnew.put o.dst (toTr_ok rfl (if_pos rfl) rfl hrel)⟩
    · cases h
  · cases h
end Go.Proofs.YtdmkhinckljddaaGreat
namespace Go.Proofs.YtdmkhinckljddaaGreat
open Go.RowKit

section congr
variable {P : Program} {o : Oper} {ρ ρ' : Operand → AV} {env : Env} {π : List PI}
theorem allVal_congr {l : List Operand} (h : ∀ x ∈ l, ρ x = ρ' x) : allVal ρ l = allVal ρ' l := by
  unfold allVal
  induction l with
  | nil => rfl
  | cons a l ih => simp only [List.all_cons, h a (by simp), ih fun x hx => h x (by simp [hx])]
theorem partsV_congr : ∀ {l : List (Nat × Operand)}, (∀ p ∈ l, ρ p.2 = ρ' p.2) → partsV env ρ l = partsV env ρ' l
  | [], _ => rfl
  | (i, x) :: l, h => by
    have hx := h (i, x) (by simp)
    dsimp only at hx
    rw [partsV, partsV, hx, partsV_congr fun p hp => h p (by simp [hp])]
theorem execVals_congr (hs : isSelect o.op = false) (h : ∀ x ∈ o.op.operands, ρ x = ρ' x) : execOp (valsOf ρ) o = execOp (valsOf ρ') o :=
  execOp_congr o (fun cs b e => by rw [e] at hs; cases hs) fun x hx => by unfold valsOf; rw [h x hx]
theorem vPure_congr (h : ∀ x ∈ o.op.operands, ρ x = ρ' x) : vPure P o ρ π = vPure P o ρ' π := by
  unfold vPure
  cases hs : isSelect o.op with
  | true => rfl
  | false => rw [allVal_congr (fun x hx => h x (by simpa using hx)), execVals_congr hs h]
theorem vTold_congr (h : ∀ x ∈ o.op.operands, ρ x = ρ' x) : vTold P o ρ π = vTold P o ρ' π := by
  unfold vTold
  cases hs : isSelect o.op with
  | true => rfl
  | false =>
    rw [allVal_congr (fun x hx => h x (by simpa using hx))]
    simp only [RunsTo, execVals_congr hs h]
theorem map_congr' {l : List Operand} (h : ∀ x ∈ l, ρ x = ρ' x) : l.map ρ = l.map ρ' := List.map_congr_left h
theorem vSliceO_congr {t : TypeId} {k : Nat} {lo hi mx : Option Operand} {dst : Option Tmp} (h : ∀ l, hi = some l → ρ l = ρ' l) : vSliceO P t k lo hi mx dst ρ env π = vSliceO P t k lo hi mx dst ρ' env π := by
  unfold vSliceO
  split
  · rw [h _ rfl]
  · rfl
theorem vop_congr (h : ∀ x ∈ o.op.operands, ρ x = ρ' x) : vop P o ρ env π = vop P o ρ' env π := by
  unfold vop
  split
  · rename_i x ho; unfold vMove; rw [h x (by simp [ho, Op.operands])]
  · rename_i x ho; unfold vMove; rw [h x (by simp [ho, Op.operands])]
  · rename_i c x y ho; unfold vPick; rw [h c (by simp [ho, Op.operands]), h x (by simp [ho, Op.operands]), h y (by simp [ho, Op.operands])]
  · rfl
  · rename_i t x ho; unfold vBox; rw [h x (by simp [ho, Op.operands])]
  · rename_i t ps ho
    have : partsV env ρ ps.toList = partsV env ρ' ps.toList := partsV_congr fun p hp => h p.2 (by simp only [ho, Op.operands, List.mem_toArray, List.mem_map]; exact ⟨p, hp, rfl⟩)
    unfold vBuild; rw [this]
  · rename_i t n ps ho
    have : partsV env ρ ps.toList = partsV env ρ' ps.toList := partsV_congr fun p hp => h p.2 (by simp only [ho, Op.operands, List.mem_toArray, List.mem_map]; exact ⟨p, hp, rfl⟩)
    unfold vBuildSlice; rw [this]
  · rename_i t x ho; unfold vLoad vLoadA; rw [h x (by simp [ho, Op.operands])]
  · rename_i t x y ho; unfold vStore vStoreA; rw [h x (by simp [ho, Op.operands]), h y (by simp [ho, Op.operands])]
  · rename_i x ho; unfold vNil; rw [h x (by simp [ho, Op.operands])]
  · rename_i op t x y u ho
    have h1 := h x (by simp [ho, Op.operands]); have h2 := h y (by simp [ho, Op.operands])
    unfold vBin vBinT; rw [h1, h2]
    simp only [vPure_congr h]
  · rename_i op t x ho
    have h1 := h x (by simp [ho, Op.operands])
    unfold vUn; simp only [h1, vPure_congr h]
  · rename_i s d x ho
    unfold vConv; rw [h x (by simp [ho, Op.operands]), vTold_congr h]
  · rename_i t l c ho; unfold vMake; rw [h l (by simp [ho, Op.operands]), h c (by simp [ho, Op.operands])]
  · rename_i t x lo hi mx ho
    have hlo : ∀ l, lo = some l → ρ l = ρ' l := fun l hl => h l (by simp [ho, Op.operands, hl])
    have hhi : ∀ l, hi = some l → ρ l = ρ' l := fun l hl => h l (by simp [ho, Op.operands, hl])
    rw [h x (by simp [ho, Op.operands])]
    split
    · exact vSliceO_congr hhi
    · exact vPure_congr h
    · unfold vSlice; rw [h x (by simp [ho, Op.operands])]
      cases lo with
      | none => cases hi with
        | none => rfl
        | some l => simp only [hhi l rfl]
      | some l' => cases hi with
        | none => simp only [hlo l' rfl]
        | some l => simp only [hhi l rfl, hlo l' rfl]
  · rename_i s x f ho; unfold vFieldAddr; rw [h x (by simp [ho, Op.operands])]
  · rename_i s x f ho; unfold vField; rw [h x (by simp [ho, Op.operands])]
  · rename_i t x i ho; unfold vIndexAddr; rw [h x (by simp [ho, Op.operands]), h i (by simp [ho, Op.operands])]
  · exact vTold_congr h
  · rename_i x i ho; unfold vExtract; rw [h x (by simp [ho, Op.operands])]
  · rename_i fn first caps ho
    have : caps.toList.map ρ = caps.toList.map ρ' := map_congr' fun x hx => h x (by simp [ho, Op.operands, hx]; right; simpa using hx)
    have this2 : first.toList.map ρ = first.toList.map ρ' := map_congr' fun x hx => h x (by simp [ho, Op.operands]; left; simpa using hx)
    unfold vFunc; simp only [this, this2]
  · rename_i t x ho; unfold vIfc; rw [h x (by simp [ho, Op.operands])]
  · rfl
  · rename_i t x ix ok ho; unfold vLookup; rw [h x (by simp [ho, Op.operands]), h ix (by simp [ho, Op.operands])]
  · rename_i t m k x ho; unfold vMapUpdate; rw [h m (by simp [ho, Op.operands]), h k (by simp [ho, Op.operands]), h x (by simp [ho, Op.operands])]
  · rename_i t m k x ho; unfold vMapUpdate; rw [h m (by simp [ho, Op.operands]), h k (by simp [ho, Op.operands]), h x (by simp [ho, Op.operands])]
  · rename_i fo args ats ho
    have h1 : ρ fo = ρ' fo := h fo (by simp [ho, Op.operands, Call.operands])
    have h2 : args.toList.map ρ = args.toList.map ρ' := map_congr' fun x hx => h x (by simp [ho, Op.operands, Call.operands]; right; simpa using hx)
    unfold vCall; rw [h1, h2]
  · rename_i r n args ats ho
    have h1 : ρ r = ρ' r := h r (by simp [ho, Op.operands, Call.operands])
    have h2 : args.toList.map ρ = args.toList.map ρ' := map_congr' fun x hx => h x (by simp [ho, Op.operands, Call.operands]; right; simpa using hx)
    unfold vInv; rw [h1, h2]
  · rename_i s x t t' ho
    unfold vAppend vAppendZ; rw [h s (by simp [ho, Op.operands, Call.operands]), h x (by simp [ho, Op.operands, Call.operands])]
  · rename_i x t ho
    unfold vLen; rw [h x (by simp [ho, Op.operands, Call.operands]), vPure_congr h]
  · exact vPure_congr h
  · exact vPure_congr h
  · exact vPure_congr h
  · rfl
end congr

/-- Two states alike in what the operation looks at. -/
structure Sees (ops : Array Oper) (o : Oper) (σ σ' : VS) : Prop where
  t : ∀ d ∈ o.looksAt ops, σ.t.getD d .any = σ'.t.getD d .any
  o : ∀ k ∈ opKeys σ.t o.op, look σ.o k = look σ'.o k
theorem Sees.ev {ops : Array Oper} {o : Oper} {σ σ' : VS} (h : Sees ops o σ σ') : ∀ x ∈ o.op.operands, evV σ.t x = evV σ'.t x := by
  intro x hx
  cases x with
  | tmp d =>
    refine h.t d ?_
    unfold Oper.looksAt
    rw [List.mem_append]; left
    rw [List.mem_filterMap]; exact ⟨.tmp d, by simpa using hx, rfl⟩
  | _ => rfl
theorem Sees.keys {ops : Array Oper} {o : Oper} {σ σ' : VS} (h : Sees ops o σ σ') : opKeys σ.t o.op = opKeys σ'.t o.op := by
  unfold opKeys
  have : ∀ l : List Operand, (∀ x ∈ l, evV σ.t x = evV σ'.t x) → (l.flatMap fun x => (evV σ.t x).keys) = l.flatMap fun x => (evV σ'.t x).keys := by
    intro l
    induction l with
    | nil => intro _; rfl
    | cons a l ih => intro hh; rw [List.flatMap_cons, List.flatMap_cons, hh a (by simp), ih fun x hx => hh x (by simp [hx])]
  exact this _ fun x hx => h.ev x (by simpa using hx)
theorem vstep_congr {P : Program} {ops : Array Oper} {o : Oper} {σ σ' : VS} {π : List PI} (h : Sees ops o σ σ') : vstep P ops o σ π = vstep P ops o σ' π := by
  have henv : envOf (opKeys σ.t o.op) σ.o = envOf (opKeys σ'.t o.op) σ'.o := by
    rw [← h.keys]
    funext k
    unfold envOf
    split
    · rename_i hk; exact h.o k (by simpa using hk)
    · rfl
  have hv : ∀ π, vop P o (evV σ.t) (envOf (opKeys σ.t o.op) σ.o) π = vop P o (evV σ'.t) (envOf (opKeys σ'.t o.op) σ'.o) π := by
    intro π; rw [henv]; exact vop_congr h.ev
  unfold vstep
  have hg : guardV ops o σ.t = guardV ops o σ'.t := rfl
  rw [hg]
  split
  · exact hv π
  · rename_i d want hgd
    have hd : σ.t.getD d .any = σ'.t.getD d .any := by
      refine h.t d ?_
      unfold guardV at hgd
      split at hgd
      · injection hgd with hgd; cases hgd
      · rename_i j want' hgu
        split at hgd
        · rename_i oj hj
          split at hgd
          · rename_i d' hd'
            injection hgd with hgd; injection hgd with hgd; injection hgd with h1 h2; subst h1
            unfold Oper.looksAt
            rw [List.mem_append]; right
            simp [hgu, hj, hd']
          · cases hgd
        · cases hgd
    rw [hd]
    simp only [hv]
  · rfl
end Go.Proofs.YtdmkhinckljddaaGreat
namespace Go.Proofs.YtdmkhinckljddaaGreat
open Go.RowKit

/-! ### Guarded operations, and choices, without cases -/
def AV.strip : AV → AV
  | .opt _ _ _ a => a
  | a => a
/-- What an operation under this guard may look at: what is always there, and what is there under this guard. -/
def keyIs (d : Nat) (w : Bool) : AV → Bool
  | .opt _ d' w' _ => d' == d && w' == w
  | _ => true
def wantB (b : Bool) : Bool → Bool
  | true => b
  | false => !b
/-- The condition under which an operation with this guard is wanted. -/
def guardC (a : AV) (want : Bool) : Option Bool := match a with
  | .lit (.bool b) => some (wantB b want)
  | .opt c0 _ _ (.lit (.bool b)) => some (c0 && wantB b want)
  | _ => none
def noEff (E : Eff) : Bool := E.new.isNone && E.upd.isNone && E.kill.isNone && E.acts.isEmpty
def boolAt (cs : Nat) (w : Bool) : AV → Option Bool
  | .lit (.bool u) => some u
  | .opt _ d' w' (.lit (.bool u)) => match d' == cs && w' == w with
    | true => some u
    | false => none
  | _ => none
def condOf (g : Option (Nat × Bool)) : AV → Option Bool
  | .lit (.bool b) => some b
  | .opt _ d' w' (.lit (.bool b)) => match g with
    | some (d, w) => match d' == d && w' == w with
      | true => some b
      | false => none
    | none => none
  | _ => none
def selK (k : Nat) (b u v : Bool) : Option Bool := match k with
  | 0 => some (cond b u v)
  | 1 => match u with
    | true => some (b || v)
    | false => none
  | _ => match v with
    | false => some (b && u)
    | true => none
theorem selK_eq : ∀ {k : Nat} {b u v r : Bool}, selK k b u v = some r → r = if b = true then u else v
  | 0, b, u, v, r, h => by simp only [selK] at h; injection h with h; subst h; cases b <;> rfl
  | 1, b, u, v, r, h => by
    cases u with
    | true => simp only [selK] at h; injection h with h; subst h; cases b <;> rfl
    | false => simp [selK] at h
  | k + 2, b, u, v, r, h => by
    cases v with
    | true => simp [selK] at h
    | false => simp only [selK] at h; injection h with h; subst h; cases b <;> rfl
def vPickO (c x y : Operand) (ρ : Operand → AV) (g : Option (Nat × Bool)) (k : Nat) : Option Bool := match c with
  | .tmp cs => match condOf g (ρ c), boolAt cs true (ρ x), boolAt cs false (ρ y) with
    | some b, some u, some v => selK k b u v
    | _, _, _ => none
  | _ => none
def imps (c : Bool) : List Prop → List Prop
  | [] => []
  | p :: l => (c = true → p) :: imps c l
theorem imps_ok {c : Bool} (hc : c = true) : ∀ {l : List Prop}, All (imps c l) → All l
  | [], _ => trivial
  | _ :: _, h => ⟨h.1 hc, imps_ok hc h.2⟩
def impI (i : Bool) (c : Bool) (l : List Prop) : List Prop := match i with
  | true => imps c l
  | false => l
theorem impI_ok {i c : Bool} (hc : c = true) {l : List Prop} (h : All (impI i c l)) : All l := by
  cases i with
  | true => exact imps_ok hc h
  | false => exact h
def plainS (r : Option (Eff × List PI)) : Option (Eff × List PI) := match r with
  | some (E, π) => match E.v with
    | .opt _ _ _ _ => none
    | _ => some (E, π)
  | none => none
theorem plainS_eq {r : Option (Eff × List PI)} {E : Eff} {π : List PI} (h : plainS r = some (E, π)) : r = some (E, π) ∧ ∀ c d w a, E.v ≠ .opt c d w a := by
  unfold plainS at h
  split at h
  · split at h
    · cases h
    · rename_i hne
      injection h with h; injection h with h1 h2; subst h1 h2
      exact ⟨rfl, fun c d w a e => hne c d w a e⟩
  · cases h
/-- A call that is handed blocks of the caller's own. -/
def vCallMA (P : Program) (f : Nat) (actual : List AV) (pre : List Prop) (o : List (Nat × Blk)) (ren out : List (Nat × Nat)) (r : AV) (o' : List (Nat × Blk)) (π : List PI) : Option (Eff × List PI) := match callable P f && renChk ren out o && dist (o'.map (·.1)) with
  | true => some ({ ob := VM P f (actual.map (AV.map (mpo (look2 ren)) (mpp (look2 ren)))) (inO (look2 ren) o ren) r o' :: pre, v := r.map (mpo (outFn ren out)) (mpp (outFn ren out)), acts := dropsA ren ++ putsA (outFn ren out) o', fresh := out.map (·.2) }, π)
  | false => none
def vCallM (P : Program) (fo : Operand) (args : Array Operand) (ρ : Operand → AV) (o : List (Nat × Blk)) (ren out : List (Nat × Nat)) (r : AV) (o' : List (Nat × Blk)) (π : List PI) : Option (Eff × List PI) := match ρ fo with
  | .clo f caps => vCallMA P f (args.toList.map ρ ++ caps) [] o ren out r o' π
  | .bnd f c => vCallMA P f (c :: args.toList.map ρ) [] o ren out r o' π
  | _ => none
/-- The method of this name, as the program's tables tell it. -/
def methF (P : Program) (t : TypeId) (name : String) : Nat := match pureVal P (Go.method (P.types.size + Made.depth) t undef name) with
  | some (f, _) => f
  | none => 0
def vInvM (P : Program) (recv : Operand) (name : String) (args : Array Operand) (ρ : Operand → AV) (o : List (Nat × Blk)) (ren out : List (Nat × Nat)) (r : AV) (o' : List (Nat × Blk)) (π : List PI) : Option (Eff × List PI) := match ρ recv with
  | .ifc t a => vCallMA P (methF P t name) (a :: args.toList.map ρ) [MethodIs P t name (methF P t name)] o ren out r o' π
  | _ => none
def addOb (p : Prop) : Option (Eff × List PI) → Option (Eff × List PI)
  | some (E, π) => some ({ E with ob := p :: E.ob }, π)
  | none => none
theorem addOb_eq {p : Prop} {r : Option (Eff × List PI)} {E : Eff} {π : List PI} (h : addOb p r = some (E, π)) : ∃ E0, r = some (E0, π) ∧ E = { E0 with ob := p :: E0.ob } := by
  unfold addOb at h
  split at h
  · injection h with h; injection h with h1 h2; subst h1 h2; exact ⟨_, rfl, rfl⟩
  · cases h
def seenK0 : List PI → List Nat
  | .callm ren _ _ _ :: _ => rk :: ren.map (·.1)
  | .cally ren _ _ _ :: _ => rk :: ren.map (·.1)
  | .br true :: .callm ren _ _ _ :: _ => rk :: ren.map (·.1)
  | _ => []
def isCal (o : Oper) : Bool := match o.op with
  | .call ⟨.value _, _, _⟩ => true
  | .call ⟨.invoke _ _, _, _⟩ => true
  | _ => false
def seenK (o : Oper) (π : List PI) : List Nat := match isCal o with
  | true => seenK0 π
  | false => []
def vsto (P : Program) (ops : Array Oper) (o : Oper) (σ : VS) (π : List PI) : Option (Eff × List PI) := match π with
  | .op i :: π' => match guardV ops o σ.t with
    | some (some (d, want)) => match guardC (σ.t.getD d .any) want with
      | some c => match o.op with
        | .pick cc x y => match π' with
          | .sel k :: π2 => match vPickO cc x y (evV σ.t) (some (d, want)) k with
            | some r => some ({ v := .opt c d want (.lit (.bool r)) }, π2)
            | none => none
          | _ => none
        | _ => match o.op.operands.toList.all (fun x => keyIs d want (evV σ.t x)) with
          | true => match vop P o (fun x => (evV σ.t x).strip) (envOf (opKeys σ.t o.op) σ.o) π' with
            | some (E, π2) => match noEff E with
              | true => some ({ ob := impI i c E.ob, v := .opt c d want E.v }, π2)
              | false => none
            | none => none
          | false => none
      | none => none
    | _ => plainS (vstep P ops o σ π)
  | .sel k :: π' => match guardV ops o σ.t with
    | some none => match o.op with
      | .pick c x y => match vPickO c x y (evV σ.t) none k with
        | some r => some ({ v := .lit (.bool r) }, π')
        | none => none
      | _ => plainS (vstep P ops o σ π)
    | _ => plainS (vstep P ops o σ π)
  | .callm ren out r o' :: π' => match guardV ops o σ.t with
    | some none => match o.op with
      | .call ⟨.value fo, args, _⟩ => plainS (vCallM P fo args (evV σ.t) σ.o ren out r o' π')
      | .call ⟨.invoke recv name, args, _⟩ => plainS (vInvM P recv name args (evV σ.t) σ.o ren out r o' π')
      | _ => plainS (vstep P ops o σ π)
    | _ => plainS (vstep P ops o σ π)
  | .br true :: .callm ren out r o' :: π' => match guardV ops o σ.t with
    | some (some (d, want)) => match σ.t.getD d .any with
      | .lit (.bool b) => match o.op with
        | .call ⟨.value fo, args, _⟩ => plainS (addOb (b = want) (vCallM P fo args (evV σ.t) σ.o ren out r o' π'))
        | .call ⟨.invoke recv name, args, _⟩ => plainS (addOb (b = want) (vInvM P recv name args (evV σ.t) σ.o ren out r o' π'))
        | _ => plainS (vstep P ops o σ π)
      | _ => plainS (vstep P ops o σ π)
    | _ => plainS (vstep P ops o σ π)
  | _ => plainS (vstep P ops o σ π)

/-- What is there under a guard is told in the guard's own words. -/
def keyed (σ : VS) : Prop := ∀ i c d w a, σ.t.getD i .any = .opt c d w a → guardC (σ.t.getD d .any) w = some c
def KeyLoc (ops : Array Oper) (o : Oper) (σ : VS) : Prop := ∀ i, Operand.tmp i ∈ o.op.operands → ∀ c d w a, σ.t.getD i .any = .opt c d w a → d ∈ o.looksAt ops → guardC (σ.t.getD d .any) w = some c
theorem keyed.loc {σ : VS} (h : keyed σ) (ops : Array Oper) (o : Oper) : KeyLoc ops o σ := fun i _ c d w a e _ => h i c d w a e
theorem KeyLoc.sees {ops : Array Oper} {o : Oper} {σ σ' : VS} (h : KeyLoc ops o σ) (hs : Sees ops o σ σ') : KeyLoc ops o σ' := fun i hi c d w a e hd => by
  have h1 := hs.ev (.tmp i) hi
  rw [show evV σ.t (.tmp i) = σ.t.getD i .any from rfl, show evV σ'.t (.tmp i) = σ'.t.getD i .any from rfl] at h1
  rw [← hs.t d hd]; exact h i hi c d w a (h1.trans e) hd
theorem mem_looks {ops : Array Oper} {o : Oper} {i : Nat} (hi : Operand.tmp i ∈ o.op.operands) : i ∈ o.looksAt ops := by
  unfold Oper.looksAt
  rw [List.mem_append]; left
  rw [List.mem_filterMap]; exact ⟨.tmp i, by simpa using hi, rfl⟩
theorem guardV_some {ops : Array Oper} {o : Oper} {t : List AV} {d : Tmp} {want : Bool} (hg : guardV ops o t = some (some (d, want))) : ∃ j oj, o.guard = some (j, want) ∧ ops[j]? = some oj ∧ oj.dst = some d := by
  unfold guardV at hg; split at hg
  · injection hg with hg; cases hg
  · rename_i j want' hgd
    split at hg
    · rename_i oj hj
      split at hg
      · rename_i d' hd
        injection hg with hg; injection hg with hg; injection hg with h1 h2; subst h1 h2
        exact ⟨j, oj, hgd, hj, hd⟩
      · cases hg
    · cases hg
theorem mem_guard {ops : Array Oper} {o : Oper} {t : List AV} {d : Tmp} {want : Bool} (hg : guardV ops o t = some (some (d, want))) : d ∈ o.looksAt ops := by
  obtain ⟨j, oj, hgu, hj, hd⟩ := guardV_some hg
  unfold Oper.looksAt
  rw [List.mem_append]; right
  simp [hgu, hj, hd]
theorem guardV_none {ops : Array Oper} {o : Oper} {t : List AV} (hg : guardV ops o t = some none) : o.guard = none := by
  unfold guardV at hg; split at hg
  · assumption
  · split at hg
    · split at hg
      · injection hg with hg; cases hg
      · cases hg
    · cases hg
theorem StM.slots {S : Ex} {w0 : Base} {w : World} {μ : Nat → Option OI} {σ : VS} {a : Act} {t' : List AV} (h : StM S w0 μ σ a w) (hl : t'.length = σ.t.length) (ht : ∀ (i : Nat) (c : AV) (v : Value), t'[i]? = some c → a.tmps[i]? = some v → Rel μ (XOf S μ) w c v) : StM S w0 μ ⟨t', σ.o⟩ a w :=
  ⟨h.defers, by rw [h.size]; exact hl.symm, ht, h.blks, h.live, h.inj, h.below, h.old⟩
def stripT (is : List Nat) (t : List AV) : List AV := t.mapIdx fun i a => if is.contains i then a.strip else a
theorem stripT_get (is : List Nat) (t : List AV) (i : Nat) : (stripT is t)[i]? = (t[i]?).map fun a => if is.contains i then a.strip else a := by
  unfold stripT; rw [List.getElem?_mapIdx]
theorem strip_ofVal (v : Value) : (ofVal v).strip = ofVal v := by unfold ofVal; split <;> rfl
def tmpIds (l : List Operand) : List Nat := l.filterMap fun x => match x with | .tmp i => some i | _ => none
theorem tmpIds_mem {l : List Operand} {i : Nat} : i ∈ tmpIds l ↔ Operand.tmp i ∈ l := by
  unfold tmpIds; rw [List.mem_filterMap]
  constructor
  · rintro ⟨x, hx, h⟩
    cases x with
    | tmp j => simp only at h; injection h with h; subst h; exact hx
    | _ => simp at h
  · exact fun h => ⟨.tmp i, h, rfl⟩
theorem evV_strip {t : List AV} {l : List Operand} {x : Operand} (hx : x ∈ l) : evV (stripT (tmpIds l) t) x = (evV t x).strip := by
  cases x with
  | tmp i =>
    have hi : (tmpIds l).contains i = true := by
      rw [List.contains_iff_mem]; exact tmpIds_mem.2 hx
    show (stripT (tmpIds l) t).getD i .any = (t.getD i .any).strip
    rw [List.getD_eq_getElem?_getD, List.getD_eq_getElem?_getD, stripT_get]
    cases t[i]? with
    | none => rfl
    | some a => simp only [Option.map_some, Option.getD_some, hi, if_true]
  | const v => exact (strip_ofVal v).symm
  | func f => rfl
  | global g => rfl
theorem app_noEff {d : Option Tmp} {E : Eff} {σ : VS} (h : noEff E = true) : app d E σ = ⟨setT d E.v σ.t, σ.o⟩ := by
  unfold noEff at h
  simp only [Bool.and_eq_true, Option.isNone_iff_eq_none] at h
  obtain ⟨⟨⟨h1, h2⟩, h3⟩, h4⟩ := h
  unfold app; rw [h1, h2, h3, List.isEmpty_iff.1 h4]; cases d <;> rfl
theorem yielded_at {S : Ex} {w0 : Base} {w : World} {μ : Nat → Option OI} {σ : VS} {a : Act} (h : StM S w0 μ σ a w) {ops : Array Oper} {j d : Nat} {oj : Oper} (hj : ops[j]? = some oj) (hd : oj.dst = some d) (hne : σ.t.getD d .any ≠ .any) :
    ∃ v, Rel μ (XOf S μ) w (σ.t.getD d .any) v ∧ yielded ops a.tmps j = match v with | .bool b => some b | _ => none := by
  have hlt : d < σ.t.length := by
    by_cases hlt : d < σ.t.length
    · exact hlt
    · rw [List.getD_eq_getElem?_getD, List.getElem?_eq_none (Nat.le_of_not_lt hlt)] at hne; exact absurd rfl hne
  have hlt' : d < a.tmps.size := by rw [h.size]; exact hlt
  refine ⟨a.tmps[d], ?_, ?_⟩
  · rw [List.getD_eq_getElem?_getD, List.getElem?_eq_getElem hlt, Option.getD_some]
    exact h.tmps d _ _ (List.getElem?_eq_getElem hlt) (Array.getElem?_eq_getElem hlt')
  · simp only [yielded, hj, Option.bind_some, hd]
    rw [Array.getElem?_eq_getElem hlt']
    cases a.tmps[d] <;> rfl
/-- Wanted if, and only if, the condition holds. -/
theorem wanted_iff {S : Ex} {w0 : Base} {w : World} {μ : Nat → Option OI} {σ : VS} {a : Act} (h : StM S w0 μ σ a w) {ops : Array Oper} {o : Oper} {d : Nat} {want c : Bool} (hg : guardV ops o σ.t = some (some (d, want))) (hc : guardC (σ.t.getD d .any) want = some c) :
    Region.wanted o (yielded ops a.tmps) = c := by
  obtain ⟨j, oj, hgd, hj, hd⟩ := guardV_some hg
  have hne : σ.t.getD d .any ≠ .any := by intro e; rw [e] at hc; simp [guardC] at hc
  obtain ⟨v, hr, hy⟩ := yielded_at h hj hd hne
  simp only [Region.wanted, hgd, hy]
  unfold guardC at hc
  split at hc
  · rename_i b hb
    injection hc with hc; subst hc
    rw [hb] at hr; rw [rel_lit hr]
    cases b <;> cases want <;> rfl
  · rename_i c0 _ _ b hb
    injection hc with hc; subst hc
    rw [hb] at hr
    cases hr with
    | pure hp => cases hp
    | opt h1 h0 =>
      cases c0 with
      | true => rw [rel_lit (h1 rfl)]; cases b <;> cases want <;> rfl
      | false => rw [h0 rfl]; rfl
  · cases hc
theorem StM.ofWeaker {S : Ex} {w0 : Base} {w : World} {σ σ' : VS} {a : Act} (h : St S w0 σ a w) (ho : σ'.o = σ.o) (hl : σ'.t.length = σ.t.length) (ht : ∀ (i : Nat) (c c' : AV), σ.t[i]? = some c → σ'.t[i]? = some c' → ∀ μ X w v, Rel μ X w c v → Rel μ X w c' v) : St S w0 σ' a w := by
  obtain ⟨μ, h⟩ := h
  have := h.slots (t' := σ'.t) hl (fun i c' v hc' hv => by
    have hi : i < σ.t.length := by rw [← hl]; exact (List.getElem?_eq_some_iff.1 hc').1
    exact ht i _ c' (List.getElem?_eq_getElem hi) hc' _ _ _ _ (h.tmps i _ v (List.getElem?_eq_getElem hi) hv))
  refine ⟨μ, ?_⟩
  rw [← ho] at this; exact this
theorem len_setT' (d : Option Tmp) (c : AV) (t : List AV) : (setT d c t).length = t.length := by cases d <;> simp [setT]
theorem opt_rel {μ : Nat → Option OI} {X : Ex} {w : World} {c : Bool} {d : Nat} {g : Bool} {a : AV} {v : Value} (h : Rel μ X w (.opt c d g a) v) (hc : c = true) : Rel μ X w a v := by
  cases h with
  | pure hp => cases hp
  | opt h1 _ => exact h1 hc
/-- A choice between truth values. -/
theorem pickO_val {S : Ex} {w0 : Base} {w : World} {μ : Nat → Option OI} {σ : VS} {a : Act} (hst : StM S w0 μ σ a w) {ops : Array Oper} {o : Oper} {c x y : Operand} {g : Option (Nat × Bool)} {k : Nat} {r : Bool} (ho : o.op = .pick c x y) (hloc : KeyLoc ops o σ)
    (hg : ∀ d w', g = some (d, w') → guardC (σ.t.getD d .any) w' = some true ∧ d ∈ o.looksAt ops) (h : vPickO c x y (evV σ.t) g k = some r) : execOp a.eval o = pure (.value (.bool r)) := by
  unfold vPickO at h
  split at h
  · rename_i cs
    split at h
    · rename_i b u v hb hu hv
      rw [selK_eq h]
      have hmc : Operand.tmp cs ∈ o.op.operands := by simp [ho, Op.operands]
      -- the condition's value, and what holds under it
      have ec : a.eval (.tmp cs) = .bool b ∧ ∀ w' c', guardC (σ.t.getD cs .any) w' = some c' → wantB b w' = true → c' = true := by
        have he := hst.eval (.tmp cs)
        rw [show evV σ.t (.tmp cs) = σ.t.getD cs .any from rfl] at he hb
        unfold condOf at hb
        split at hb
        · rename_i b' hs
          injection hb with hb; subst hb
          rw [hs] at he
          refine ⟨rel_lit he, fun w' c' hgc hw => ?_⟩
          rw [hs] at hgc; simp only [guardC] at hgc; injection hgc with hgc; rw [← hgc]; exact hw
        · rename_i c0 d' w2 b' hs
          split at hb
          · rename_i d w'
            split at hb
            · rename_i hk
              injection hb with hb; subst hb
              simp only [Bool.and_eq_true, beq_iff_eq] at hk
              obtain ⟨rfl, rfl⟩ := hk
              obtain ⟨g1, g2⟩ := hg d' w2 rfl
              have hl := hloc cs hmc c0 d' w2 _ hs g2
              rw [g1] at hl; injection hl with hl; subst hl
              rw [hs] at he
              refine ⟨rel_lit (opt_rel he rfl), fun w' c' hgc hw => ?_⟩
              rw [hs] at hgc; simp only [guardC] at hgc; injection hgc with hgc; rw [← hgc, hw]; rfl
            · cases hb
          · cases hb
        · cases hb
      have side : ∀ (z : Operand) (w' : Bool) (q : Bool), z ∈ o.op.operands → boolAt cs w' (evV σ.t z) = some q → wantB b w' = true → a.eval z = .bool q := by
        intro z w' q hz hq hw
        have he := hst.eval z
        unfold boolAt at hq
        split at hq
        · rename_i u' hs
          injection hq with hq; subst hq
          rw [hs] at he; exact rel_lit he
        · rename_i c0 d' w2 u' hs
          split at hq
          · rename_i hk
            injection hq with hq; subst hq
            simp only [Bool.and_eq_true, beq_iff_eq] at hk
            obtain ⟨rfl, rfl⟩ := hk
            rw [hs] at he
            cases z with
            | tmp zi =>
              have hl := hloc zi hz c0 d' w2 _ hs (mem_looks hmc)
              exact rel_lit (opt_rel he (ec.2 w2 c0 hl hw))
            | const z' => simp only [evV, ofVal] at hs; split at hs <;> cases hs
            | func f => cases hs
            | global g' => cases hs
          · cases hq
        · cases hq
      cases hbb : b with
      | true =>
        subst hbb
        have ex := side x true u (by simp [ho, Op.operands]) hu rfl
        simp [execOp, ho, ec.1, asBool, ex]
      | false =>
        subst hbb
        have ey := side y false v (by simp [ho, Op.operands]) hv rfl
        simp [execOp, ho, ec.1, asBool, ey]
    · cases h
  · cases h
theorem callMA_core {P : Program} {o : Oper} {f : Nat} {actual : List AV} {pre : List Prop} {σ : VS} {π π' : List PI} {E : Eff} {ren out : List (Nat × Nat)} {r : AV} {o' : List (Nat × Blk)} (hent : EntersS P o σ f actual)
    (h : vCallMA P f actual pre σ.o ren out r o' π = some (E, π')) (hob : All E.ob) : ∀ S w0 μ a w, StM S w0 μ σ a w → (∀ k ∈ E.fresh, Clean k σ) → ∀ K Q, (∀ a' w', St S w0 (app o.dst E σ) a' w' → K a' w') → o.wp P a w K Q := by
  unfold vCallMA at h
  split at h
  · rename_i hchk
    injection h with h; injection h with h1 h2; subst h1
    simp only [Bool.and_eq_true] at hchk
    obtain ⟨⟨hcall, hren⟩, hdist⟩ := hchk
    have hrc := renChk_ok hren
    obtain ⟨hvm, _⟩ := hob
    intro S w0 μ a w hst hfr K Q hK
    obtain ⟨zs, hlen, hzs, hrun⟩ := hent S w0 μ a w hst
    unfold Oper.wp
    rw [hrun, Oper.upon_enter]
    have hR := hrc.ren (σ := σ)
    have hO := hrc.out hfr
    have hent := Mem.enter hst hR (oK := inO (look2 ren) σ.o ren) (fun k' => look_inO _ _ k' fun p hp => (hrc.r p hp).1)
    refine (hvm _ _ _ w _ hent (by simp [hlen]) fun i c v hc hv => ?_).mono fun e w' hx => ?_
    · rw [List.getElem?_map, Option.map_eq_some_iff] at hc
      obtain ⟨c0, hc0, rfl⟩ := hc
      exact inK (β := w0) hR (hzs i c0 v hc0 hv)
    · obtain ⟨x, μ', rfl, hm, hrel⟩ := hx
      obtain ⟨l1, l2⟩ := Mem.leave hst hR hO (newO := actsO (dropsA ren ++ putsA (outFn ren out) o') σ.o) hm (fun k => by
        rw [actsO_app, look_puts hO.to hO.fro k o' _ hdist]
        cases hi : outIn ren out k with
        | none => exact look_drops k ren σ.o
        | some k' =>
          dsimp only
          cases hl' : look o' k' with
          | some b => rfl
          | none =>
            dsimp only
            rw [look_drops]
            cases e : look2 ren k with
            | some _ => rfl
            | none =>
              dsimp only
              -- a new name is nowhere
              unfold outIn at hi
              cases e2 : look2i out k with
              | some j => exact (hfr k (List.mem_map.2 ⟨_, look2i_mem e2, rfl⟩)).n
              | none => rw [e2] at hi; dsimp only at hi; rw [e] at hi; cases hi)
      exact hK _ _ ⟨_, l1.put o.dst (l2 r x hrel)⟩
  · cases h
theorem vCallMA_call {P : Program} {f : Nat} {actual : List AV} {pre : List Prop} {o o' : List (Nat × Blk)} {ren out : List (Nat × Nat)} {r : AV} {π π' : List PI} {E : Eff} (h : vCallMA P f actual pre o ren out r o' π = some (E, π')) : callable P f = true ∧ (All E.ob → All pre) := by
  unfold vCallMA at h
  split at h
  · rename_i hchk
    injection h with h; injection h with h1 h2; subst h1
    simp only [Bool.and_eq_true] at hchk
    exact ⟨hchk.1.1, fun h => h.2⟩
  · cases h
theorem vCallM_ok {P : Program} {o : Oper} {fo : Operand} {args : Array Operand} {ats : Array TypeId} {σ : VS} {π π' : List PI} {E : Eff} {ren out : List (Nat × Nat)} {r : AV} {o' : List (Nat × Blk)} (ho : o.op = .call { callee := .value fo, args := args, argTypes := ats })
    (h : vCallM P fo args (evV σ.t) σ.o ren out r o' π = some (E, π')) (hob : All E.ob) : ∀ S w0 μ a w, StM S w0 μ σ a w → (∀ k ∈ E.fresh, Clean k σ) → ∀ K Q, (∀ a' w', St S w0 (app o.dst E σ) a' w' → K a' w') → o.wp P a w K Q := by
  unfold vCallM at h
  split at h
  · rename_i f caps hfo
    exact callMA_core (enters_value ho hfo (vCallMA_call h).1) h hob
  · rename_i f c hfo
    exact callMA_core (enters_bound ho hfo (vCallMA_call h).1) h hob
  · cases h
theorem vInvM_ok {P : Program} {o : Oper} {recv : Operand} {name : String} {args : Array Operand} {ats : Array TypeId} {σ : VS} {π π' : List PI} {E : Eff} {ren out : List (Nat × Nat)} {r : AV} {o' : List (Nat × Blk)} (ho : o.op = .call { callee := .invoke recv name, args := args, argTypes := ats })
    (h : vInvM P recv name args (evV σ.t) σ.o ren out r o' π = some (E, π')) (hob : All E.ob) : ∀ S w0 μ a w, StM S w0 μ σ a w → (∀ k ∈ E.fresh, Clean k σ) → ∀ K Q, (∀ a' w', St S w0 (app o.dst E σ) a' w' → K a' w') → o.wp P a w K Q := by
  unfold vInvM at h
  split at h
  · rename_i t b hr
    have hc := vCallMA_call h
    exact callMA_core (enters_invoke ho hr (hc.2 hob).1 hc.1) h hob
  · cases h
theorem vsto_ok {P : Program} {ops : Array Oper} {o : Oper} {σ : VS} {π π' : List PI} {E : Eff} (hloc : KeyLoc ops o σ) (h : vsto P ops o σ π = some (E, π')) (hob : All E.ob) : StepS P ops o σ E := by
  unfold vsto at h
  split at h
  · rename_i i π1
    split at h
    · rename_i d want hg
      split at h
      · rename_i c hc
        split at h
        · rename_i cc x y ho
          split at h
          · rename_i k π2
            split at h
            · rename_i r hp
              injection h with h; injection h with h1 h2; subst h1
              intro S w0 μ a w hst hcl _ K Q hK
              rw [wanted_iff hst hg hc]
              have happ : ∀ v, app o.dst { v := v } σ = ⟨setT o.dst v σ.t, σ.o⟩ := fun v => app_noEff (E := { v := v }) rfl
              cases c with
              | true =>
                rw [if_pos rfl]
                have this := opS_val (P := P) (o := o) (σ := σ) (ob := []) (v := .opt true d want (.lit (.bool r))) (fun S2 w2 μ2 ac w3 hst2 =>
                  ⟨.bool r, by rw [pickO_val hst2 ho hloc (fun d' w' e => by injection e with e; injection e with e1 e2; subst e1 e2; exact ⟨hc, mem_guard hg⟩) hp]; simp, .opt (fun _ => .pure (.lit _)) (by intro h; cases h)⟩)
                exact this S w0 μ a w hst hcl K Q hK
              | false =>
                rw [if_neg (by simp)]
                refine hK _ _ ?_
                rw [happ]
                exact ⟨μ, hst.put o.dst (.opt (by intro h; cases h) (fun _ => rfl))⟩
            · cases h
          · cases h
        · split at h
          · rename_i hkeys
            split at h
            · rename_i E2 π2 hv
              split at h
              · rename_i hne
                injection h with h; injection h with h1 h2; subst h1
                intro S w0 μ a w hst hcl _ K Q hK
                rw [wanted_iff hst hg hc]
                have happ : app o.dst { ob := impI i c E2.ob, v := .opt c d want E2.v } σ = ⟨setT o.dst (.opt c d want E2.v) σ.t, σ.o⟩ := app_noEff rfl
                cases c with
                | true =>
                  rw [if_pos rfl]
                  have hkey : ∀ i', i' ∈ tmpIds o.op.operands.toList → ∀ c0 d0 w0 a0, σ.t.getD i' .any = .opt c0 d0 w0 a0 → c0 = true := by
                    intro i' hi c0 d0 w0' a0 hs
                    have hi := tmpIds_mem.1 hi
                    have h1 := List.all_eq_true.1 hkeys _ hi
                    rw [show evV σ.t (.tmp i') = σ.t.getD i' .any from rfl, hs] at h1
                    simp only [keyIs, Bool.and_eq_true, beq_iff_eq] at h1
                    obtain ⟨rfl, rfl⟩ := h1
                    have hl := hloc i' (by simpa using hi) c0 d0 w0' a0 hs (mem_guard hg)
                    rw [hc] at hl; injection hl with hl; exact hl.symm
                  have hst2 : StM S w0 μ ⟨stripT (tmpIds o.op.operands.toList) σ.t, σ.o⟩ a w := hst.slots (by simp [stripT]) fun i' c v hc' hv' => by
                    rw [stripT_get, Option.map_eq_some_iff] at hc'
                    obtain ⟨c0, h0, rfl⟩ := hc'
                    have hr := hst.tmps i' c0 v h0 hv'
                    split
                    · rename_i hi
                      have hi : i' ∈ tmpIds o.op.operands.toList := by simpa using hi
                      cases c0 with
                      | opt c1 d1 w1 a1 => exact opt_rel hr (hkey i' hi c1 d1 w1 a1 (by rw [List.getD_eq_getElem?_getD, h0]; rfl))
                      | _ => exact hr
                    · exact hr
                  have hv2 : vop P o (evV (⟨stripT (tmpIds o.op.operands.toList) σ.t, σ.o⟩ : VS).t) (envOf (opKeys σ.t o.op) σ.o) π1 = some (E2, π2) := by
                    rw [← hv]; exact vop_congr fun x hx => evV_strip (by simpa using hx)
                  have hop := vop_ok (σ := ⟨stripT (tmpIds o.op.operands.toList) σ.t, σ.o⟩) (fun k b hk => (envOf_ok (opKeys σ.t o.op) σ) k b hk) hv2 (impI_ok rfl hob)
                  have hnn : E2.new.isSome = false := by
                    have := hne; unfold noEff at this; simp only [Bool.and_eq_true, Option.isNone_iff_eq_none] at this
                    rw [this.1.1.1]; rfl
                  refine hop S w0 μ a w hst2 (fun hn => by rw [hnn] at hn; cases hn) K Q fun a' w' hst' => hK a' w' ?_
                  rw [happ]
                  rw [app_noEff hne] at hst'
                  refine StM.ofWeaker hst' rfl (by simp [len_setT', stripT]) fun i' c1 c2 h1 h2 μ' X' w2 v hr => ?_
                  dsimp only at h1 h2
                  by_cases hd : o.dst = some i'
                  · rw [hd] at h1 h2
                    simp only [setT, List.getElem?_set, if_true] at h1 h2
                    split at h1
                    · split at h2
                      · injection h1 with h1; injection h2 with h2; subst h1 h2
                        exact .opt (fun _ => hr) (by intro h; cases h)
                      · cases h2
                    · cases h1
                  · have e1 : (setT o.dst E2.v (stripT (tmpIds o.op.operands.toList) σ.t))[i']? = (stripT (tmpIds o.op.operands.toList) σ.t)[i']? := by
                      cases hdd : o.dst with
                      | none => rfl
                      | some d' => simp only [setT, List.getElem?_set]; rw [if_neg (by rintro rfl; exact hd hdd)]
                    have e2 : (setT o.dst (AV.opt true d want E2.v) σ.t)[i']? = σ.t[i']? := by
                      cases hdd : o.dst with
                      | none => rfl
                      | some d' => simp only [setT, List.getElem?_set]; rw [if_neg (by rintro rfl; exact hd hdd)]
                    rw [e1, stripT_get, Option.map_eq_some_iff] at h1
                    rw [e2] at h2
                    obtain ⟨c0, h0, rfl⟩ := h1
                    rw [h0] at h2; injection h2 with h2; subst h2
                    split at hr
                    · rename_i hi
                      have hi : i' ∈ tmpIds o.op.operands.toList := by simpa using hi
                      cases c0 with
                      | opt c1 d1 w1 a1 =>
                        have := hkey i' hi c1 d1 w1 a1 (by rw [List.getD_eq_getElem?_getD, h0]; rfl)
                        exact .opt (fun _ => hr) (fun h0' => by rw [this] at h0'; cases h0')
                      | _ => exact hr
                    · exact hr
                | false =>
                  rw [if_neg (by simp)]
                  refine hK _ _ ?_
                  rw [happ]
                  exact ⟨μ, hst.put o.dst (.opt (by intro h; cases h) (fun _ => rfl))⟩
              · cases h
            · cases h
          · cases h
      · cases h
    · exact vstep_ok (plainS_eq h).1 hob
  · rename_i k π1
    split at h
    · rename_i hg
      split at h
      · rename_i c x y ho
        split at h
        · rename_i r hp
          injection h with h; injection h with h1 h2; subst h1
          have hgn := guardV_none hg
          intro S w0 μ a w hst hcl _ K Q hK
          rw [if_pos (by simp [Region.wanted, hgn])]
          exact opS_val (P := P) (o := o) (σ := σ) (ob := []) (v := .lit (.bool r)) (fun S2 w2 μ2 ac w3 hst2 =>
            ⟨.bool r, by rw [pickO_val hst2 ho hloc (fun d' w' e => by cases e) hp]; simp, .pure (.lit _)⟩) S w0 μ a w hst hcl K Q hK
        · cases h
      · exact vstep_ok (plainS_eq h).1 hob
    · exact vstep_ok (plainS_eq h).1 hob
  · rename_i ren out r o' π1
    split at h
    · rename_i hg
      split at h
      · rename_i fo args ats ho
        have hgn := guardV_none hg
        intro S w0 μ a w hst _ hfr K Q hK
        rw [if_pos (by simp [Region.wanted, hgn])]
        exact vCallM_ok ho (plainS_eq h).1 hob S w0 μ a w hst hfr K Q hK
      · rename_i recv name args ats ho
        have hgn := guardV_none hg
        intro S w0 μ a w hst _ hfr K Q hK
        rw [if_pos (by simp [Region.wanted, hgn])]
        exact vInvM_ok ho (plainS_eq h).1 hob S w0 μ a w hst hfr K Q hK
      · exact vstep_ok (plainS_eq h).1 hob
    · exact vstep_ok (plainS_eq h).1 hob
  · rename_i ren out r o' π1
    split at h
    · rename_i d want hg
      obtain ⟨j, oj, hgd, hj, hd⟩ := guardV_some hg
      split at h
      · rename_i b hb
        split at h
        · rename_i fo args ats ho
          obtain ⟨E0, h0, rfl⟩ := addOb_eq (plainS_eq h).1
          intro S w0 μ a w hst _ hfr K Q hK
          have hy := yielded_lit hst hj hd hb
          have hbw := hob.1
          rw [if_pos (by simp [Region.wanted, hgd, hy, hbw])]
          exact vCallM_ok ho h0 hob.2 S w0 μ a w hst hfr K Q hK
        · rename_i recv name args ats ho
          obtain ⟨E0, h0, rfl⟩ := addOb_eq (plainS_eq h).1
          intro S w0 μ a w hst _ hfr K Q hK
          have hy := yielded_lit hst hj hd hb
          have hbw := hob.1
          rw [if_pos (by simp [Region.wanted, hgd, hy, hbw])]
          exact vInvM_ok ho h0 hob.2 S w0 μ a w hst hfr K Q hK
        · exact vstep_ok (plainS_eq h).1 hob
      · exact vstep_ok (plainS_eq h).1 hob
    · exact vstep_ok (plainS_eq h).1 hob
  · exact vstep_ok (plainS_eq h).1 hob
theorem Sees.env {ops : Array Oper} {o : Oper} {σ σ' : VS} (h : Sees ops o σ σ') : envOf (opKeys σ.t o.op) σ.o = envOf (opKeys σ'.t o.op) σ'.o := by
  rw [← h.keys]
  funext k
  unfold envOf
  split
  · rename_i hk; exact h.o k (by simpa using hk)
  · rfl
theorem renChk_congr {ren out : List (Nat × Nat)} {o o' : List (Nat × Blk)} (h0 : look o rk = look o' rk) (h : ∀ k ∈ ren.map (·.1), look o k = look o' k) : renChk ren out o = renChk ren out o' := by
  unfold renChk
  have : ∀ l : List (Nat × Nat), (∀ k ∈ l.map (·.1), look o k = look o' k) → l.all (fun p => (look o p.1).isSome && (Nat.blt p.1 pinB || Nat.ble pinB p.2)) = l.all (fun p => (look o' p.1).isSome && (Nat.blt p.1 pinB || Nat.ble pinB p.2)) := by
    intro l
    induction l with
    | nil => intro _; rfl
    | cons p l ih => intro hh; rw [List.all_cons, List.all_cons, hh p.1 (by simp), ih fun k hk => hh k (by rw [List.map_cons]; exact List.mem_cons_of_mem _ hk)]
  rw [this ren h, h0]
theorem inO_congr {rn : Nat → Option Nat} {o o' : List (Nat × Blk)} : ∀ {l : List (Nat × Nat)}, (∀ k ∈ l.map (·.1), look o k = look o' k) → inO rn o l = inO rn o' l
  | [], _ => rfl
  | (a, b) :: l, h => by
    rw [inO, inO, h a (by simp), inO_congr fun k hk => h k (by rw [List.map_cons]; exact List.mem_cons_of_mem _ hk)]
theorem vsto_congr {P : Program} {ops : Array Oper} {o : Oper} {σ σ' : VS} {π : List PI} (h : Sees ops o σ σ') (hx : ∀ k ∈ seenK o π, look σ.o k = look σ'.o k) : vsto P ops o σ π = vsto P ops o σ' π := by
  have hx2 : isCal o = true → ∀ k ∈ seenK0 π, look σ.o k = look σ'.o k := fun hc k hk => hx k (by unfold seenK; rw [hc]; exact hk)
  have hv : ∀ π, vop P o (fun x => (evV σ.t x).strip) (envOf (opKeys σ.t o.op) σ.o) π = vop P o (fun x => (evV σ'.t x).strip) (envOf (opKeys σ'.t o.op) σ'.o) π := by
    intro π; rw [h.env]; exact vop_congr fun x hx => by rw [h.ev x hx]
  have hkk : ∀ d w, o.op.operands.toList.all (fun x => keyIs d w (evV σ.t x)) = o.op.operands.toList.all (fun x => keyIs d w (evV σ'.t x)) := by
    intro d w
    have : ∀ l : List Operand, (∀ x ∈ l, evV σ.t x = evV σ'.t x) → l.all (fun x => keyIs d w (evV σ.t x)) = l.all (fun x => keyIs d w (evV σ'.t x)) := by
      intro l
      induction l with
      | nil => intro _; rfl
      | cons a l ih => intro hh; rw [List.all_cons, List.all_cons, hh a (by simp), ih fun x hx => hh x (by simp [hx])]
    exact this _ fun x hx => h.ev x (by simpa using hx)
  have hp : ∀ c x y g k, o.op = .pick c x y → vPickO c x y (evV σ.t) g k = vPickO c x y (evV σ'.t) g k := by
    intro c x y g k ho
    unfold vPickO
    rw [h.ev c (by simp [ho, Op.operands]), h.ev x (by simp [ho, Op.operands]), h.ev y (by simp [ho, Op.operands])]
  have hgg : guardV ops o σ'.t = guardV ops o σ.t := rfl
  have hpl : ∀ π, plainS (vstep P ops o σ π) = plainS (vstep P ops o σ' π) := fun π => by rw [vstep_congr h]
  cases π with
  | nil => exact hpl _
  | cons p π' =>
    cases p with
    | op i =>
      unfold vsto
      dsimp only
      rw [hgg]
      cases hg : guardV ops o σ.t with
      | none => exact hpl _
      | some q =>
        cases q with
        | none => exact hpl _
        | some q =>
          obtain ⟨d, want⟩ := q
          dsimp only
          rw [h.t d (mem_guard hg)]
          cases guardC (σ'.t.getD d .any) want with
          | none => rfl
          | some c =>
            dsimp only
            split
            · rename_i ho
              split
              · rw [hp _ _ _ _ _ ho]
              · rfl
            · rw [hv, hkk]
    | sel k =>
      unfold vsto
      dsimp only
      rw [hgg]
      split
      · split
        · rename_i ho; rw [hp _ _ _ _ _ ho]
        · exact hpl _
      · exact hpl _
    | callm ren out r o' =>
      unfold vsto
      dsimp only
      rw [hgg]
      split
      · split
        · rename_i fo args ats ho
          have h1 : evV σ.t fo = evV σ'.t fo := h.ev fo (by simp [ho, Op.operands, Call.operands])
          have h2 : args.toList.map (evV σ.t) = args.toList.map (evV σ'.t) := map_congr' fun x hx => h.ev x (by simp [ho, Op.operands, Call.operands]; right; simpa using hx)
          unfold vCallM vCallMA
          have hx := hx2 (by unfold isCal; rw [ho])
          rw [h1, h2, renChk_congr (hx rk (List.mem_cons_self ..)) (fun k hk => hx k (List.mem_cons_of_mem _ hk)), inO_congr (fun k hk => hx k (List.mem_cons_of_mem _ hk))]
        · rename_i recv name args ats ho
          have h1 : evV σ.t recv = evV σ'.t recv := h.ev recv (by simp [ho, Op.operands, Call.operands])
          have h2 : args.toList.map (evV σ.t) = args.toList.map (evV σ'.t) := map_congr' fun x hx => h.ev x (by simp [ho, Op.operands, Call.operands]; right; simpa using hx)
          unfold vInvM vCallMA
          have hx := hx2 (by unfold isCal; rw [ho])
          rw [h1, h2, renChk_congr (hx rk (List.mem_cons_self ..)) (fun k hk => hx k (List.mem_cons_of_mem _ hk)), inO_congr (fun k hk => hx k (List.mem_cons_of_mem _ hk))]
        · exact hpl _
      · exact hpl _
    | br bb =>
      cases bb with
      | false => exact hpl _
      | true => cases π' with
        | nil => exact hpl _
        | cons p2 π2 => cases p2 with
          | callm ren out r o' =>
            unfold vsto
            dsimp only
            rw [hgg]
            split
            · rename_i d want hg
              rw [h.t d (mem_guard hg)]
              split
              · split
                · rename_i fo args ats ho
                  have h1 : evV σ.t fo = evV σ'.t fo := h.ev fo (by simp [ho, Op.operands, Call.operands])
                  have h2 : args.toList.map (evV σ.t) = args.toList.map (evV σ'.t) := map_congr' fun x hx => h.ev x (by simp [ho, Op.operands, Call.operands]; right; simpa using hx)
                  unfold vCallM vCallMA
                  have hx := hx2 (by unfold isCal; rw [ho])
                  rw [h1, h2, renChk_congr (hx rk (List.mem_cons_self ..)) (fun k hk => hx k (List.mem_cons_of_mem _ hk)), inO_congr (fun k hk => hx k (List.mem_cons_of_mem _ hk))]
                · rename_i recv name args ats ho
                  have h1 : evV σ.t recv = evV σ'.t recv := h.ev recv (by simp [ho, Op.operands, Call.operands])
                  have h2 : args.toList.map (evV σ.t) = args.toList.map (evV σ'.t) := map_congr' fun x hx => h.ev x (by simp [ho, Op.operands, Call.operands]; right; simpa using hx)
                  unfold vInvM vCallMA
                  have hx := hx2 (by unfold isCal; rw [ho])
                  rw [h1, h2, renChk_congr (hx rk (List.mem_cons_self ..)) (fun k hk => hx k (List.mem_cons_of_mem _ hk)), inO_congr (fun k hk => hx k (List.mem_cons_of_mem _ hk))]
                · exact hpl _
              · exact hpl _
            · exact hpl _
          | _ => exact hpl _
    | _ => exact hpl _
/-- What a step leaves under a guard. -/
theorem vsto_key {P : Program} {ops : Array Oper} {o : Oper} {σ : VS} {π π' : List PI} {E : Eff} (h : vsto P ops o σ π = some (E, π')) : ∀ c d w a, E.v = .opt c d w a → guardC (σ.t.getD d .any) w = some c := by
  intro c d w a hE
  unfold vsto at h
  split at h
  · split at h
    · split at h
      · rename_i c' hc
        split at h
        · split at h
          · split at h
            · injection h with h; injection h with h1 h2; subst h1
              simp only [AV.opt.injEq] at hE
              obtain ⟨rfl, rfl, rfl, _⟩ := hE; exact hc
            · cases h
          · cases h
        · split at h
          · split at h
            · split at h
              · injection h with h; injection h with h1 h2; subst h1
                simp only [AV.opt.injEq] at hE
                obtain ⟨rfl, rfl, rfl, _⟩ := hE; exact hc
              · cases h
            · cases h
          · cases h
      · cases h
    · exact absurd hE ((plainS_eq h).2 c d w a)
  · split at h
    · split at h
      · split at h
        · injection h with h; injection h with h1 h2; subst h1; cases hE
        · cases h
      · exact absurd hE ((plainS_eq h).2 c d w a)
    · exact absurd hE ((plainS_eq h).2 c d w a)
  · split at h
    · split at h <;> exact absurd hE ((plainS_eq h).2 c d w a)
    · exact absurd hE ((plainS_eq h).2 c d w a)
  · split at h
    · split at h
      · split at h <;> exact absurd hE ((plainS_eq h).2 c d w a)
      · exact absurd hE ((plainS_eq h).2 c d w a)
    · exact absurd hE ((plainS_eq h).2 c d w a)
  · exact absurd hE ((plainS_eq h).2 c d w a)
/-- The slot that is written is no guard of what is there. -/
def okDst (σ : VS) (o : Oper) (E : Eff) : Bool := match o.dst with
  | none => true
  | some e => (σ.t.all fun a => match a with | .opt _ d _ _ => d != e | _ => true) && (match E.v with | .opt _ d _ _ => d != e | _ => true)
theorem keyed_app {σ : VS} {o : Oper} {E : Eff} (hk : keyed σ) (hv : ∀ c d w a, E.v = .opt c d w a → guardC (σ.t.getD d .any) w = some c) (hd : okDst σ o E = true) : keyed (app o.dst E σ) := by
  intro i c d w a h
  have ht : (app o.dst E σ).t = setT o.dst E.v σ.t := rfl
  rw [ht] at h ⊢
  unfold okDst at hd
  cases ho : o.dst with
  | none => rw [ho] at h; exact hk i c d w a h
  | some e =>
    rw [ho] at h hd
    simp only [Bool.and_eq_true] at hd
    obtain ⟨hd1, hd2⟩ := hd
    have keep : d ≠ e → (setT (some e) E.v σ.t).getD d .any = σ.t.getD d .any := fun hne => by
      simp only [setT, List.getD_eq_getElem?_getD, List.getElem?_set]; rw [if_neg (Ne.symm hne)]
    simp only [setT, List.getD_eq_getElem?_getD, List.getElem?_set] at h
    split at h
    · rename_i hei
      split at h
      · simp only [Option.getD_some] at h
        have := hv c d w a h
        rw [h] at hd2
        rw [keep (by simpa using hd2)]; exact this
      · cases h
    · have h' : σ.t.getD i .any = .opt c d w a := by rw [List.getD_eq_getElem?_getD]; exact h
      have hlt : i < σ.t.length := by
        by_cases hlt : i < σ.t.length
        · exact hlt
        · rw [List.getD_eq_getElem?_getD, List.getElem?_eq_none (Nat.le_of_not_lt hlt)] at h'; cases h'
      have hm : AV.opt c d w a ∈ σ.t := by
        rw [List.getD_eq_getElem?_getD, List.getElem?_eq_getElem hlt, Option.getD_some] at h'
        rw [← h']; exact List.getElem_mem hlt
      have hne := List.all_eq_true.1 hd1 _ hm
      rw [keep (by simpa using hne)]
      exact hk i c d w a h'
/-- Nothing is there under a guard any more. -/
def AV.unopt : AV → AV
  | .opt _ _ _ _ => .any
  | a => a
def regS (ks : List Nat) (σ : VS) : VS := ⟨(purgeS ks σ).t.map AV.unopt, (purgeS ks σ).o⟩
theorem regS_keyed (ks : List Nat) (σ : VS) : keyed (regS ks σ) := by
  intro i c d w a h
  exfalso
  unfold regS at h
  dsimp only at h
  rw [List.getD_eq_getElem?_getD, List.getElem?_map] at h
  cases hx : (purgeS ks σ).t[i]? with
  | none => rw [hx] at h; cases h
  | some x => rw [hx] at h; simp only [Option.map_some, Option.getD_some] at h; cases x <;> cases h
theorem St.reg {S : Ex} {w0 : Base} {w : World} {σ : VS} {a : Act} (h : St S w0 σ a w) (ks : List Nat) (hlow : lowK ks = true) : St S w0 (regS ks σ) a w :=
  StM.ofWeaker (h.purge ks hlow) rfl (by simp [regS]) fun i c c' h1 h2 μ X w v hr => by
    unfold regS at h2
    dsimp only at h2
    rw [List.getElem?_map, h1] at h2
    simp only [Option.map_some, Option.some.injEq] at h2
    subst h2
    cases c <;> first | exact hr | exact .any _
theorem reg_clean (ks : List Nat) (σ : VS) (d : Nat) (hd : ks.contains d = true) (hdr : d ≠ rk) : Clean d (regS ks σ) := by
  have h := purge_clean ks σ d hd hdr
  refine ⟨fun i c hc => ?_, h.o, h.n⟩
  unfold regS at hc
  dsimp only at hc
  rw [List.getElem?_map, Option.map_eq_some_iff] at hc
  obtain ⟨x, hx, rfl⟩ := hc
  have := h.t i x hx
  cases x <;> first | exact this | rfl
end Go.Proofs.YtdmkhinckljddaaGreat
namespace Go.Proofs.YtdmkhinckljddaaGreat
open Go.RowKit

/-! ### Rounds of ranges over functions -/
/-- No fence, in a round of a loop, or in none. -/
def WF (ro : Option Nat) : Fence := { Fence.wide with round := ro }
theorem callsIn_wf {ro : Option Nat} {n : Nat} {P : Program} {f : FuncId} {args : Array Value} {w : World} {R : Ending → World → Prop} (h : Calls P f args w R) : CallsIn (WF ro) n P f args w R :=
  callsIn_wide (n := n).2 h
def isDef : Op → Bool
  | .defer _ => true
  | _ => false
theorem wpIn_of_wp {ro : Option Nat} {P : Program} {o : Oper} {a : Act} {w : World} {K : Act → World → Prop} {Q : Exit → Act → World → Prop} (hnd : isDef o.op = false) (h : o.wp P a w K Q) : o.wpIn (WF ro) 0 P a w K Q := by
  refine ⟨fun _ _ => trivial, ?_⟩
  have hn : ∀ c, o.op ≠ .defer c := by intro c hc; rw [hc] at hnd; cases hnd
  rw [Oper.semAt_eq _ _ _ hn]
  unfold Oper.wp at h
  generalize (execOp a.eval o).run P w = r at *
  cases r with
  | ok x w' =>
    cases x with
    | value v => exact h
    | skip => exact h
    | defer d => exact h
    | enter f args => exact ⟨fun hd => (by cases hd), callsIn_wf h⟩
    | row row args =>
      refine ⟨fun hd => (by cases hd), fun c cs _ => ?_⟩
      obtain ⟨v, w2, hr, hs⟩ := h c cs
      exact ⟨v, w2, hr, stepsIn_wide.2 hs⟩
    | _ => exact h.elim
  | halt x w' => cases x <;> exact h
def StepI (P : Program) (ops : Array Oper) (o : Oper) (σ : VS) (E : Eff) : Prop :=
  ∀ (ro : Option Nat) S w0 μ a w, StM S w0 μ σ a w → (E.new.isSome = true → ∃ d, o.dst = some d ∧ Clean d σ) → (∀ k ∈ E.fresh, Clean k σ) → ∀ K Q, (∀ a' w', St S w0 (app o.dst E σ) a' w' → K a' w') →
    if Region.wanted o (yielded ops a.tmps) then o.wpIn (WF ro) 0 P a w K Q else K (a.put o.dst undef) w
theorem StepS.toI {P : Program} {ops : Array Oper} {o : Oper} {σ : VS} {E : Eff} (hnd : isDef o.op = false) (h : StepS P ops o σ E) : StepI P ops o σ E := by
  intro ro S w0 μ a w hst hcl hfr K Q hK
  have := h S w0 μ a w hst hcl hfr K Q hK
  split
  · rename_i hw; rw [if_pos hw] at this; exact wpIn_of_wp hnd this
  · rename_i hw; rw [if_neg hw] at this; exact this
/-- The loop kl's function, called with these values while these blocks are there, gives that value and leaves those blocks. -/
def VY (P : Program) (kl : Nat) (args : List AV) (o : List (Nat × Blk)) (r : AV) (o' : List (Nat × Blk)) : Prop :=
  ∀ (S : Ex) (β : Base) (μ : Nat → Option OI) (w : World) (xs : List Value), Mem S β μ o w → xs.length = args.length → (∀ (i : Nat) (c : AV) (v : Value), args[i]? = some c → xs[i]? = some v → Rel μ (XOf S μ) w c v) →
    ∀ oi g, β.pins kl = some oi → oi.g = some g → ∃ f ts asg body, (Instr.yield g xs.toArray).run P w = .ok (.round g f ts asg body) w ∧ RoundIn Fence.wide 0 P g f ts asg body w fun e w' => ∃ x μ', e = .returned x ∧ Mem S β μ' o' w' ∧ Rel μ' (XOf S μ') w' r x
def vCallY (P : Program) (fo : Operand) (args : Array Operand) (ρ : Operand → AV) (o : List (Nat × Blk)) (ren out : List (Nat × Nat)) (r : AV) (o' : List (Nat × Blk)) (π : List PI) : Option (Eff × List PI) := match ρ fo with
  | .yl k => match look2 ren k with
    | some k' => match Nat.ble pinB k' && renChk ren out o && dist (o'.map (·.1)) with
      | true => some ({ ob := [VY P k' ((args.toList.map ρ).map (AV.map (mpo (look2 ren)) (mpp (look2 ren)))) (inO (look2 ren) o ren) r o'], v := r.map (mpo (outFn ren out)) (mpp (outFn ren out)), acts := dropsA ren ++ putsA (outFn ren out) o', fresh := out.map (·.2) }, π)
      | false => none
    | none => none
  | _ => none
theorem vCallY_ok {P : Program} {o : Oper} {fo : Operand} {args : Array Operand} {ats : Array TypeId} {σ : VS} {π π' : List PI} {E : Eff} {ren out : List (Nat × Nat)} {r : AV} {o' : List (Nat × Blk)} (ho : o.op = .call { callee := .value fo, args := args, argTypes := ats })
    (h : vCallY P fo args (evV σ.t) σ.o ren out r o' π = some (E, π')) (hob : All E.ob) : ∀ ro S w0 μ a w, StM S w0 μ σ a w → (∀ k ∈ E.fresh, Clean k σ) → ∀ K Q, (∀ a' w', St S w0 (app o.dst E σ) a' w' → K a' w') → o.wpIn (WF ro) 0 P a w K Q := by
  unfold vCallY at h
  split at h
  · rename_i k hfo
    split at h
    · rename_i k' hk'
      split at h
      · rename_i hchk
        injection h with h; injection h with h1 h2; subst h1
        simp only [Bool.and_eq_true] at hchk
        obtain ⟨⟨hpin, hren⟩, hdist⟩ := hchk
        have hpin : pinB ≤ k' := Nat.le_of_ble_eq_true hpin
        have hrc := renChk_ok hren
        obtain ⟨hvy, _⟩ := hob
        intro ro S w0 μ a w hst hfr K Q hK
        have hR := hrc.ren (σ := σ)
        have hO := hrc.out hfr
        have hent := Mem.enter hst hR (oK := inO (look2 ren) σ.o ren) (fun k' => look_inO _ _ k' fun p hp => (hrc.r p hp).1)
        -- the function's value
        obtain ⟨b0, hb0⟩ := hR.live k k' hk'
        obtain ⟨oi, hoi, _⟩ := hst.blks k b0 hb0
        have ef := hst.eval fo
        rw [hfo] at ef
        generalize hu : a.eval fo = u at ef
        have hg : ∃ g, u = .func (.yield g) #[] #[] ∧ oi.g = some g := by
          cases ef with
          | pure hp => cases hp
          | yl h1 hg => rw [hoi] at h1; injection h1 with h1; subst h1; exact ⟨_, rfl, hg⟩
          | deadY _ hn => rw [hoi] at hn; cases hn
        obtain ⟨g, rfl, hg⟩ := hg
        have hpins : (baseK (look2 ren) (look2i ren) μ w).pins k' = some oi := by
          unfold baseK; dsimp only; rw [if_pos hpin]; unfold muK
          rw [hR.to k k' hk']; exact hoi
        obtain ⟨f, ts, asg, body, hy, hrnd⟩ := hvy _ _ _ w (args.toList.map a.eval) hent (by simp) (fun i c v hc hv => by
          rw [List.getElem?_map, Option.map_eq_some_iff] at hc
          obtain ⟨c0, hc0, rfl⟩ := hc
          rw [List.getElem?_map, Option.map_eq_some_iff] at hc0 hv
          obtain ⟨x0, hx0, rfl⟩ := hc0
          obtain ⟨x1, hx1, rfl⟩ := hv
          rw [hx0] at hx1; injection hx1 with hx1; subst hx1
          exact inK (β := w0) hR (hst.eval x0)) oi g hpins hg
        refine ⟨fun _ _ => trivial, ?_⟩
        rw [Oper.semAt_eq _ _ _ (by simp [ho])]
        have hrun : (execOp a.eval o).run P w = .ok (.round g f ts asg body) w := by
          have hap : Array.map a.eval args = (args.toList.map a.eval).toArray := by rw [← Array.toList_map]
          simp only [execOp, ho, resolve, hu, Deferred.ofValue, Sem.run_bind, Sem.run_pure, Result.andThen_ok, invoke, Array.append_empty, Array.empty_append, hap, hy]
        rw [hrun, Oper.uponIn_round]
        refine ⟨fun hd => (by cases hd), RoundIn.mono (R := fun e w' => ∃ x μ', e = .returned x ∧ Mem (kept S (look2 ren) μ) (baseK (look2 ren) (look2i ren) μ w) μ' o' w' ∧ Rel μ' (XOf (kept S (look2 ren) μ) μ') w' r x) hrnd fun e w' hx => ?_⟩
        obtain ⟨x, μ', rfl, hm, hrel⟩ := hx
        obtain ⟨l1, l2⟩ := Mem.leave hst hR hO (newO := actsO (dropsA ren ++ putsA (outFn ren out) o') σ.o) hm (fun k => by
          rw [actsO_app, look_puts hO.to hO.fro k o' _ hdist]
          cases hi : outIn ren out k with
          | none => exact look_drops k ren σ.o
          | some k' =>
            dsimp only
            cases hl' : look o' k' with
            | some b => rfl
            | none =>
              dsimp only
              rw [look_drops]
              cases e : look2 ren k with
              | some _ => rfl
              | none =>
                dsimp only
                unfold outIn at hi
                cases e2 : look2i out k with
                | some j => exact (hfr k (List.mem_map.2 ⟨_, look2i_mem e2, rfl⟩)).n
                | none => rw [e2] at hi; dsimp only at hi; rw [e] at hi; cases hi)
        exact hK _ _ ⟨_, l1.put o.dst (l2 r x hrel)⟩
      · cases h
    · cases h
  · cases h
theorem vRg_congr {P : Program} {o : Oper} {r : List AV} {ρ ρ' : Operand → AV} {env : Env} {π : List PI} (h : ∀ x ∈ o.op.operands, ρ x = ρ' x) : vRg P o r ρ env π = vRg P o r ρ' env π := by
  unfold vRg
  split
  · rename_i t x y u ho; rw [h x (by simp [ho, Op.operands]), h y (by simp [ho, Op.operands])]
  · rename_i t x i ho; rw [h x (by simp [ho, Op.operands]), h i (by simp [ho, Op.operands])]
  · rename_i s x f ho; rw [h x (by simp [ho, Op.operands])]
  · rename_i t x ho; rw [h x (by simp [ho, Op.operands])]
  · rename_i t x y ho; rw [h x (by simp [ho, Op.operands]), h y (by simp [ho, Op.operands])]
  · rename_i x t ho; rw [h x (by simp [ho, Op.operands, Call.operands])]
  · rfl
def orV (a b : Option (Eff × List PI)) : Option (Eff × List PI) := match a with
  | some x => some x
  | none => b
theorem orV_cases {a b : Option (Eff × List PI)} {x : Eff × List PI} (h : orV a b = some x) : a = some x ∨ b = some x := by
  cases a with
  | some y => exact .inl h
  | none => exact .inr h
def vstp (P : Program) (ops : Array Oper) (o : Oper) (σ : VS) (π : List PI) : Option (Eff × List PI) := match isDef o.op with
  | true => none
  | false => match π with
    | .cally ren out r o' :: π' => match guardV ops o σ.t with
      | some none => match o.op with
        | .call ⟨.value fo, args, _⟩ => plainS (vCallY P fo args (evV σ.t) σ.o ren out r o' π')
        | _ => vsto P ops o σ π
      | _ => vsto P ops o σ π
    | .rg r :: π' => match guardV ops o σ.t with
      | some none => orV (plainS (vRg P o r (evV σ.t) (envOf (opKeys σ.t o.op) σ.o) π')) (vsto P ops o σ π)
      | _ => vsto P ops o σ π
    | .callf as r reg :: π' => match guardV ops o σ.t with
      | some none => match o.op with
        | .call ⟨.value fo, args, _⟩ => orV (plainS (vCallF P fo args (evV σ.t) (envOf (opKeys σ.t o.op) σ.o) as r reg π')) (vsto P ops o σ π)
        | _ => vsto P ops o σ π
      | _ => vsto P ops o σ π
    | _ => vsto P ops o σ π
theorem vstp_cases {P : Program} {ops : Array Oper} {o : Oper} {σ : VS} {π π' : List PI} {E : Eff} (h : vstp P ops o σ π = some (E, π')) : isDef o.op = false ∧ ((∃ ren out r o' π1 fo args ats, π = .cally ren out r o' :: π1 ∧ guardV ops o σ.t = some none ∧ o.op = .call ⟨.value fo, args, ats⟩ ∧ plainS (vCallY P fo args (evV σ.t) σ.o ren out r o' π1) = some (E, π')) ∨ vsto P ops o σ π = some (E, π') ∨
    (∃ r π1, guardV ops o σ.t = some none ∧ plainS (vRg P o r (evV σ.t) (envOf (opKeys σ.t o.op) σ.o) π1) = some (E, π')) ∨
    ∃ as r reg π1 fo args ats, guardV ops o σ.t = some none ∧ o.op = .call ⟨.value fo, args, ats⟩ ∧ plainS (vCallF P fo args (evV σ.t) (envOf (opKeys σ.t o.op) σ.o) as r reg π1) = some (E, π')) := by
  unfold vstp at h
  split at h
  · cases h
  · rename_i hd
    refine ⟨hd, ?_⟩
    split at h
    · split at h
      · rename_i hg
        split at h
        · rename_i ho; exact .inl ⟨_, _, _, _, _, _, _, _, rfl, hg, ho, h⟩
        · exact .inr (.inl h)
      · exact .inr (.inl h)
    · split at h
      · rename_i hg
        rcases orV_cases h with h | h
        · exact .inr (.inr (.inl ⟨_, _, hg, h⟩))
        · exact .inr (.inl h)
      · exact .inr (.inl h)
    · split at h
      · rename_i hg
        split at h
        · rename_i ho
          rcases orV_cases h with h | h
          · exact .inr (.inr (.inr ⟨_, _, _, _, _, _, _, hg, ho, h⟩))
          · exact .inr (.inl h)
        · exact .inr (.inl h)
      · exact .inr (.inl h)
    · exact .inr (.inl h)
theorem vstp_ok {P : Program} {ops : Array Oper} {o : Oper} {σ : VS} {π π' : List PI} {E : Eff} (hloc : KeyLoc ops o σ) (h : vstp P ops o σ π = some (E, π')) (hob : All E.ob) : StepI P ops o σ E := by
  obtain ⟨hd, ⟨ren, out, r, o', π1, fo, args, ats, rfl, hg, ho, h1⟩ | h1 | ⟨r, π1, hg, h1⟩ | ⟨as, r, reg, π1, fo, args, ats, hg, ho, h1⟩⟩ := vstp_cases h
  · have hgn := guardV_none hg
    intro ro S w0 μ a w hst _ hfr K Q hK
    rw [if_pos (by simp [Region.wanted, hgn])]
    exact vCallY_ok ho (plainS_eq h1).1 hob ro S w0 μ a w hst hfr K Q hK
  · exact (vsto_ok hloc h1 hob).toI hd
  · have hgn := guardV_none hg
    refine StepS.toI hd fun S w0 μ a w hst hcl hfr K Q hK => ?_
    rw [if_pos (by simp [Region.wanted, hgn])]
    exact vRg_ok (envOf_ok _ _) (plainS_eq h1).1 hob S w0 μ a w hst hcl K Q hK
  · have hgn := guardV_none hg
    refine StepS.toI hd fun S w0 μ a w hst hcl hfr K Q hK => ?_
    rw [if_pos (by simp [Region.wanted, hgn])]
    exact vCallF_ok ho (envOf_ok _ _) (plainS_eq h1).1 hob S w0 μ a w hst hfr K Q hK
theorem vstp_key {P : Program} {ops : Array Oper} {o : Oper} {σ : VS} {π π' : List PI} {E : Eff} (h : vstp P ops o σ π = some (E, π')) : ∀ c d w a, E.v = .opt c d w a → guardC (σ.t.getD d .any) w = some c := by
  obtain ⟨_, ⟨ren, out, r, o', π1, fo, args, ats, rfl, hg, ho, h1⟩ | h1 | ⟨r, π1, hg, h1⟩ | ⟨as, r, reg, π1, fo, args, ats, hg, ho, h1⟩⟩ := vstp_cases h
  · exact fun c d w a e => absurd e ((plainS_eq h1).2 c d w a)
  · exact vsto_key h1
  · exact fun c d w a e => absurd e ((plainS_eq h1).2 c d w a)
  · exact fun c d w a e => absurd e ((plainS_eq h1).2 c d w a)
theorem vstp_congr {P : Program} {ops : Array Oper} {o : Oper} {σ σ' : VS} {π : List PI} (h : Sees ops o σ σ') (hx : ∀ k ∈ seenK o π, look σ.o k = look σ'.o k) : vstp P ops o σ π = vstp P ops o σ' π := by
  unfold vstp
  split
  · rfl
  · split
    · rename_i ren out r o' π1
      have hg : guardV ops o σ.t = guardV ops o σ'.t := rfl
      rw [hg]
      split
      · split
        · rename_i fo args ats ho
          have hx2 : ∀ k ∈ rk :: ren.map (·.1), look σ.o k = look σ'.o k := fun k hk => hx k (by unfold seenK isCal; rw [ho]; exact hk)
          have h1 : evV σ.t fo = evV σ'.t fo := h.ev fo (by simp [ho, Op.operands, Call.operands])
          have h2 : args.toList.map (evV σ.t) = args.toList.map (evV σ'.t) := map_congr' fun x hx => h.ev x (by simp [ho, Op.operands, Call.operands]; right; simpa using hx)
          unfold vCallY
          rw [h1, h2, renChk_congr (hx2 rk (List.mem_cons_self ..)) (fun k hk => hx2 k (List.mem_cons_of_mem _ hk)), inO_congr (fun k hk => hx2 k (List.mem_cons_of_mem _ hk))]
        · exact vsto_congr h hx
      · exact vsto_congr h hx
    · have hg : guardV ops o σ.t = guardV ops o σ'.t := rfl
      rw [hg, h.env]
      split
      · rw [vRg_congr fun x hx => h.ev x hx, vsto_congr h hx]
      · exact vsto_congr h hx
    · have hg : guardV ops o σ.t = guardV ops o σ'.t := rfl
      rw [hg, h.env]
      split
      · split
        · rename_i fo args ats ho
          have h1 : evV σ.t fo = evV σ'.t fo := h.ev fo (by simp [ho, Op.operands, Call.operands])
          have h2 : args.toList.map (evV σ.t) = args.toList.map (evV σ'.t) := map_congr' fun x hx => h.ev x (by simp [ho, Op.operands, Call.operands]; right; simpa using hx)
          unfold vCallF
          rw [h1, h2, vsto_congr h hx]
        · exact vsto_congr h hx
      · exact vsto_congr h hx
    · exact vsto_congr h hx
end Go.Proofs.YtdmkhinckljddaaGreat
namespace Go.Proofs.YtdmkhinckljddaaGreat
open Go.RowKit

/-- Two states that hold the same. -/
def VEq (σ σ' : VS) : Prop := σ.t = σ'.t ∧ ∀ k, look σ.o k = look σ'.o k
theorem VEq.refl (σ : VS) : VEq σ σ := ⟨rfl, fun _ => rfl⟩
theorem VEq.trans {a b c : VS} (h : VEq a b) (g : VEq b c) : VEq a c := ⟨h.1.trans g.1, fun k => (h.2 k).trans (g.2 k)⟩
theorem VEq.symm {a b : VS} (h : VEq a b) : VEq b a := ⟨h.1.symm, fun k => (h.2 k).symm⟩
theorem StM.veq {S : Ex} {w0 : Base} {w : World} {μ : Nat → Option OI} {σ σ' : VS} {a : Act} (h : StM S w0 μ σ a w) (e : VEq σ σ') : StM S w0 μ σ' a w :=
  ⟨h.defers, by rw [← e.1]; exact h.size, by rw [← e.1]; exact h.tmps, fun k b hk => h.blks k b (by rw [e.2]; exact hk), fun k o hk => by rw [← e.2]; exact h.live k o hk, h.inj, h.below, h.old⟩
theorem St.veq {S : Ex} {w0 : Base} {w : World} {σ σ' : VS} {a : Act} (h : St S w0 σ a w) (e : VEq σ σ') : St S w0 σ' a w := let ⟨μ, h⟩ := h; ⟨μ, h.veq e⟩
theorem look_updO (u : Option (Nat × Blk)) (l : List (Nat × Blk)) (k : Nat) : look (updO u l) k = match u with | some (j, b) => if j = k then some b else look l k | none => look l k := by
  cases u with
  | none => rfl
  | some p => obtain ⟨j, b⟩ := p; exact look_put1 j k b l
/-- What the state's blocks read behind an effect. -/
def newK (d : Option Tmp) (n : Option Blk) : Option (Nat × Blk) := match n, d with
  | some b, some d => some (d, b)
  | _, _ => none
def app0 (d : Option Tmp) (E : Eff) (σ : VS) : List (Nat × Blk) := newO d E.new (updO E.upd (killO E.kill σ.o))
theorem app_o (d : Option Tmp) (E : Eff) (σ : VS) : (app d E σ).o = actsO E.acts (app0 d E σ) := rfl
theorem look_app (d : Option Tmp) (E : Eff) (σ : VS) (k : Nat) : look (app0 d E σ) k =
    match newK d E.new with
    | some (j, b) => if j = k then some b else (match E.upd with | some (j, b) => if j = k then some b else if E.kill = some k then none else look σ.o k | none => if E.kill = some k then none else look σ.o k)
    | none => (match E.upd with | some (j, b) => if j = k then some b else if E.kill = some k then none else look σ.o k | none => if E.kill = some k then none else look σ.o k) := by
  have h0 : look (updO E.upd (killO E.kill σ.o)) k = (match E.upd with | some (j, b) => if j = k then some b else if E.kill = some k then none else look σ.o k | none => if E.kill = some k then none else look σ.o k) := by
    rw [look_updO]; simp only [look_killO]
  unfold app0 newO newK
  cases E.new with
  | none => exact h0
  | some b => cases d with
    | none => exact h0
    | some d => dsimp only; rw [look_put1, h0]

structure ER where
  dst : Option Tmp
  E : Eff
  rd : List Tmp
  ks : List Nat
  kp : Option Nat
  sk : List Nat
def upKeys (x : ER) : List Nat := (match newK x.dst x.E.new with | some (d, _) => [d] | none => []) ++ (match x.E.upd with | some (k, _) => [k] | none => []) ++ (match x.E.kill with | some k => [k] | none => []) ++ x.E.acts.map (·.1)
theorem look_actsO_some {k : Nat} {b : Blk} : ∀ {a : List (Nat × Option Blk)} {o : List (Nat × Blk)}, look (actsO a o) k = some b → (∃ p ∈ a, p.2 = some b) ∨ look o k = some b
  | [], _, h => .inr h
  | (j, none) :: a, o, h => by
    rw [actsO] at h
    rcases look_actsO_some h with ⟨p, hp, e⟩ | h
    · exact .inl ⟨p, List.mem_cons_of_mem _ hp, e⟩
    · rw [look_drop1] at h
      split at h
      · cases h
      · exact .inr h
  | (j, some c) :: a, o, h => by
    rw [actsO] at h
    rcases look_actsO_some h with ⟨p, hp, e⟩ | h
    · exact .inl ⟨p, List.mem_cons_of_mem _ hp, e⟩
    · rw [look_put1] at h
      split at h
      · injection h with h; subst h; exact .inl ⟨(j, some c), by simp, rfl⟩
      · exact .inr h
theorem look_app_ne {x : ER} {σ : VS} {k : Nat} (h : k ∉ upKeys x) : look (app x.dst x.E σ).o k = look σ.o k := by
  unfold upKeys at h
  rw [List.mem_append, not_or] at h
  obtain ⟨h, ha⟩ := h
  rw [app_o, look_actsO_ne ha, look_app]
  cases hn : newK x.dst x.E.new with
  | none =>
    rw [hn] at h
    cases hu : x.E.upd with
    | none =>
      rw [hu] at h
      cases hk : x.E.kill with
      | none => simp
      | some k' => rw [hk] at h; simp at h; simp [Ne.symm h]
    | some p =>
      obtain ⟨j, b⟩ := p
      rw [hu] at h
      cases hk : x.E.kill with
      | none => rw [hk] at h; simp at h; simp [Ne.symm h]
      | some k' => rw [hk] at h; simp at h; simp [Ne.symm h.1, Ne.symm h.2]
  | some q =>
    obtain ⟨d, bb⟩ := q
    rw [hn] at h
    cases hu : x.E.upd with
    | none =>
      rw [hu] at h
      cases hk : x.E.kill with
      | none => rw [hk] at h; simp at h; simp [Ne.symm h]
      | some k' => rw [hk] at h; simp at h; simp [Ne.symm h.1, Ne.symm h.2]
    | some p =>
      obtain ⟨j, b⟩ := p
      rw [hu] at h
      cases hk : x.E.kill with
      | none => rw [hk] at h; simp at h; simp [Ne.symm h.1, Ne.symm h.2]
      | some k' => rw [hk] at h; simp at h; simp [Ne.symm h.1, Ne.symm h.2.1, Ne.symm h.2.2]
/-- At a key that is written, what is read depends on what was there alone. -/
theorem look_app_same {x : ER} {σ σ' : VS} {k : Nat} (h : look σ.o k = look σ'.o k) : look (app x.dst x.E σ).o k = look (app x.dst x.E σ').o k := by
  rw [app_o, app_o]; exact look_actsO_congr (by rw [look_app, look_app, h])
theorem getD_setT (d : Option Tmp) (c : AV) (t : List AV) (i : Nat) (h : d ≠ some i) : (setT d c t).getD i .any = t.getD i .any := by
  cases d with
  | none => rfl
  | some d => simp only [setT, List.getD_eq_getElem?_getD, List.getElem?_set]; rw [if_neg (by rintro rfl; exact h rfl)]
theorem getD_setT_same (d : Option Tmp) (c : AV) {t t' : List AV} (hl : t.length = t'.length) (i : Nat) (h : t.getD i .any = t'.getD i .any) : (setT d c t).getD i .any = (setT d c t').getD i .any := by
  cases d with
  | none => exact h
  | some d =>
    by_cases e : d = i
    · subst e
      simp only [setT, List.getD_eq_getElem?_getD, List.getElem?_set, if_true, hl]
    · rw [getD_setT _ _ _ _ (by simpa using e), getD_setT _ _ _ _ (by simpa using e)]; exact h
theorem len_setT (d : Option Tmp) (c : AV) (t : List AV) : (setT d c t).length = t.length := by cases d <;> simp [setT]

/-- The effect names the block d nowhere. -/
def avoids (d : Nat) (x : ER) : Bool := !(x.E.v.ment d) && (match x.E.new with | some b => !(b.ment d) | none => true) && (match x.E.upd with | some (_, b) => !(b.ment d) | none => true) && !((upKeys x).contains d) && x.E.acts.all (fun p => match p.2 with | some b => !(b.ment d) | none => true)
theorem Clean.app {d : Nat} {σ : VS} (h : Clean d σ) {x : ER} (ha : avoids d x = true) : Clean d (app x.dst x.E σ) := by
  unfold avoids at ha
  simp only [Bool.and_eq_true, Bool.not_eq_true'] at ha
  obtain ⟨⟨⟨⟨h1, h2⟩, h3⟩, h4⟩, h5⟩ := ha
  have h4 : d ∉ upKeys x := by simpa using h4
  refine ⟨fun i c hc => ?_, fun k b hk => ?_, by rw [look_app_ne h4]; exact h.n⟩
  · unfold Go.Proofs.YtdmkhinckljddaaGreat.app setT at hc
    dsimp only at hc
    split at hc
    · rw [List.getElem?_set] at hc
      split at hc
      · split at hc
        · injection hc with hc; rw [← hc]; exact h1
        · cases hc
      · exact h.t i c hc
    · exact h.t i c hc
  · rw [app_o] at hk
    rcases look_actsO_some hk with ⟨p, hp, hpb⟩ | hk
    · have := List.all_eq_true.1 h5 p hp
      rw [hpb] at this; simpa using this
    rw [look_app] at hk
    have rest : ∀ b, (match x.E.upd with | some (j, b) => if j = k then some b else if x.E.kill = some k then none else look σ.o k | none => if x.E.kill = some k then none else look σ.o k) = some b → b.ment d = false := by
      intro b hb
      split at hb
      · rename_i j b' hu
        rw [hu] at h3
        split at hb
        · injection hb with hb; subst hb; simpa using h3
        · split at hb
          · cases hb
          · exact h.o k b hb
      · split at hb
        · cases hb
        · exact h.o k b hb
    split at hk
    · rename_i j b' hn
      split at hk
      · injection hk with hk; subst hk
        unfold newK at hn
        split at hn
        · rename_i b2 d2 hn2 _
          injection hn with hn; injection hn with _ hn; subst hn
          rw [hn2] at h2; simpa using h2
        · cases hn
      · exact rest b hk
    · exact rest b hk

def creates : Op → Bool
  | .alloc _ => true
  | .box _ _ => true
  | .buildSlice _ _ _ => true
  | .makeSlice _ _ _ => true
  | .makeMap _ _ => true
  | .slice _ _ _ _ _ => true
  | .call ⟨.builtin .append, _, _⟩ => true
  | _ => false
def newKeys (ops : Array Oper) : List Nat := ops.toList.filterMap fun o => if creates o.op then o.dst else none

/-- The names that come back from calls. -/
def frK : List PI → List Nat
  | [] => []
  | .callm _ out _ _ :: l => out.map (·.2) ++ frK l
  | .cally _ out _ _ :: l => out.map (·.2) ++ frK l
  | _ :: l => frK l
/-- The block of which such an operation looks at the shape alone. -/
def skOf (o : Oper) (σ : VS) : List Nat := match o.guard, o.op with
  | none, .indexAddr _ x _ => match evV σ.t x with
    | .own k => [k]
    | _ => []
  | none, .move x => match evV σ.t x with
    | .own k => [k]
    | _ => []
  | none, .assign x => match evV σ.t x with
    | .own k => [k]
    | _ => []
  | _, _ => []
theorem vstp_shape_mv {P : Program} {ops : Array Oper} {o : Oper} {σ σ' : VS} {π π' : List PI} {E : Eff} {x : Operand} (hg : o.guard = none) (ho : o.op = .move x ∨ o.op = .assign x) (h : vop P o (evV σ.t) (envOf (opKeys σ.t o.op) σ.o) π = some (E, π')) (hob : All E.ob) (ht : ∀ d ∈ o.looksAt ops, σ.t.getD d .any = σ'.t.getD d .any) : StepS P ops o σ' E := by
  have hm : vMove x (evV σ.t) π = some (E, π') := by
    unfold vop at h
    rcases ho with ho | ho <;> (rw [ho] at h; exact h)
  have ex : evV σ'.t x = evV σ.t x := by
    cases x with
    | tmp d =>
      refine (ht d ?_).symm
      unfold Oper.looksAt
      rw [List.mem_append]; left
      rw [List.mem_filterMap]; exact ⟨.tmp d, by rcases ho with ho | ho <;> simp [ho, Op.operands], rfl⟩
    | _ => rfl
  have hop : OpS P o σ' E := vMove_ok (σ := σ') (π := π) (π' := π') ho (by unfold vMove at hm ⊢; rw [ex]; exact hm) hob
  have hnew : E.new = none := by
    unfold vMove at hm
    split at hm
    · split at hm
      · injection hm with hm; injection hm with h1 h2; subst h1; rfl
      · cases hm
    · injection hm with hm; injection hm with h1 h2; subst h1; rfl
  intro S w0 μ a w hst hcl _ K Q hK
  rw [if_pos (by simp [Region.wanted, hg])]
  exact hop S w0 μ a w hst (fun hn => by rw [hnew] at hn; cases hn) K Q hK
/-- The slice in whose place such an operation writes. -/
def kpOf (P : Program) (o : Oper) (σ : VS) : Option Nat := match o.guard, o.op with
  | none, .store t x y => match isArrP P t, evV σ.t x with
    | false, .ptr k _ _ => match look σ.o k, cellsE (envOf (opKeys σ.t (.store t x y)) σ.o) (evV σ.t y) with
      | some (.slc _ _ _), some l => match l.all AV.pur with
        | true => some k
        | false => none
      | _, _ => none
    | _, _ => none
  | _, _ => none
def shpB : Option Blk → Option (Nat × Nat × Nat)
  | some (.slc e z rows) => some (e, z, rows.length)
  | some (.foc e z rows _ _) => some (e, z, rows.length)
  | _ => none
theorem vsto_plain {P : Program} {ops : Array Oper} {o : Oper} {σ : VS} {π π' : List PI} {E : Eff} (hg : o.guard = none) (hc : ∀ c, o.op ≠ .call c) (hp : ∀ c x y, o.op ≠ .pick c x y) (h : vsto P ops o σ π = some (E, π')) : vop P o (evV σ.t) (envOf (opKeys σ.t o.op) σ.o) π = some (E, π') := by
  have hgv : guardV ops o σ.t = some none := by unfold guardV; rw [hg]
  have hst : vstep P ops o σ π = some (E, π') := by
    unfold vsto at h
    rw [hgv] at h
    split at h
    · exact (plainS_eq h).1
    · dsimp only at h
      split at h
      · rename_i ho; exact absurd ho (hp _ _ _)
      · exact (plainS_eq h).1
    · dsimp only at h
      split at h
      · rename_i ho; exact absurd ho (hc _)
      · rename_i ho; exact absurd ho (hc _)
      · exact (plainS_eq h).1
    · exact (plainS_eq h).1
    · exact (plainS_eq h).1
  unfold vstep at hst
  rw [hgv] at hst
  exact hst
theorem vstp_plain {P : Program} {ops : Array Oper} {o : Oper} {σ : VS} {π π' : List PI} {E : Eff} (hg : o.guard = none) (hc : ∀ c, o.op ≠ .call c) (hp : ∀ c x y, o.op ≠ .pick c x y) (hr : ∀ r π1, vRg P o r (evV σ.t) (envOf (opKeys σ.t o.op) σ.o) π1 = none) (h : vstp P ops o σ π = some (E, π')) : vop P o (evV σ.t) (envOf (opKeys σ.t o.op) σ.o) π = some (E, π') := by
  obtain ⟨_, ⟨ren, out, r, o', π1, fo, args, ats, rfl, hg, ho, h1⟩ | h1 | ⟨r, π1, _, h1⟩ | ⟨as, r, reg, π1, fo, args, ats, _, ho, h1⟩⟩ := vstp_cases h
  · exact absurd ho (hc _)
  · exact vsto_plain hg hc hp h1
  · have := (plainS_eq h1).1; rw [hr] at this; cases this
  · exact absurd ho (hc _)
theorem kpOf_ok {P : Program} {ops : Array Oper} {o : Oper} {σ : VS} {π π' : List PI} {E : Eff} {k : Nat} (hk : kpOf P o σ = some k) (h : vstp P ops o σ π = some (E, π')) : ∃ b, E.upd = some (k, b) ∧ shpB (some b) = shpB (look σ.o k) ∧ E.new = none ∧ E.kill = none ∧ E.acts = [] := by
  unfold kpOf at hk
  split at hk
  · rename_i t x y hg ho
    split at hk
    · rename_i k' i off harr hx
      split at hk
      · rename_i e z rows lq hl hcq
        split at hk
        · rename_i hpur
          injection hk with hk; subst hk
          have hv := vstp_plain hg (by simp [ho]) (by simp [ho]) (by intro r π1; unfold vRg; rw [ho]; dsimp only; rw [hx]; try (split <;> first | rfl | contradiction)) h
          unfold vop at hv
          rw [ho] at hv
          simp only [harr] at hv
          unfold vStore at hv
          rw [hx, hcq] at hv
          dsimp only at hv
          have hin : (opKeys σ.t (.store t x y)).contains k' = true := by
            unfold opKeys
            simp [Op.operands, hx, AV.keys]
          have henv : envOf (opKeys σ.t (.store t x y)) σ.o k' = some (.slc e z rows) := by unfold envOf; rw [if_pos hin, hl]
          split at hv
          · rw [henv, hpur] at hv
            dsimp only at hv
            split at hv
            · split at hv
              · injection hv with hv; injection hv with h1 h2; subst h1
                exact ⟨_, rfl, by rw [hl]; simp [shpB], rfl, rfl, rfl⟩
              · cases hv
            · split at hv
              · injection hv with hv; injection hv with h1 h2; subst h1
                exact ⟨_, rfl, by rw [hl]; simp [shpB], rfl, rfl, rfl⟩
              · cases hv
            · cases hv
          · cases hv
        · cases hk
      · cases hk
    · cases hk
  · cases hk
theorem vstp_shape {P : Program} {ops : Array Oper} {o : Oper} {σ σ' : VS} {π π' : List PI} {E : Eff} {k : Nat} (hs : k ∈ skOf o σ) (h : vstp P ops o σ π = some (E, π')) (hob : All E.ob) (ht : ∀ d ∈ o.looksAt ops, σ.t.getD d .any = σ'.t.getD d .any) (hk : shpB (look σ.o k) = shpB (look σ'.o k)) : StepS P ops o σ' E := by
  unfold skOf at hs
  split at hs
  · rename_i t x ix hg ho
    split at hs
    · rename_i k' hx
      simp only [List.mem_singleton] at hs; subst hs
      have hv := vstp_plain hg (by simp [ho]) (by simp [ho]) (by intro r π1; unfold vRg; rw [ho]; dsimp only; rw [hx]; try (split <;> first | rfl | contradiction)) h
      unfold vop at hv
      rw [ho] at hv
      dsimp only at hv
      have hin : (opKeys σ.t (.indexAddr t x ix)).contains k = true := by
        unfold opKeys
        simp [Op.operands, hx, AV.keys]
      have ev' : ∀ q, q ∈ o.op.operands → evV σ'.t q = evV σ.t q := by
        intro q hq
        cases q with
        | tmp d =>
          refine (ht d ?_).symm
          unfold Oper.looksAt
          rw [List.mem_append]; left
          rw [List.mem_filterMap]; exact ⟨.tmp d, by simpa using hq, rfl⟩
        | _ => rfl
      have ex := ev' x (by simp [ho, Op.operands])
      have ei := ev' ix (by simp [ho, Op.operands])
      unfold vIndexAddr at hv
      rw [hx] at hv
      split at hv
      · rename_i kk n hix
        dsimp only at hv
        have henv : envOf (opKeys σ.t (.indexAddr t x ix)) σ.o k = look σ.o k := by unfold envOf; rw [if_pos hin]
        rw [henv] at hv
        have key : ∀ (e z n0 : Nat) (q m : Nat), shpB (look σ.o k) = some (e, z, n0) → elemOfSl P t = some (q, m) → (m == z) = true → 0 ≤ n → n < (n0 : Int) → StepS P ops o σ' { ob := [0 ≤ n, n < (n0 : Int)], v := .ptr k n.toNat 0 } := by
          intro e z n0 q m hsh hel hmz h0 hn
          rw [hsh] at hk
          obtain ⟨rows', hl', hlen⟩ : ∃ rows', (look σ'.o k = some (.slc e z rows') ∨ ∃ i r, look σ'.o k = some (.foc e z rows' i r)) ∧ rows'.length = n0 := by
            cases hb : look σ'.o k with
            | none => rw [hb] at hk; cases hk
            | some b => cases b with
              | slc e' z' r' =>
                rw [hb] at hk; simp only [shpB, Option.some.injEq, Prod.mk.injEq] at hk
                obtain ⟨rfl, rfl, h3⟩ := hk
                exact ⟨r', .inl rfl, h3.symm⟩
              | foc e' z' r' i' q' =>
                rw [hb] at hk; simp only [shpB, Option.some.injEq, Prod.mk.injEq] at hk
                obtain ⟨rfl, rfl, h3⟩ := hk
                exact ⟨r', .inr ⟨_, _, rfl⟩, h3.symm⟩
              | var _ => rw [hb] at hk; cases hk
              | obj _ => rw [hb] at hk; cases hk
              | lp _ _ _ => rw [hb] at hk; cases hk
              | reg _ => rw [hb] at hk; cases hk
          have hop : OpS P o σ' { ob := [0 ≤ n, n < rows'.length], v := .ptr k n.toNat 0 } := by
            refine vIndexAddr_ok (env := fun j => look σ'.o j) (π := []) (π' := []) ho (fun _ _ h => h) ?_ ?_
            · unfold vIndexAddr
              rw [ei, hix, ex, hx]
              dsimp only
              rcases hl' with hl' | ⟨i', r', hl'⟩
              · rw [hl']
                dsimp only
                rw [hel]
                dsimp only
                rw [if_pos hmz]
              · rw [hl']
                dsimp only
                rw [hel]
                dsimp only
                rw [if_pos hmz]
            · rw [hlen]; exact ⟨h0, hn, trivial⟩
          intro S w0 μ a w hst hcl _ K Q hK
          rw [if_pos (by simp [Region.wanted, hg])]
          exact hop S w0 μ a w hst (fun hn => by cases hn) K Q hK
        split at hv
        · rename_i e z rows hl
          split at hv
          · rename_i q m hel
            split at hv
            · rename_i hmz
              injection hv with hv; injection hv with h1 h2; subst h1
              exact key e z rows.length q m (by rw [hl]; rfl) hel hmz hob.1 hob.2.1
            · cases hv
          · cases hv
        · rename_i e z rows i0 r0 hl
          split at hv
          · rename_i q m hel
            split at hv
            · rename_i hmz
              injection hv with hv; injection hv with h1 h2; subst h1
              exact key e z rows.length q m (by rw [hl]; rfl) hel hmz hob.1 hob.2.1
            · cases hv
          · cases hv
        · cases hv
      · cases hv
    · cases hs
  · rename_i x hg ho
    exact vstp_shape_mv hg (.inl ho) (vstp_plain hg (by simp [ho]) (by simp [ho]) (by intro r π1; unfold vRg; rw [ho]) h) hob ht
  · rename_i x hg ho
    exact vstp_shape_mv hg (.inr ho) (vstp_plain hg (by simp [ho]) (by simp [ho]) (by intro r π1; unfold vRg; rw [ho]) h) hob ht
  · cases hs
def vlist (P : Program) (ops : Array Oper) (ks : List Nat) : List Oper → VS → List PI → List ER → Option (List Prop × VS × List PI × List ER)
  | [], σ, π, acc => some ([], σ, π, acc.reverse)
  | o :: l, σ, π, acc => match vstp P ops o σ π with
    | some (E, π') =>
      match (match E.new with | none => true | some _ => match o.dst with | some d => ks.contains d && acc.all (avoids d) | none => false) && (okDst σ o E && E.fresh.all (fun d => ks.contains d && acc.all (avoids d))) with
      | true => match vlist P ops ks l (app o.dst E σ) π' (⟨o.dst, E, o.looksAt ops, opKeys σ.t o.op ++ seenK o π, kpOf P o σ, skOf o σ⟩ :: acc) with
        | some (ob, r) => some (E.ob ++ ob, r)
        | none => none
      | false => none
    | none => none

theorem vlist_plain {P : Program} {ops : Array Oper} {ks : List Nat} : ∀ {l : List Oper} {σ : VS} {π : List PI} {acc : List ER} {ob : List Prop} {σ' : VS} {π' : List PI} {ers : List ER},
    vlist P ops ks l σ π acc = some (ob, σ', π', ers) → All ob → keyed σ → (∀ d, ks.contains d = true → acc.all (avoids d) = true → Clean d σ) → ∀ (ro : Option Nat) S w0 a w, St S w0 σ a w → ∀ Q : Exit → Act → World → Prop, (∀ a' w', St S w0 σ' a' w' → Q .normal a' w') → wpListIn (WF ro) 0 P ops Q l a w
  | [], σ, π, acc, ob, σ', π', ers, h, hob, hky, hcl, ro, S, w0, a, w, hst, Q, hQ => by
    simp only [vlist] at h; injection h with h; injection h with h1 h; injection h with h2 h; subst h2
    exact hQ a w hst
  | o :: l, σ, π, acc, ob, σ', π', ers, h, hob, hky, hcl, ro, S, w0, a, w, hst, Q, hQ => by
    rw [vlist] at h
    split at h
    · rename_i E π2 hs
      split at h
      · rename_i hnew
        rw [Bool.and_eq_true] at hnew
        obtain ⟨hnew, hok⟩ := hnew
        rw [Bool.and_eq_true] at hok
        obtain ⟨hok, hfr⟩ := hok
        split at h
        · rename_i ob2 r hv
          obtain ⟨σ2, π3, ers2⟩ := r
          injection h with h; injection h with h1 h; injection h with h2 h; injection h with h3 h4; subst h1 h2
          obtain ⟨hobE, hob2⟩ := All.app hob
          obtain ⟨μ, hst⟩ := hst
          have hstep := vstp_ok (hky.loc ops o) hs hobE ro S w0 μ a w hst (fun hn => by
            cases hE : E.new with
            | none => rw [hE] at hn; cases hn
            | some b =>
              rw [hE] at hnew
              dsimp only at hnew
              split at hnew
              · rename_i d hd
                simp only [Bool.and_eq_true] at hnew
                exact ⟨d, hd, hcl d hnew.1 hnew.2⟩
              · cases hnew) (fun k hk => by
            have := List.all_eq_true.1 hfr k hk
            simp only [Bool.and_eq_true] at this
            exact hcl k this.1 this.2) (wpListIn (WF ro) 0 P ops Q l) Q (fun a' w' hst' => vlist_plain hv hob2 (keyed_app hky (vstp_key hs) hok) (fun d hd hav => by
                simp only [List.all_cons, Bool.and_eq_true] at hav
                exact Clean.app (x := ⟨o.dst, E, o.looksAt ops, opKeys σ.t o.op ++ seenK o π, kpOf P o σ, skOf o σ⟩) (hcl d hd hav.2) hav.1) ro S w0 a' w' hst' Q hQ)
          rw [wpListIn]
          split
          · rename_i hw; rw [if_pos hw] at hstep; exact hstep
          · rename_i hw; rw [if_neg hw] at hstep; exact ⟨fun _ _ => trivial, hstep⟩
        · cases h
      · cases h
    · cases h
end Go.Proofs.YtdmkhinckljddaaGreat
namespace Go.Proofs.YtdmkhinckljddaaGreat
open Go.RowKit

def anc (ops : Array Oper) (i j : Nat) : Bool := ((Region.before ops).getD i 0).testBit j
/-! ### What comes ahead of an operation -/
def beforeStep (acc : Array Nat) (s : Nat) (e : Edge) : Nat := if Region.binds .any e then s ||| 2 ^ e.on ||| acc.getD e.on 0 else s

theorem bits_step (acc : Array Nat) (j : Nat) : ∀ (l : List Edge) (s : Nat), (l.foldl (beforeStep acc) s).testBit j = true → s.testBit j = true ∨ ∃ e ∈ l, Region.binds .any e = true ∧ (e.on = j ∨ (acc.getD e.on 0).testBit j = true)
  | [], s, h => .inl h
  | e :: l, s, h => by
    rcases bits_step acc j l _ h with h1 | ⟨e', he', hb, hh⟩
    · unfold beforeStep at h1
      split at h1
      · rename_i hb
        rw [Nat.testBit_or, Nat.testBit_or] at h1
        rcases Bool.or_eq_true_iff.1 h1 with h2 | h2
        · rcases Bool.or_eq_true_iff.1 h2 with h3 | h3
          · exact .inl h3
          · rw [Nat.testBit_two_pow] at h3
            exact .inr ⟨e, by simp, hb, .inl (by simpa using h3)⟩
        · exact .inr ⟨e, by simp, hb, .inr h2⟩
      · exact .inl h1
    · exact .inr ⟨e', by simp [he'], hb, hh⟩

theorem before_fold : ∀ (l : List Oper) (acc : Array Nat),
    let R := l.foldl (fun acc o => acc.push (o.after.foldl (beforeStep acc) 0)) acc
    R.size = acc.size + l.length ∧ (∀ k, k < acc.size → R.getD k 0 = acc.getD k 0) ∧
      ∀ m o, l[m]? = some o → ∃ acc' : Array Nat, acc'.size = acc.size + m ∧ (∀ k, k < acc.size + m → acc'.getD k 0 = R.getD k 0) ∧ R.getD (acc.size + m) 0 = o.after.foldl (beforeStep acc') 0
  | [], acc => by simp
  | o :: l, acc => by
    obtain ⟨h1, h2, h3⟩ := before_fold l (acc.push (o.after.foldl (beforeStep acc) 0))
    simp only [List.foldl_cons]
    refine ⟨by rw [h1]; simp; omega, fun k hk => ?_, fun m o' hm => ?_⟩
    · rw [h2 k (by simp; omega)]; simp [Array.getElem?_push, Nat.ne_of_lt hk]
    · cases m with
      | zero =>
        simp at hm; subst hm
        refine ⟨acc, rfl, fun k hk => ?_, ?_⟩
        · have hk' : k < acc.size := by omega
          rw [h2 k (by simp; omega)]; simp [Array.getElem?_push, Nat.ne_of_lt hk']
        · rw [Nat.add_zero, h2 acc.size (by simp)]; simp
      | succ m =>
        obtain ⟨acc', g1, g2, g3⟩ := h3 m o' (by simpa using hm)
        simp only [Array.size_push] at g1 g2 g3
        refine ⟨acc', by omega, fun k hk => g2 k (by omega), ?_⟩
        rw [show acc.size + (m + 1) = acc.size + 1 + m from by omega]; exact g3

theorem anc_spec {ops : Array Oper} {i j : Nat} {o : Oper} (ho : ops[i]? = some o) (h : anc ops i j = true) :
    ∃ e ∈ o.after, Region.binds .any e = true ∧ (e.on = j ∨ (e.on < i ∧ anc ops e.on j = true)) := by
  have hb : Region.before ops = ops.toList.foldl (fun acc o => acc.push (o.after.foldl (beforeStep acc) 0)) #[] := by
    unfold Region.before; rw [← Array.foldl_toList]; rfl
  obtain ⟨h1, h2, h3⟩ := before_fold ops.toList #[]
  obtain ⟨acc', g1, g2, g3⟩ := h3 i o (by simpa using ho)
  rw [← hb] at g2 g3
  unfold anc at h
  simp only [Array.size_empty, Nat.zero_add] at g1 g2 g3
  rw [g3, ← Array.foldl_toList] at h
  rcases bits_step acc' j o.after.toList 0 h with h | ⟨e, he, hbe, hh⟩
  · simp at h
  · refine ⟨e, by simpa using he, hbe, ?_⟩
    rcases hh with hh | hh
    · exact .inl hh
    · by_cases hlt : e.on < i
      · exact .inr ⟨hlt, by unfold anc; rw [← g2 e.on hlt]; exact hh⟩
      · rw [show acc'.getD e.on 0 = 0 from by simp [Array.getElem?_eq_none (show acc'.size ≤ e.on by omega)]] at hh
        simp at hh

theorem anc_in {ops : Array Oper} {S : Nat → Prop} (hS : ∀ k o, S k → ops[k]? = some o → ∀ e ∈ o.after, Region.binds .any e = true → S e.on)
    (hin : ∀ k, S k → ∃ o, ops[k]? = some o) : ∀ (i j : Nat) (o : Oper), ops[i]? = some o → (∀ e ∈ o.after, Region.binds .any e = true → S e.on) → anc ops i j = true → S j := by
  intro i
  induction i using Nat.strongRecOn with
  | _ i ih =>
    intro j o ho hi h
    obtain ⟨e, he, hb, hh⟩ := anc_spec ho h
    rcases hh with rfl | ⟨hlt, hh⟩
    · exact hi e he hb
    · obtain ⟨o', ho'⟩ := hin _ (hi e he hb)
      exact ih e.on hlt j o' ho' (hS _ _ (hi e he hb) ho') hh

/-- Whoever writes the block k writes in its place. -/
def allKp (ers : List ER) (k : Nat) : Bool := ers.all fun z => !((upKeys z).contains k) || z.kp == some k
def seesK (ers : List ER) (x : ER) (k : Nat) : Bool := !(x.ks.contains k) || (x.sk.contains k && allKp ers k)
def indep (ers : List ER) (x y : ER) : Bool :=
  (match x.dst with | some d => !(y.rd.contains d) && y.dst != some d | none => true) && (match y.dst with | some d => !(x.rd.contains d) | none => true) &&
  (upKeys x).all (fun k => seesK ers y k && !((upKeys y).contains k)) && (upKeys y).all (fun k => seesK ers x k) &&
  (match newK x.dst x.E.new with | some (d, _) => avoids d y | none => true) && (match newK y.dst y.E.new with | some (d, _) => avoids d x | none => true) && (x.E.fresh.all (fun d => avoids d y) && y.E.fresh.all (fun d => avoids d x))
structure Indep (ers : List ER) (x y : ER) : Prop where
  d1 : ∀ d, x.dst = some d → d ∉ y.rd ∧ y.dst ≠ some d
  d2 : ∀ d, y.dst = some d → d ∉ x.rd ∧ x.dst ≠ some d
  k1 : ∀ k ∈ upKeys x, (k ∉ y.ks ∨ (k ∈ y.sk ∧ allKp ers k = true)) ∧ k ∉ upKeys y
  k2 : ∀ k ∈ upKeys y, (k ∉ x.ks ∨ (k ∈ x.sk ∧ allKp ers k = true)) ∧ k ∉ upKeys x
  n1 : ∀ d b, newK x.dst x.E.new = some (d, b) → avoids d y = true
  n2 : ∀ d b, newK y.dst y.E.new = some (d, b) → avoids d x = true
  f1 : ∀ d ∈ x.E.fresh, avoids d y = true
  f2 : ∀ d ∈ y.E.fresh, avoids d x = true
theorem Indep.symm {ers : List ER} {x y : ER} (h : Indep ers x y) : Indep ers y x := ⟨h.d2, h.d1, h.k2, h.k1, h.n2, h.n1, h.f2, h.f1⟩
theorem seesK_ok {ers : List ER} {x : ER} {k : Nat} (h : seesK ers x k = true) : k ∉ x.ks ∨ (k ∈ x.sk ∧ allKp ers k = true) := by
  unfold seesK at h
  simp only [Bool.or_eq_true, Bool.and_eq_true, Bool.not_eq_true'] at h
  rcases h with h | ⟨h1, h2⟩
  · left; simpa using h
  · exact .inr ⟨by simpa using h1, h2⟩
theorem indep_ok {ers : List ER} {x y : ER} (h : indep ers x y = true) : Indep ers x y := by
  unfold indep at h
  simp only [Bool.and_eq_true] at h
  obtain ⟨⟨⟨⟨⟨⟨h1, h2⟩, h3⟩, h4⟩, h5⟩, h6⟩, h7, h8⟩ := h
  have hk1 : ∀ k ∈ upKeys x, (k ∉ y.ks ∨ (k ∈ y.sk ∧ allKp ers k = true)) ∧ k ∉ upKeys y := fun k hk => by
    have := List.all_eq_true.1 h3 k hk
    simp only [Bool.and_eq_true, Bool.not_eq_true'] at this
    exact ⟨seesK_ok this.1, by have := this.2; simpa using this⟩
  have hd1 : ∀ d, x.dst = some d → d ∉ y.rd ∧ y.dst ≠ some d := fun d hd => by rw [hd] at h1; simpa using h1
  refine ⟨hd1, fun d hd => ⟨by rw [hd] at h2; simpa using h2, fun hx => (hd1 d hx).2 hd⟩, hk1, fun k hk => ⟨seesK_ok (List.all_eq_true.1 h4 k hk), fun hx => (hk1 k hx).2 hk⟩, fun d b hn => by rw [hn] at h5; exact h5, fun d b hn => by rw [hn] at h6; exact h6, fun d hd => List.all_eq_true.1 h7 d hd, fun d hd => List.all_eq_true.1 h8 d hd⟩
def edgesOk (ops : Array Oper) : Bool := ops.toList.zipIdx.all fun (o, i) => o.after.toList.all fun e => !(Region.binds .any e) || Nat.blt e.on i
def drawOk (ops : Array Oper) (ers : List ER) : Bool := edgesOk ops && ers.zipIdx.all fun (x, i) => ers.zipIdx.all fun (y, j) => !(Nat.blt i j) || anc ops j i || indep ers x y

def appD (ers : List ER) (D : Nat → Bool) (σ : VS) : Nat → VS
  | 0 => σ
  | n + 1 => match ers[n]? with
    | some x => if D n then app x.dst x.E (appD ers D σ n) else appD ers D σ n
    | none => appD ers D σ n
theorem appD_succ (ers : List ER) (D : Nat → Bool) (σ : VS) (n : Nat) : appD ers D σ (n + 1) = match ers[n]? with
    | some x => if D n then app x.dst x.E (appD ers D σ n) else appD ers D σ n
    | none => appD ers D σ n := rfl
theorem appD_congr {ers : List ER} {D D' : Nat → Bool} {σ : VS} : ∀ n, (∀ j, j < n → D j = D' j) → appD ers D σ n = appD ers D' σ n
  | 0, _ => rfl
  | n + 1, h => by rw [appD, appD, appD_congr n fun j hj => h j (by omega), h n (by omega)]
theorem appD_cons {x : ER} {ers : List ER} {σ : VS} : ∀ n, appD (x :: ers) (fun _ => true) σ (n + 1) = appD ers (fun _ => true) (app x.dst x.E σ) n
  | 0 => by simp [appD]
  | n + 1 => by
    rw [appD, appD_cons n, List.getElem?_cons_succ]; rfl
theorem app_len (d : Option Tmp) (E : Eff) (σ : VS) : (app d E σ).t.length = σ.t.length := len_setT _ _ _
theorem appD_len {ers : List ER} {D : Nat → Bool} {σ : VS} : ∀ n, (appD ers D σ n).t.length = σ.t.length
  | 0 => rfl
  | n + 1 => by
    rw [appD]
    split
    · split
      · rw [app_len, appD_len n]
      · exact appD_len n
    · exact appD_len n

theorem vlist_spec {P : Program} {ops : Array Oper} {ks : List Nat} : ∀ {l : List Oper} {σ : VS} {π : List PI} {acc : List ER} {ob : List Prop} {σ' : VS} {π' : List PI} {ers : List ER},
    vlist P ops ks l σ π acc = some (ob, σ', π', ers) → All ob → keyed σ → ∃ new : List ER, ers = acc.reverse ++ new ∧ new.length = l.length ∧ σ' = appD new (fun _ => true) σ l.length ∧
      ∀ (i : Nat) (o : Oper), l[i]? = some o → ∃ er π1 π2, new[i]? = some er ∧ er.dst = o.dst ∧ er.rd = o.looksAt ops ∧ er.ks = opKeys (appD new (fun _ => true) σ i).t o.op ++ seenK o π1 ∧ (er.kp = kpOf P o (appD new (fun _ => true) σ i) ∧ er.sk = skOf o (appD new (fun _ => true) σ i)) ∧ vstp P ops o (appD new (fun _ => true) σ i) π1 = some (er.E, π2) ∧ All er.E.ob ∧ keyed (appD new (fun _ => true) σ i) ∧
        (er.E.new.isSome = true → ∃ d, o.dst = some d ∧ ks.contains d = true ∧ acc.all (avoids d) = true ∧ ∀ (j : Nat) (er' : ER), j < i → new[j]? = some er' → avoids d er' = true) ∧
        ∀ d ∈ er.E.fresh, ks.contains d = true ∧ acc.all (avoids d) = true ∧ ∀ (j : Nat) (er' : ER), j < i → new[j]? = some er' → avoids d er' = true
  | [], σ, π, acc, ob, σ', π', ers, h, _, _ => by
    simp only [vlist] at h; injection h with h; injection h with h1 h; injection h with h2 h; injection h with h3 h4
    exact ⟨[], by rw [← h4]; simp, rfl, h2.symm, fun i o ho => by simp at ho⟩
  | o :: l, σ, π, acc, ob, σ', π', ers, h, hob, hky => by
    rw [vlist] at h
    split at h
    · rename_i E π2 hs
      split at h
      · rename_i hnew
        rw [Bool.and_eq_true] at hnew
        obtain ⟨hnew, hok⟩ := hnew
        rw [Bool.and_eq_true] at hok
        obtain ⟨hok, hfr⟩ := hok
        split at h
        · rename_i ob2 r hv
          obtain ⟨σ2, π3, ers2⟩ := r
          injection h with h; injection h with h1 h; injection h with h2 h; injection h with h3 h4; subst h1 h2 h3 h4
          obtain ⟨hobE, hob2⟩ := All.app hob
          obtain ⟨new, e1, e2, e3, e4⟩ := vlist_spec hv hob2 (keyed_app hky (vstp_key hs) hok)
          refine ⟨⟨o.dst, E, o.looksAt ops, opKeys σ.t o.op ++ seenK o π, kpOf P o σ, skOf o σ⟩ :: new, by rw [e1]; simp, by simp [e2], by rw [List.length_cons, appD_cons]; exact e3, fun i o' ho' => ?_⟩
          cases i with
          | zero =>
            simp at ho'; subst ho'
            refine ⟨_, π, π2, rfl, rfl, rfl, rfl, ⟨rfl, rfl⟩, hs, hobE, hky, fun hn => ?_, fun d hd => by
              have := List.all_eq_true.1 hfr d hd
              simp only [Bool.and_eq_true] at this
              exact ⟨this.1, this.2, fun j er' hj => by omega⟩⟩
            cases hE : E.new with
            | none => dsimp only at hn; rw [hE] at hn; cases hn
            | some b =>
              rw [hE] at hnew
              dsimp only at hnew
              split at hnew
              · rename_i d hd
                simp only [Bool.and_eq_true] at hnew
                exact ⟨d, hd, hnew.1, hnew.2, fun j er' hj => by omega⟩
              · cases hnew
          | succ i =>
            obtain ⟨er, π1, π2', f1, f2, f3, f4, f4b, f5, f6, f6b, f7, f8⟩ := e4 i o' (by simpa using ho')
            refine ⟨er, π1, π2', by simpa using f1, f2, f3, by rw [appD_cons]; exact f4, by rw [appD_cons]; exact f4b, by rw [appD_cons]; exact f5, f6, by rw [appD_cons]; exact f6b, fun hn => ?_, fun d hd => by
              obtain ⟨g2, g3, g4⟩ := f8 d hd
              simp only [List.all_cons, Bool.and_eq_true] at g3
              refine ⟨g2, g3.2, fun j er' hj her => ?_⟩
              cases j with
              | zero => simp at her; subst her; exact g3.1
              | succ j => exact g4 j er' (by omega) (by simpa using her)⟩
            obtain ⟨d, g1, g2, g3, g4⟩ := f7 hn
            simp only [List.all_cons, Bool.and_eq_true] at g3
            refine ⟨d, g1, g2, g3.2, fun j er' hj her => ?_⟩
            cases j with
            | zero => simp at her; subst her; exact g3.1
            | succ j => exact g4 j er' (by omega) (by simpa using her)
        · cases h
      · cases h
    · cases h

theorem VEq.app {σ σ' : VS} (h : VEq σ σ') (x : ER) : VEq (app x.dst x.E σ) (app x.dst x.E σ') := ⟨by unfold Go.Proofs.YtdmkhinckljddaaGreat.app; dsimp only; rw [h.1], fun k => look_app_same (h.2 k)⟩
theorem app_comm {ers : List ER} {x y : ER} (h : Indep ers x y) (σ : VS) : VEq (app y.dst y.E (app x.dst x.E σ)) (app x.dst x.E (app y.dst y.E σ)) := by
  refine ⟨?_, fun k => ?_⟩
  · unfold Go.Proofs.YtdmkhinckljddaaGreat.app; dsimp only
    cases hx : x.dst with
    | none => rfl
    | some d => cases hy : y.dst with
      | none => rfl
      | some d' =>
        simp only [setT]
        rw [List.set_comm]
        rintro rfl; exact (h.d1 _ hx).2 hy
  · by_cases hk : k ∈ upKeys y
    · have hx := (h.k2 k hk).2
      rw [look_app_ne hx]
      exact look_app_same (look_app_ne hx)
    · rw [look_app_ne hk]
      exact (look_app_same (look_app_ne hk)).symm

theorem agree {ers : List ER} {D : Nat → Bool} {σ : VS} {i : Nat} {x : ER} (hi : D i = false) (h1 : ∀ (j : Nat) (y : ER), j < i → ers[j]? = some y → D j = false → Indep ers x y) (h2 : ∀ (j : Nat) (y : ER), i < j → ers[j]? = some y → D j = true → Indep ers x y) (n : Nat) (hn : i ≤ n) :
    (∀ t ∈ x.rd, (appD ers D σ n).t.getD t .any = (appD ers (fun _ => true) σ i).t.getD t .any) ∧ ∀ k ∈ x.ks, look (appD ers D σ n).o k = look (appD ers (fun _ => true) σ i).o k ∨ (k ∈ x.sk ∧ allKp ers k = true) := by
  have first : ∀ m, m ≤ i → (∀ t ∈ x.rd, (appD ers D σ m).t.getD t .any = (appD ers (fun _ => true) σ m).t.getD t .any) ∧ ∀ k ∈ x.ks, look (appD ers D σ m).o k = look (appD ers (fun _ => true) σ m).o k ∨ (k ∈ x.sk ∧ allKp ers k = true) := by
    intro m
    induction m with
    | zero => intro _; exact ⟨fun _ _ => rfl, fun _ _ => .inl rfl⟩
    | succ m ih =>
      intro hm
      obtain ⟨i1, i2⟩ := ih (by omega)
      rw [appD, appD]
      cases hy : ers[m]? with
      | none => exact ⟨i1, i2⟩
      | some y =>
        dsimp only
        simp only [if_true]
        cases hD : D m with
        | true =>
          simp only [if_true]
          exact ⟨fun t ht => getD_setT_same _ _ (by rw [appD_len, appD_len]) t (i1 t ht), fun k hk => (i2 k hk).imp (fun e => look_app_same e) id⟩
        | false =>
          have hind := h1 m y (by omega) hy hD
          simp only [Bool.false_eq_true, if_false]
          refine ⟨fun t ht => (i1 t ht).trans (getD_setT _ _ _ _ fun e => (hind.d2 t e).1 ht).symm, fun k hk => ?_⟩
          by_cases e : k ∈ upKeys y
          · exact ((hind.k2 k e).1.resolve_left fun h => h hk) |> .inr
          · exact (i2 k hk).imp (fun q => q.trans (look_app_ne e).symm) id
  obtain ⟨m, rfl⟩ := Nat.exists_eq_add_of_le hn
  clear hn
  induction m with
  | zero => exact first i (Nat.le_refl _)
  | succ m ih =>
    obtain ⟨i1, i2⟩ := ih
    rw [← Nat.add_assoc, appD]
    cases hy : ers[i + m]? with
    | none => exact ⟨i1, i2⟩
    | some y =>
      dsimp only
      cases hD : D (i + m) with
      | false => simp only [Bool.false_eq_true, if_false]; exact ⟨i1, i2⟩
      | true =>
        have hm : i < i + m := by
          by_cases h0 : m = 0
          · subst h0; rw [Nat.add_zero, hi] at hD; cases hD
          · omega
        have hind := h2 (i + m) y hm hy hD
        simp only [if_true]
        refine ⟨fun t ht => (getD_setT _ _ _ _ fun e => (hind.d2 t e).1 ht).trans (i1 t ht), fun k hk => ?_⟩
        by_cases e : k ∈ upKeys y
        · exact ((hind.k2 k e).1.resolve_left fun h => h hk) |> .inr
        · exact (i2 k hk).imp (fun q => (look_app_ne e).trans q) id

theorem appD_add {ers : List ER} {D D' : Nat → Bool} {σ : VS} {i : Nat} {x : ER} (hx : ers[i]? = some x) (hi : D i = false) (hi' : D' i = true) (hD : ∀ j, j ≠ i → D' j = D j) (h2 : ∀ (j : Nat) (y : ER), i < j → ers[j]? = some y → D j = true → Indep ers x y) :
    ∀ n, i < n → VEq (app x.dst x.E (appD ers D σ n)) (appD ers D' σ n) := by
  intro n hn
  obtain ⟨m, rfl⟩ := Nat.exists_eq_add_of_lt hn
  clear hn
  induction m with
  | zero =>
    rw [Nat.add_zero, appD, appD, hx]
    simp only [hi, hi', Bool.false_eq_true, if_false, if_true]
    rw [appD_congr (D := D) (D' := D') i fun j hj => (hD j (by omega)).symm]
    exact .refl _
  | succ m ih =>
    rw [show i + (m + 1) + 1 = (i + m + 1) + 1 by omega, appD_succ ers D σ (i + m + 1), appD_succ ers D' σ (i + m + 1)]
    cases hy : ers[i + m + 1]? with
    | none => exact ih
    | some y =>
      dsimp only
      rw [hD (i + m + 1) (by omega)]
      cases hDj : D (i + m + 1) with
      | false => simp only [Bool.false_eq_true, if_false]; exact ih
      | true =>
        simp only [if_true]
        exact (app_comm (h2 _ y (by omega) hy hDj) _).symm.trans (ih.app y)
theorem appD_clean {ers : List ER} {D : Nat → Bool} {σ : VS} {d : Nat} (h : Clean d σ) : ∀ n, (∀ (j : Nat) (y : ER), j < n → ers[j]? = some y → D j = true → avoids d y = true) → Clean d (appD ers D σ n)
  | 0, _ => h
  | n + 1, ha => by
    have ih := appD_clean (D := D) h n fun j y hj => ha j y (by omega)
    rw [appD]
    cases hy : ers[n]? with
    | none => exact ih
    | some y =>
      dsimp only
      split
      · exact ih.app (ha n y (by omega) hy ‹_›)
      · exact ih
/-- Where all who write a block write in its place, its shape stays. -/
theorem shape_inv {ers : List ER} {σ : VS} {k : Nat} (h : ∀ (j : Nat) (y : ER), ers[j]? = some y → k ∈ upKeys y → ∃ b, y.E.upd = some (k, b) ∧ shpB (some b) = shpB (look (appD ers (fun _ => true) σ j).o k) ∧ y.E.new = none ∧ y.E.kill = none ∧ y.E.acts = []) : ∀ (D : Nat → Bool) (n : Nat), shpB (look (appD ers D σ n).o k) = shpB (look σ.o k) := by
  have step : ∀ (D : Nat → Bool) (n : Nat) (y : ER), ers[n]? = some y → shpB (look (appD ers (fun _ => true) σ n).o k) = shpB (look σ.o k) → shpB (look (appD ers D σ n).o k) = shpB (look σ.o k) → shpB (look (app y.dst y.E (appD ers D σ n)).o k) = shpB (look σ.o k) := by
    intro D n y hy h0 h1
    by_cases e : k ∈ upKeys y
    · obtain ⟨b, e1, e2, e3, e4, e5⟩ := h n y hy e
      rw [app_o, e5, actsO, look_app, e1, e3]
      simp only [newK, if_true]
      exact e2.trans h0
    · rw [look_app_ne e]; exact h1
  have base : ∀ n, shpB (look (appD ers (fun _ => true) σ n).o k) = shpB (look σ.o k) := by
    intro n
    induction n with
    | zero => rfl
    | succ n ih =>
      rw [appD]
      cases hy : ers[n]? with
      | none => exact ih
      | some y => dsimp only; rw [if_pos rfl]; exact step _ n y hy ih ih
  intro D n
  induction n with
  | zero => rfl
  | succ n ih =>
    rw [appD]
    cases hy : ers[n]? with
    | none => exact ih
    | some y =>
      dsimp only
      split
      · exact step D n y hy (base n) ih
      · exact ih
end Go.Proofs.YtdmkhinckljddaaGreat
namespace Go.Proofs.YtdmkhinckljddaaGreat
open Go.RowKit

theorem St.ofEq {S : Ex} {w0 : Base} {w : World} {σ σ' : VS} {a : Act} (h : St S w0 σ a w) (e : σ = σ') : St S w0 σ' a w := e ▸ h

theorem run_draw {P : Program} {ops : Array Oper} {ks : List Nat} {σ : VS} {π π' : List PI} {ob : List Prop} {σ' : VS} {ers : List ER} (hv : vlist P ops ks ops.toList σ π [] = some (ob, σ', π', ers)) (hob : All ob) (hd : drawOk ops ers = true) (hky : keyed σ) (hcl : ∀ d, ks.contains d = true → Clean d σ)
    (ro : Option Nat) {S : Ex} {w0 : Base} {Q : Exit → Act → World → Prop} (hQ : ∀ a' w', St S w0 σ' a' w' → Q .normal a' w') :
    ∀ (fuel : Nat) (listed : Array Bool) (a : Act) (w : World), listed.size = ops.size → (∀ (i : Nat) (o : Oper), listed.getD i false = true → ops[i]? = some o → ∀ e ∈ o.after, Region.binds .any e = true → listed.getD e.on false = true) →
      listed.toList.countP (fun b => !b) ≤ fuel → St S w0 (appD ers (fun j => listed.getD j false) σ ops.size) a w → wpAnyIn (WF ro) 0 P .any ops Q fuel listed a w := by
  obtain ⟨new, e1, e2, e3, e4⟩ := vlist_spec hv hob hky
  simp only [List.reverse_nil, List.nil_append] at e1
  subst e1
  unfold drawOk at hd
  simp only [Bool.and_eq_true] at hd
  obtain ⟨hed, hind⟩ := hd
  have hlen : ers.length = ops.size := by rw [e2]; simp
  have hIndep : ∀ (i j : Nat) (x y : ER), i < j → ers[i]? = some x → ers[j]? = some y → anc ops j i = false → Indep ers x y := by
    intro i j x y hij hx hy hanc
    have h1 := List.all_eq_true.1 hind (x, i) (by rw [List.mem_zipIdx_iff_getElem?]; exact hx)
    dsimp only at h1
    have h2 := List.all_eq_true.1 h1 (y, j) (by rw [List.mem_zipIdx_iff_getElem?]; exact hy)
    dsimp only at h2
    simp only [Bool.or_eq_true, Bool.not_eq_true'] at h2
    rcases h2 with (h2 | h2) | h2
    · have : Nat.blt i j = true := by rw [Nat.blt_eq]; exact hij
      rw [this] at h2; cases h2
    · rw [hanc] at h2; cases h2
    · exact indep_ok h2
  have hEdge : ∀ (i : Nat) (o : Oper), ops[i]? = some o → ∀ e ∈ o.after, Region.binds .any e = true → e.on < i := by
    intro i o ho e he hb
    have h1 := List.all_eq_true.1 hed (o, i) (by rw [List.mem_zipIdx_iff_getElem?]; simpa using ho)
    dsimp only at h1
    have h2 := List.all_eq_true.1 h1 e (by simpa using he)
    simp only [hb, Bool.not_true, Bool.false_or, Nat.blt_eq] at h2
    exact h2
  have hfin : ∀ (listed : Array Bool) (a : Act) (w : World), (∀ j, j < ops.size → listed.getD j false = true) → St S w0 (appD ers (fun j => listed.getD j false) σ ops.size) a w → Q .normal a w := by
    intro listed a w hall hst
    refine hQ a w (hst.ofEq ?_)
    rw [e3, Array.length_toList]
    exact appD_congr _ fun j hj => hall j hj
  have hready : ∀ (listed : Array Bool), listed.size = ops.size → Region.ready .any ops listed = [] → ∀ j, j < ops.size → listed.getD j false = true := by
    intro listed hsz hr j
    induction j using Nat.strongRecOn with
    | _ j ih =>
      intro hj
      cases hl : listed.getD j false with
      | true => rfl
      | false =>
        have ho : ops[j]? = some ops[j] := Array.getElem?_eq_getElem hj
        have hmem : j ∈ Region.ready .any ops listed := by
          rw [mem_ready]
          refine ⟨?_, ops[j], ho, fun e he hb => ih e.on (hEdge j _ ho e he hb) (Nat.lt_trans (hEdge j _ ho e he hb) hj)⟩
          have hjl : j < listed.size := by rw [hsz]; exact hj
          simp only [Array.getD_eq_getD_getElem?, Array.getElem?_eq_getElem hjl, Option.getD_some] at hl ⊢; exact hl
        rw [hr] at hmem; simp at hmem
  intro fuel
  induction fuel with
  | zero =>
    intro listed a w hsz hclo hcnt hst
    have hall : ∀ j, j < ops.size → listed.getD j false = true := by
      intro j hj
      have hjl : j < listed.size := by rw [hsz]; exact hj
      have h0 : listed.toList.countP (fun b => !b) = 0 := by omega
      rw [List.countP_eq_zero] at h0
      have := h0 listed[j] (by simp)
      simp only [Array.getD_eq_getD_getElem?, Array.getElem?_eq_getElem hjl, Option.getD_some]
      simpa using this
    refine ⟨?_, hfin listed a w hall hst⟩
    rw [List.eq_nil_iff_forall_not_mem]
    intro j hj
    rw [mem_ready] at hj
    obtain ⟨h1, o, ho, _⟩ := hj
    have hjl := (Array.getElem?_eq_some_iff.1 ho).1
    have := hall j hjl
    have hjl' : j < listed.size := by rw [hsz]; exact hjl
    simp only [Array.getD_eq_getD_getElem?, Array.getElem?_eq_getElem hjl', Option.getD_some] at h1 this
    rw [h1] at this; cases this
  | succ fuel ih =>
    intro listed a w hsz hclo hcnt hst
    refine ⟨fun hr => hfin listed a w (hready listed hsz hr) hst, fun i hi => ?_⟩
    rw [mem_ready] at hi
    obtain ⟨h1, o, ho, hpre⟩ := hi
    have hil := (Array.getElem?_eq_some_iff.1 ho).1
    have hil' : i < listed.size := by rw [hsz]; exact hil
    have hiF : listed.getD i false = false := by
      simp only [Array.getD_eq_getD_getElem?, Array.getElem?_eq_getElem hil', Option.getD_some] at h1 ⊢; exact h1
    obtain ⟨er, π1, π2, f1, f2, f3, f4, f4b, f5, f6, f6b, f7, f8⟩ := e4 i o (by simpa using ho)
    have hin : ∀ k, listed.getD k false = true → ∃ o, ops[k]? = some o := by
      intro k hk
      by_cases hkl : k < listed.size
      · exact ⟨_, Array.getElem?_eq_getElem (by rw [← hsz]; exact hkl)⟩
      · simp only [Array.getD_eq_getD_getElem?, Array.getElem?_eq_none (Nat.le_of_not_lt hkl), Option.getD_none] at hk; cases hk
    have hlow : ∀ (j : Nat) (y : ER), j < i → ers[j]? = some y → listed.getD j false = false → Indep ers er y := by
      intro j y hj hy hD
      refine (hIndep j i y er hj hy f1 ?_).symm
      cases ha : anc ops i j with
      | false => rfl
      | true =>
        have := anc_in (S := fun k => listed.getD k false = true) (fun k o' hk ho' => hclo k o' hk ho') hin i j o ho hpre ha
        rw [hD] at this; cases this
    have hhigh : ∀ (j : Nat) (y : ER), i < j → ers[j]? = some y → listed.getD j false = true → Indep ers er y := by
      intro j y hj hy hD
      refine hIndep i j er y hj f1 hy ?_
      cases ha : anc ops j i with
      | false => rfl
      | true =>
        obtain ⟨oj, hoj⟩ := hin j hD
        have := anc_in (S := fun k => listed.getD k false = true) (fun k o' hk ho' => hclo k o' hk ho') hin j i oj hoj (hclo j oj hD hoj) ha
        rw [hiF] at this; cases this
    have hag := agree (ers := ers) (D := fun j => listed.getD j false) (σ := σ) hiF hlow hhigh ops.size (Nat.le_of_lt hil)
    have hSt : StepI P ops o (appD ers (fun j => listed.getD j false) σ ops.size) er.E := by
      by_cases hall : ∀ k ∈ er.ks, look (appD ers (fun j => listed.getD j false) σ ops.size).o k = look (appD ers (fun _ => true) σ i).o k
      · have hsee : Sees ops o (appD ers (fun _ => true) σ i) (appD ers (fun j => listed.getD j false) σ ops.size) :=
          ⟨fun t ht => (hag.1 t (by rw [f3]; exact ht)).symm, fun k hk => (hall k (by rw [f4]; exact List.mem_append_left _ hk)).symm⟩
        rw [vstp_congr hsee fun k hk => (hall k (by rw [f4]; exact List.mem_append_right _ hk)).symm] at f5
        exact vstp_ok ((f6b.loc ops o).sees hsee) f5 f6
      · obtain ⟨k, hall⟩ := Classical.not_forall.1 hall
        obtain ⟨hk, hne⟩ := Classical.not_imp.1 hall
        obtain ⟨hsk, hkp⟩ := (hag.2 k hk).resolve_left hne
        have hinv := shape_inv (ers := ers) (σ := σ) (k := k) fun j y hy hup => by
          have h1 := List.all_eq_true.1 hkp y (List.mem_of_getElem? hy)
          have hc : (upKeys y).contains k = true := by simpa using hup
          rw [hc] at h1
          have hykp : y.kp = some k := by simpa using h1
          have hjl : j < ops.size := by rw [← hlen]; exact (List.getElem?_eq_some_iff.1 hy).1
          obtain ⟨er', π1', π2', g1, g2, g3, g4, g4b, g5, _⟩ := e4 j ops[j] (by simp [hjl])
          rw [hy] at g1; injection g1 with g1; subst g1
          obtain ⟨b, q1, q2, q3, q4, q5⟩ := kpOf_ok (g4b.1 ▸ hykp) g5
          exact ⟨b, q1, q2, q3, q4, q5⟩
        refine (vstp_shape (k := k) (f4b.2 ▸ hsk) f5 f6 (fun d hd => (hag.1 d (by rw [f3]; exact hd)).symm) ?_).toI (vstp_cases f5).1
        rw [hinv (fun _ => true) i, hinv (fun j => listed.getD j false) ops.size]
    obtain ⟨μ, hstm⟩ := hst
    have hstep := hSt ro S w0 μ a w hstm (fun hn => by
      obtain ⟨d, g1, g2, _, g4⟩ := f7 hn
      refine ⟨d, g1, appD_clean (hcl d g2) _ fun j y hj hy hD => ?_⟩
      rcases Nat.lt_trichotomy j i with hlt | heq | hgt
      · exact g4 j y hlt hy
      · subst heq; rw [hiF] at hD; cases hD
      · obtain ⟨b, hb⟩ := Option.isSome_iff_exists.1 hn
        exact (hhigh j y hgt hy hD).n1 d b (by unfold newK; rw [hb, f2, g1])) (fun d hd => by
      obtain ⟨g2, _, g4⟩ := f8 d hd
      refine appD_clean (hcl d g2) _ fun j y hj hy hD => ?_
      rcases Nat.lt_trichotomy j i with hlt | heq | hgt
      · exact g4 j y hlt hy
      · subst heq; rw [hiF] at hD; cases hD
      · exact (hhigh j y hgt hy hD).f1 d hd) (wpAnyIn (WF ro) 0 P .any ops Q fuel (listed.setIfInBounds i true)) Q (fun a' w' hst' => by
      refine ih _ a' w' (by simpa using hsz) ?_ ?_ ?_
      · intro k o' hk ho' e he hb
        by_cases hki : k = i
        · subst hki
          rw [ho] at ho'; injection ho' with ho'; subst ho'
          exact getD_set_true (hpre e he hb)
        · rw [getD_set_ne false (Ne.symm hki)] at hk
          exact getD_set_true (hclo k o' hk ho' e he hb)
      · have hcs : ∀ (l : List Bool) (i : Nat) (h : i < l.length), l[i] = false → (l.set i true).countP (fun b => !b) + 1 = l.countP (fun b => !b) := by
          intro l
          induction l with
          | nil => intro i h; simp at h
          | cons b l ihl =>
            intro i h hb
            cases i with
            | zero => simp at hb; subst hb; simp
            | succ i =>
              have := ihl i (by simpa using h) (by simpa using hb)
              simp only [List.set_cons_succ, List.countP_cons]
              omega
        have hb : listed.toList[i]'(by simpa using hil') = false := by
          simp only [Array.getD_eq_getD_getElem?, Array.getElem?_eq_getElem hil', Option.getD_some] at hiF; simpa using hiF
        have := hcs listed.toList i (by simpa using hil') hb
        rw [Array.toList_setIfInBounds]; omega
      · have hadd := appD_add (ers := ers) (D := fun j => listed.getD j false) (D' := fun j => (listed.setIfInBounds i true).getD j false) (σ := σ) f1 hiF (by
          show (listed.setIfInBounds i true).getD i false = true
          simp [hil']) (fun j hj => getD_set_ne false (Ne.symm hj)) hhigh ops.size hil
        rw [← f2] at hst'
        exact hst'.veq hadd)
    unfold wpOpIn
    rw [ho]
    dsimp only
    split
    · rename_i hw; rw [if_pos hw] at hstep; exact hstep
    · rename_i hw; rw [if_neg hw] at hstep; exact ⟨fun _ _ => trivial, hstep⟩

theorem St.drawn {S : Ex} {w0 : Base} {w : World} {σ : VS} {a : Act} (h : St S w0 σ a w) : St S w0 σ a { w with drawn := w.drawn + 1 } := by
  obtain ⟨μ, h⟩ := h
  exact ⟨μ, h.later ⟨rfl, rfl, rfl, Nat.le_refl _, fun _ _ => rfl⟩⟩

/-- From the state σ the code c comes to its end e, in the state σ'. -/
def VTo (ro : Option Nat) (P : Program) (c : Code) (σ : VS) (e : Exit) (σ' : VS) : Prop :=
  ∀ S w0 a w, St S w0 σ a w → ∀ Q : Exit → Act → World → Prop, (∀ a' w', St S w0 σ' a' w' → Q e a' w') → c.wpIn (WF ro) 0 P Q a w
/-- The same for functions' own code. -/
def VT (P : Program) (c : Code) (σ : VS) (e : Exit) (σ' : VS) : Prop :=
  ∀ S w0 a w, St S w0 σ a w → ∀ Q : Exit → Act → World → Prop, (∀ a' w', St S w0 σ' a' w' → Q e a' w') → c.wp P Q a w

/-- Whether a call of this region gives what is fresh as a region. -/
def hasF : List PI → Bool
  | [] => false
  | .callf _ _ true :: _ => true
  | _ :: l => hasF l
def noRk (σ : VS) : Bool := σ.t.all (fun c => !c.ment rk) && σ.o.all (fun p => !(p.1 == rk) && !p.2.ment rk)
theorem look_in {k : Nat} {b : Blk} : ∀ {l : List (Nat × Blk)}, look l k = some b → (k, b) ∈ l
  | [], h => by cases h
  | (j, c) :: l, h => by
    rw [look] at h
    split at h
    · rename_i e; injection h with h; subst h; rw [eq_of_beq e]; exact List.mem_cons_self ..
    · exact List.mem_cons_of_mem _ (look_in h)
theorem noRk_ok {σ : VS} (h : noRk σ = true) : Clean rk σ := by
  unfold noRk at h
  rw [Bool.and_eq_true] at h
  refine ⟨fun i c hc => ?_, fun k b hk => ?_, ?_⟩
  · have := List.all_eq_true.1 h.1 c (List.mem_of_getElem? hc); simpa using this
  · have := List.all_eq_true.1 h.2 _ (look_in hk); simp at this; exact this.2
  · cases e : look σ.o rk with
    | none => rfl
    | some b => have := List.all_eq_true.1 h.2 _ (look_in e); simp at this
def ksOf (π : List PI) (ks : List Nat) (σ : VS) : List Nat := match hasF π && noRk σ with
  | true => rk :: ks
  | false => ks
theorem ksOf_clean {π : List PI} {ks : List Nat} {σ : VS} (h : ∀ d, ks.contains d = true → Clean d σ) : ∀ d, (ksOf π ks σ).contains d = true → Clean d σ := by
  intro d hd
  unfold ksOf at hd
  split at hd
  · rename_i e
    rw [Bool.and_eq_true] at e
    rw [List.contains_cons, Bool.or_eq_true] at hd
    rcases hd with hd | hd
    · rw [eq_of_beq hd]; exact noRk_ok e.2
    · exact h d hd
  · exact h d hd
def vregion (P : Program) (ops : Array Oper) (draw : Bool) (σ : VS) (π : List PI) : Option (List Prop × VS × List PI) :=
  match lowK (newKeys ops ++ frK π) with
  | false => none
  | true => match vlist P ops (ksOf π (newKeys ops ++ frK π) (regS (newKeys ops ++ frK π) σ)) ops.toList (regS (newKeys ops ++ frK π) σ) π [] with
  | some (ob, σ', π', ers) => match draw with
    | false => some (ob, σ', π')
    | true => match P.follows .mixedOrders && drawOk ops ers with
      | true => some (ob, σ', π')
      | false => none
  | none => none
theorem vregion_okI {ro : Option Nat} {P : Program} {id : Nat} {ops : Array Oper} {draw : Bool} {σ σ' : VS} {π π' : List PI} {ob : List Prop} (h : vregion P ops draw σ π = some (ob, σ', π')) (hob : All ob) : VTo ro P (.region id ops draw) σ .normal σ' := by
  unfold vregion at h
  split at h
  · cases h
  rename_i hlow
  split at h
  · rename_i ob2 σ2 π2 ers hv
    have hcl : ∀ d, (ksOf π (newKeys ops ++ frK π) (regS (newKeys ops ++ frK π) σ)).contains d = true → Clean d (regS (newKeys ops ++ frK π) σ) := ksOf_clean fun d hd => reg_clean _ _ d hd (by have := lowK_mem hlow hd; unfold rk; unfold pinB at this; omega)
    split at h
    · injection h with h; injection h with h1 h; injection h with h2 h3; subst h1 h2
      intro S w0 a w hst Q hQ
      exact wpIn_region_list (vlist_plain hv hob (regS_keyed _ _) (fun d hd _ => hcl d hd) ro S w0 a w (hst.reg _ hlow) Q hQ)
    · split at h
      · rename_i hc
        simp only [Bool.and_eq_true] at hc
        injection h with h; injection h with h1 h; injection h with h2 h3; subst h1 h2
        intro S w0 a w hst Q hQ
        refine wpIn_region_any hc.1 (run_draw hv hob hc.2 (regS_keyed _ _) hcl ro hQ ops.size _ a _ (by simp) ?_ ?_ ?_)
        · intro i o hi
          simp only [Array.getD_eq_getD_getElem?, Array.getElem?_replicate] at hi
          split at hi <;> cases hi
        · simp [List.countP_replicate]
        · have : ∀ n, appD ers (fun j => (Array.replicate ops.size false).getD j false) (regS (newKeys ops ++ frK π) σ) n = regS (newKeys ops ++ frK π) σ := by
            intro n
            induction n with
            | zero => rfl
            | succ n ih =>
              have hf : (Array.replicate ops.size false).getD n false = false := by
                simp only [Array.getD_eq_getD_getElem?, Array.getElem?_replicate]; split <;> rfl
              rw [appD]
              split
              · rw [if_neg (by rw [hf]; simp)]; exact ih
              · exact ih
          rw [this]; exact (hst.reg _ hlow).drawn
      · cases h
  · cases h
theorem VTo.toVT {P : Program} {c : Code} {σ σ' : VS} {e : Exit} (h : VTo none P c σ e σ') : VT P c σ e σ' := fun S w0 a w hst Q hQ => wpIn_wide.1 (h S w0 a w hst Q hQ)
theorem VT.toO {P : Program} {c : Code} {σ σ' : VS} {e : Exit} (h : VT P c σ e σ') : VTo none P c σ e σ' := fun S w0 a w hst Q hQ => wpIn_wide.2 (h S w0 a w hst Q hQ)
end Go.Proofs.YtdmkhinckljddaaGreat
namespace Go.Proofs.YtdmkhinckljddaaGreat
open Go.RowKit

/-! ### Steps that nothing in the program makes: what is known is told more weakly, or under another name -/
/-- A frozen slice; a fresh one. -/
def frA (fr : Bool) (z : Nat) (rows : List (List AV)) : AV := match fr with
  | true => .fs z rows
  | false => .sl z rows
theorem St.freeze {S : Ex} {w0 : Base} {w : World} {σ : VS} {a : Act} (h : St S w0 σ a w) {k : Nat} {e : TypeId} {z : Nat} {rows : List (List AV)} (fr : Bool) (hk : look σ.o k = some (.slc e z rows)) (hkp : k < pinB) :
    St S w0 ⟨σ.t.map (AV.map (fun j => if j = k then frA fr z rows else .own j) (fun j i o => if j = k then .any else .ptr j i o)), mapO (fun j => if j = k then frA fr z rows else .own j) (fun j i o => if j = k then .any else .ptr j i o) (drop1 k σ.o)⟩ a w := by
  obtain ⟨μ, h⟩ := h
  have hX : ∀ b, XOf S (fun j => if j = k then none else μ j) b → XOf S μ b := by
    rintro b (hs | ⟨j, o, hj, hg⟩)
    · exact .inl hs
    · dsimp only at hj; split at hj
      · cases hj
      · exact .inr ⟨j, o, hj, hg⟩
  refine ⟨fun j => if j = k then none else μ j, h.remap _ _ _ (fun j => j) hX ?_ ?_ ?_ (fun k k' _ _ _ _ e => e) ?_ ?_ (fun j o hj => by
    have h2 := h.old.hi j o hj
    rw [if_neg (by omega)]; exact h.old.pin j o hj) (.inl (if_neg (by unfold rk; unfold pinB at hkp; omega)))⟩
  · intro j v hr
    by_cases hj : j = k
    · subst hj
      rw [if_pos rfl]
      have hp := own_sl h hk hr hX (fun _ h => h) fun o g ho hg => by
        rintro (hs | ⟨j', o', hj', hg'⟩)
        · exact h.sep ho (.inl hg) hs
        · dsimp only at hj'; split at hj'
          · cases hj'
          · rename_i hne; exact hne (h.inj _ _ o' o g hj' ho hg' (.inl hg))
      cases fr with
      | false => exact .pure hp
      | true =>
        refine .pure (.fs hp fun hne ad n c e => ?_)
        cases hr with
        | pure hp => cases hp
        | deadO _ hd => obtain ⟨o, ho, _⟩ := h.blks _ _ hk; rw [ho] at hd; cases hd
        | own h1 =>
          rename_i o
          cases hg : o.g with
          | none => rw [hg] at e; simp at e
          | some g =>
            rw [hg] at e
            simp only [Option.map_some, Value.slice.injEq, Option.some.injEq] at e
            obtain ⟨rfl, _⟩ := e
            refine ⟨fun hf => ?_, ?_⟩
            · rcases (h.lt h1 (.inl hg)).1 with h4 | h4
              · have := (h.old.fr _ hf).1; dsimp only at this; omega
              · exact (h.old.fr _ hf).2 h4
            · obtain ⟨o2, ho2, _, _, _, _, _, hcase⟩ := h.blks _ _ hk
              rw [h1] at ho2; injection ho2 with ho2; subst ho2
              rcases hcase with ⟨hg0, hr0, _⟩ | ⟨g', cs, hg1, _, hh, _⟩
              · exact absurd hr0 hne
              · rw [hg] at hg1; injection hg1 with hg1; subst hg1
                exact ⟨cs, _, hh⟩
    · rw [if_neg hj]
      exact hr.step ⟨Nat.le_refl _, fun _ _ _ => rfl, fun b _ h => hX b h, fun _ h => h⟩ fun i hi => by simp [AV.ment] at hi; subst hi; left; simp only [if_neg hj]
  · intro j i o v hr
    by_cases hj : j = k
    · rw [if_pos hj]; exact .any _
    · rw [if_neg hj]
      exact hr.step ⟨Nat.le_refl _, fun _ _ _ => rfl, fun b _ h => hX b h, fun _ h => h⟩ fun i hi => by simp [AV.ment] at hi; subst hi; left; simp only [if_neg hj]
  · intro j o hj; split at hj
    · cases hj
    · exact hj
  · rintro j ⟨o, hj⟩
    split at hj
    · cases hj
    · rename_i hn
      obtain ⟨b, hb, _⟩ := h.live j o hj
      exact ⟨b, hb, by rw [look_mapO, look_drop1, if_neg (Ne.symm hn), hb]; rfl⟩
  · intro j b hj
    rw [look_mapO, look_drop1] at hj
    split at hj
    · cases hj
    · rename_i hn
      rw [Option.map_eq_some_iff] at hj
      obtain ⟨b0, hb0, _⟩ := hj
      obtain ⟨o, ho, _⟩ := h.blks j b0 hb0
      exact ⟨o, by simp only [if_neg (Ne.symm hn)]; exact ho⟩

def renO (d k : Nat) : List (Nat × Blk) → List (Nat × Blk)
  | [] => []
  | (j, b) :: l => (if j == d then k else j, b) :: renO d k l
/-- The block d under the name k (k is free). -/
theorem St.ren {S : Ex} {w0 : Base} {w : World} {σ : VS} {a : Act} (h : St S w0 σ a w) (d k : Nat) (hdk : d ≠ k) (hc : Clean k σ) (hdp : d < pinB) (hkp : k < pinB) :
    St S w0 ⟨σ.t.map (AV.map (fun j => if j = d then .own k else .own j) (fun j i o => if j = d then .ptr k i o else .ptr j i o)), mapO (fun j => if j = d then .own k else .own j) (fun j i o => if j = d then .ptr k i o else .ptr j i o) (renO d k σ.o)⟩ a w := by
  obtain ⟨μ, h⟩ := h
  have hμk : μ k = none := by
    cases hm : μ k with
    | none => rfl
    | some o => obtain ⟨b, hb, _⟩ := h.live k o hm; rw [hc.n] at hb; cases hb
  have hlook : ∀ l, look l k = none → ∀ j, look (renO d k l) j = if j = k then look l d else if j = d then none else look l j := by
    intro l
    induction l with
    | nil => intro _ j; simp [renO, look]
    | cons p l ih =>
      obtain ⟨q, b⟩ := p
      intro hn j
      rw [look] at hn
      split at hn
      · cases hn
      · rename_i hqk
        have hqk : q ≠ k := by simpa using hqk
        have ih := ih hn j
        rw [renO, look, ih, look, look]
        by_cases hqd : q = d
        · subst hqd
          by_cases hjk : j = k
          · subst hjk; simp
          · by_cases hjd : j = q
            · subst hjd; simp [hjk, Ne.symm hjk]
            · simp [hjk, Ne.symm hjk, hjd, Ne.symm hjd]
        · by_cases hjk : j = k
          · subst hjk; simp [hqd, hqk]
          · by_cases hjd : j = d
            · subst hjd; simp [hqd, hjk]
            · simp [hqd, hjk, hjd]
  have hX : ∀ b, XOf S (fun j => if j = k then μ d else if j = d then none else μ j) b → XOf S μ b := by
    rintro b (hs | ⟨j, o, hj, hg⟩)
    · exact .inl hs
    · dsimp only at hj; split at hj
      · exact .inr ⟨d, o, hj, hg⟩
      · split at hj
        · cases hj
        · exact .inr ⟨j, o, hj, hg⟩
  have hw : Wd (XOf S μ) (XOf S (fun j => if j = k then μ d else if j = d then none else μ j)) w w := ⟨Nat.le_refl _, fun _ _ _ => rfl, fun b _ h => hX b h, fun _ h => h⟩
  have hrk : (fun j => if j = k then μ d else if j = d then none else μ j) rk = μ rk := by
    dsimp only
    rw [if_neg (by unfold rk; unfold pinB at hkp; omega), if_neg (by unfold rk; unfold pinB at hdp; omega)]
  have hown : ∀ j v, j ≠ k → Rel μ (XOf S μ) w (.own j) v → Rel (fun j => if j = k then μ d else if j = d then none else μ j) (XOf S (fun j => if j = k then μ d else if j = d then none else μ j)) w (if j = d then .own k else .own j) v := by
    intro j v hj hr
    by_cases hjd : j = d
    · subst hjd; rw [if_pos rfl]
      cases hr with
      | pure hp => cases hp
      | own h1 => exact .own (by simpa using h1)
      | deadO _ hn => exact .deadO _ (by simpa using hn)
    · rw [if_neg hjd]
      exact hr.step hw fun i hi => by simp [AV.ment] at hi; subst hi; left; simp only [if_neg hj, if_neg hjd]
  have hptr : ∀ j i o v, j ≠ k → Rel μ (XOf S μ) w (.ptr j i o) v → Rel (fun j => if j = k then μ d else if j = d then none else μ j) (XOf S (fun j => if j = k then μ d else if j = d then none else μ j)) w (if j = d then .ptr k i o else .ptr j i o) v := by
    intro j i o v hj hr
    by_cases hjd : j = d
    · subst hjd; rw [if_pos rfl]
      cases hr with
      | pure hp => cases hp
      | ptr h1 hg => exact .ptr (by simpa using h1) hg
      | deadP _ hn => exact .deadP _ (by simpa using hn)
    · rw [if_neg hjd]
      exact hr.step hw fun i hi => by simp [AV.ment] at hi; subst hi; left; simp only [if_neg hj, if_neg hjd]
  have hmap : ∀ c v, c.ment k = false → Rel μ (XOf S μ) w c v → Rel (fun j => if j = k then μ d else if j = d then none else μ j) (XOf S (fun j => if j = k then μ d else if j = d then none else μ j)) w (c.map (fun j => if j = d then .own k else .own j) (fun j i o => if j = d then .ptr k i o else .ptr j i o)) v := by
    intro c v hm hr
    induction hr with
    | any v => exact .any v
    | pure hp => cases hp with
      | lit => exact .pure (.lit _)
      | nil _ hm' h0 => exact .pure (.nil _ hm' h0)
      | sl cv hX hb hc hmm hz h1 h2 h3 => exact .pure ((PRel.sl cv hX hb hc hmm hz h1 h2 h3).step hw)
      | fs h hF => exact .pure ((PRel.fs h hF).step hw)
    | @agg l vs hl hh ih =>
      rw [AV.map, AV.mapL_eq]
      refine .agg (by simpa using hl) fun i c v hc hv => ?_
      rw [List.getElem?_map, Option.map_eq_some_iff] at hc
      obtain ⟨c0, h0, rfl⟩ := hc
      exact ih i c0 v h0 hv (AV.mentL_not (by simpa [AV.ment] using hm) h0)
    | @tup l vs hl hh ih =>
      rw [AV.map, AV.mapL_eq]
      refine .tup (by simpa using hl) fun i c v hc hv => ?_
      rw [List.getElem?_map, Option.map_eq_some_iff] at hc
      obtain ⟨c0, h0, rfl⟩ := hc
      exact ih i c0 v h0 hv (AV.mentL_not (by simpa [AV.ment] using hm) h0)
    | @clo f l vs hl hh ih =>
      rw [AV.map, AV.mapL_eq]
      refine .clo (by simpa using hl) fun i c v hc hv => ?_
      rw [List.getElem?_map, Option.map_eq_some_iff] at hc
      obtain ⟨c0, h0, rfl⟩ := hc
      exact ih i c0 v h0 hv (AV.mentL_not (by simpa [AV.ment] using hm) h0)
    | @ia row b off cv hXb hb h1 h2 =>
      exact .ia cv (fun h => hXb (hw.out _ hb h)) hb h1 (fun j c hj => (h2 j c hj).step hw)
    | @own j o h1 => exact hown j _ (by simpa [AV.ment] using hm) (.own h1)
    | @ptr j i o oi g h1 hg => exact hptr j i o _ (by simpa [AV.ment] using hm) (.ptr h1 hg)
    | @deadO j v h1 => exact hown j _ (by simpa [AV.ment] using hm) (.deadO v h1)
    | @deadP j i o v h1 => exact hptr j i o _ (by simpa [AV.ment] using hm) (.deadP v h1)
    | opt h1 h0 ih => exact .opt (fun hc => ih hc (by simpa [AV.ment] using hm)) h0
    | ifc h ih => exact .ifc (ih (by simpa [AV.ment] using hm))
    | mth h ih => exact .mth (ih (by simpa [AV.ment] using hm))
    | bnd h ih => exact .bnd (ih (by simpa [AV.ment] using hm))
    | @mp j o g h1 hg => exact mpOf_ok (fun v h => hptr j 0 0 v (by simpa [AV.ment] using hm) h) (.mp h1 hg)
    | @deadM j v h1 => exact mpOf_ok (fun v h => hptr j 0 0 v (by simpa [AV.ment] using hm) h) (.deadM v h1)
    | @yl j o g h1 hg => exact ylOf_ok (fun v h => hptr j 0 0 v (by simpa [AV.ment] using hm) h) (.yl h1 hg)
    | @deadY j v h1 => exact ylOf_ok (fun v h => hptr j 0 0 v (by simpa [AV.ment] using hm) h) (.deadY v h1)
    | tr h1 hr hp => exact .tr (hrk.trans h1) hr hp
    | deadT v h1 => exact .deadT v (hrk.trans h1)
    | tia cv h1 hr hb h2 h3 => exact .tia cv (hrk.trans h1) hr hb h2 h3
    | deadI v h1 => exact .deadI v (hrk.trans h1)
    | uint n => exact .uint n
  refine ⟨fun j => if j = k then μ d else if j = d then none else μ j, ?_⟩
  have base := h
  refine ⟨h.defers.step hw, by simpa using h.size, fun i c v hci hv => ?_, ?_, ?_, ?_, h.below, ⟨h.old.lt, fun j o hj => by
    have h2 := h.old.hi j o hj
    rw [if_neg (by omega), if_neg (by omega)]; exact h.old.pin j o hj, h.old.hi, h.old.tab, h.old.fr⟩⟩
  · dsimp only at hci
    rw [List.getElem?_map, Option.map_eq_some_iff] at hci
    obtain ⟨c0, h0, rfl⟩ := hci
    exact hmap c0 v (hc.t i c0 h0) (h.tmps i c0 v h0 hv)
  · intro j b hj
    dsimp only at hj
    rw [look_mapO, hlook _ hc.n, Option.map_eq_some_iff] at hj
    obtain ⟨b0, hb0, rfl⟩ := hj
    have key : ∀ j', look σ.o j' = some b0 → (if j = k then μ d else if j = d then none else μ j) = μ j' → ∃ o, (if j = k then μ d else if j = d then none else μ j) = some o ∧ BlkOK w0.mine (fun j => if j = k then μ d else if j = d then none else μ j) (XOf S (fun j => if j = k then μ d else if j = d then none else μ j)) w o (mapBlk (fun j => if j = d then .own k else .own j) (fun j i o => if j = d then .ptr k i o else .ptr j i o) b0) := by
      intro j' hj' he
      obtain ⟨o, ho, hB⟩ := h.blks j' b0 hj'
      refine ⟨o, he.trans ho, ?_⟩
      have hm := hc.o j' b0 hj'
      cases b0 with
      | var cells =>
        obtain ⟨g, cs, T, e, h1, h2, h3, h4, h5⟩ := hB
        refine ⟨g, cs, T, e, h1, h2, by rw [AV.mapL_eq]; simpa using h3, by rw [AV.mapL_eq]; simpa using h4, fun q c v hcq hv => ?_⟩
        rw [AV.mapL_eq, List.getElem?_map, Option.map_eq_some_iff] at hcq
        obtain ⟨c0, h0, rfl⟩ := hcq
        exact hmap c0 v (AV.mentL_not hm h0) (h5 q c0 v h0 hv)
      | slc e z rows =>
        obtain ⟨h1, h2, h3, h4, h5, h6⟩ := hB
        refine ⟨h1, h2, h3, h4, h5, ?_⟩
        rcases h6 with h6 | ⟨g, cs, e', h7, h8, h9, h10⟩
        · exact .inl h6
        · exact .inr ⟨g, cs, e', h7, h8, h9, fun i r j c v hi hj hv => ⟨(h10 i r j c v hi hj hv).1.step hw, (h10 i r j c v hi hj hv).2⟩⟩
      | obj x => exact hB
      | lp b R t =>
        obtain ⟨g, fn, ts, D, e, h1, h2, h3, h5⟩ := hB
        refine ⟨g, fn, ts, D, e, h1, h2, by rw [AV.mapL_eq]; simpa using h3, fun q c v hcq hv => ?_⟩
        rw [AV.mapL_eq, List.getElem?_map, Option.map_eq_some_iff] at hcq
        obtain ⟨c0, h0, rfl⟩ := hcq
        exact hmap c0 v (AV.mentL_not hm h0) (h5 q c0 v h0 hv)
      | foc e z rows i r =>
        obtain ⟨h1, h2, h3, h4, h5, hi, hr, g, cs, e', h7, h8, h9, h10, h11⟩ := hB
        refine ⟨h1, h2, h3, h4, h5, hi, by rw [AV.mapL_eq]; simpa using hr, g, cs, e', h7, h8, h9, fun i r j c v hn hi hj hv => ⟨(h10 i r j c v hn hi hj hv).1.step hw, (h10 i r j c v hn hi hj hv).2⟩, fun j c v hj hv => ?_⟩
        rw [AV.mapL_eq, List.getElem?_map, Option.map_eq_some_iff] at hj
        obtain ⟨c0, h0, rfl⟩ := hj
        exact ⟨hmap c0 v (AV.mentL_not hm h0) (h11 j c0 v h0 hv).1, (h11 j c0 v h0 hv).2⟩
      | reg m => exact hB
    by_cases hjk : j = k
    · rw [if_pos hjk] at hb0; exact key d hb0 (by rw [if_pos hjk])
    · rw [if_neg hjk] at hb0
      split at hb0
      · cases hb0
      · rename_i hjd; exact key j hb0 (by rw [if_neg hjk, if_neg hjd])
  · intro j o hj
    dsimp only at hj ⊢
    rw [look_mapO, hlook _ hc.n]
    by_cases hjk : j = k
    · rw [if_pos hjk] at hj ⊢
      obtain ⟨b, hb, hl⟩ := h.live d o hj; rw [hb]; exact ⟨_, rfl, fun e => by have := (hl e).1; unfold rk at this; unfold pinB at hdp; omega⟩
    · rw [if_neg hjk] at hj ⊢
      split at hj
      · cases hj
      · rename_i hjd; rw [if_neg hjd]; obtain ⟨b, hb, hl⟩ := h.live j o hj; rw [hb]; exact ⟨_, rfl, fun e => ⟨(hl e).1, by obtain ⟨m, rfl⟩ := (hl e).2; exact ⟨m, rfl⟩⟩⟩
  · intro j j' o o2 g hj hj' hg hg'
    by_cases hjk : j = k <;> by_cases hjk' : j' = k
    · rw [hjk, hjk']
    · rw [if_pos hjk] at hj; rw [if_neg hjk'] at hj'
      split at hj'
      · cases hj'
      · rename_i hjd'; exact absurd (h.inj _ _ o o2 g hj hj' hg hg').symm hjd'
    · rw [if_neg hjk] at hj; rw [if_pos hjk'] at hj'
      split at hj
      · cases hj
      · rename_i hjd; exact absurd (h.inj _ _ o o2 g hj hj' hg hg') hjd
    · rw [if_neg hjk] at hj; rw [if_neg hjk'] at hj'
      split at hj
      · cases hj
      · split at hj'
        · cases hj'
        · exact h.inj _ _ o o2 g hj hj' hg hg'
end Go.Proofs.YtdmkhinckljddaaGreat
namespace Go.Proofs.YtdmkhinckljddaaGreat
open Go.RowKit

def anyS (l : List Nat) (t : List AV) : List AV := match l with
  | [] => t
  | i :: l => anyS l (t.set i .any)
theorem St.anyS {S : Ex} {w0 : Base} {w : World} {a : Act} : ∀ {l : List Nat} {σ : VS}, St S w0 σ a w → St S w0 ⟨anyS l σ.t, σ.o⟩ a w
  | [], _, h => h
  | i :: l, σ, ⟨μ, h⟩ => by
    refine St.anyS (l := l) (σ := ⟨σ.t.set i .any, σ.o⟩) ⟨μ, h.defers, by simpa using h.size, fun j c v hc hv => ?_, h.blks, h.live, h.inj, h.below, h.old⟩
    dsimp only at hc
    rw [List.getElem?_set] at hc
    split at hc
    · split at hc
      · injection hc with hc; subst hc; exact .any _
      · cases hc
    · exact h.tmps j c v hc hv
/-- A slot is known more weakly. -/
theorem St.setW {S : Ex} {w0 : Base} {w : World} {a : Act} {σ : VS} (h : St S w0 σ a w) {i : Nat} {b c : AV} (hb : σ.t[i]? = some b) (hw : Weak b c) : St S w0 ⟨σ.t.set i c, σ.o⟩ a w := by
  obtain ⟨μ, h⟩ := h
  refine ⟨μ, h.defers, by simpa using h.size, fun j d v hc hv => ?_, h.blks, h.live, h.inj, h.below, h.old⟩
  dsimp only at hc
  rw [List.getElem?_set] at hc
  split at hc
  · rename_i e; subst e
    split at hc
    · injection hc with hc; subst hc; exact hw _ _ _ _ (h.tmps i b v hb hv)
    · cases hc
  · exact h.tmps j d v hc hv
/-- A slot that holds nil, as a slice of the call's own, without elements. -/
theorem St.nilOwn {S : Ex} {w0 : Base} {w : World} {a : Act} {σ : VS} (h : St S w0 σ a w) {d : Nat} (e : TypeId) (z : Nat) (hc : Clean d σ) : St S w0 ⟨σ.t.map fun c => match c with | .lit (.slice none 0 0) => .own d | c => c, put1 d (.slc e z []) σ.o⟩ a w := by
  obtain ⟨μ, h⟩ := h
  have hf := h.fresh (w' := w) d none hc ⟨none, z, 0, 0, none⟩ (.slc e z []) (Nat.le_refl _) (fun _ _ _ => rfl) h.below (fun _ h => by cases h) (fun g hg => by cases hg) (fun μ' hμ' hw => ⟨rfl, rfl, by simp, by simp, by unfold maxLen; simp, .inl ⟨rfl, rfl, rfl⟩⟩)
  refine ⟨_, hf.defers, by simpa using hf.size, fun j c v hc' hv => ?_, hf.blks, hf.live, hf.inj, hf.below, hf.old⟩
  dsimp only at hc'
  rw [List.getElem?_map, Option.map_eq_some_iff] at hc'
  obtain ⟨c0, h0, rfl⟩ := hc'
  have hr := hf.tmps j c0 v h0 hv
  split
  · have := rel_lit hr; subst this
    have ho := Rel.own (μ := fun j => if j = d then some (⟨none, z, 0, 0, none⟩ : OI) else if (none : Option Nat) = some j then none else μ j) (X := XOf S (fun j => if j = d then some (⟨none, z, 0, 0, none⟩ : OI) else if (none : Option Nat) = some j then none else μ j)) (w := w) (k := d) (o := ⟨none, z, 0, 0, none⟩) (by simp)
    exact ho
  · exact hr
theorem St.nilCell {S : Ex} {w0 : Base} {w : World} {a : Act} {σ : VS} (h : St S w0 σ a w) {d k : Nat} (e : TypeId) (z : Nat) (hc : Clean d σ) {cells : List AV} (hk : look σ.o k = some (.var cells)) (j0 : Nat) (hj0 : cells[j0]? = some (.lit (.slice none 0 0))) :
    St S w0 ⟨σ.t, put1 k (.var (cells.set j0 (.own d))) (put1 d (.slc e z []) σ.o)⟩ a w := by
  obtain ⟨μ, h⟩ := h
  have hdk : d ≠ k := by rintro rfl; rw [hc.n] at hk; cases hk
  have hf := h.fresh (w' := w) d none hc ⟨none, z, 0, 0, none⟩ (.slc e z []) (Nat.le_refl _) (fun _ _ _ => rfl) h.below (fun _ h => by cases h) (fun g hg => by cases hg) (fun μ' hμ' hw => ⟨rfl, rfl, by simp, by simp, by unfold maxLen; simp, .inl ⟨rfl, rfl, rfl⟩⟩)
  have hlk : look (put1 d (.slc e z []) σ.o) k = some (.var cells) := by rw [look_put1, if_neg hdk]; exact hk
  obtain ⟨o, ho, g, cs, T, hg, hB, hh, hs, hz, hrel⟩ := hf.blks k _ hlk
  refine ⟨_, hf.write k o g ho hg _ rfl (fun _ _ => rfl) hf.below fun hw => ⟨g, cs, T, hg, hB, hh, by simpa using hs, by simpa using hz, fun j c v hcj hv => ?_⟩⟩
  rw [List.getElem?_set] at hcj
  split at hcj
  · rename_i e'; subst e'
    split at hcj
    · injection hcj with hcj; subst hcj
      have hr := hrel _ _ v hj0 hv
      have := rel_lit hr; subst this
      exact Rel.own (o := ⟨none, z, 0, 0, none⟩) (by simp)
    · cases hcj
  · exact hrel j c v hcj hv

/-- One slot that holds nil, as a slice of the call's own, without elements. -/
theorem St.nilSlot {S : Ex} {w0 : Base} {w : World} {a : Act} {σ : VS} (h : St S w0 σ a w) {d i : Nat} (e : TypeId) (z : Nat) (hc : Clean d σ) (hi : σ.t[i]? = some (.lit (.slice none 0 0))) : St S w0 ⟨σ.t.set i (.own d), put1 d (.slc e z []) σ.o⟩ a w := by
  obtain ⟨μ, h⟩ := h
  have hf := h.fresh (w' := w) d none hc ⟨none, z, 0, 0, none⟩ (.slc e z []) (Nat.le_refl _) (fun _ _ _ => rfl) h.below (fun _ h => by cases h) (fun g hg => by cases hg) (fun μ' hμ' hw => ⟨rfl, rfl, by simp, by simp, by unfold maxLen; simp, .inl ⟨rfl, rfl, rfl⟩⟩)
  refine ⟨_, hf.defers, by simpa using hf.size, fun j c v hc' hv => ?_, hf.blks, hf.live, hf.inj, hf.below, hf.old⟩
  dsimp only at hc'
  rw [List.getElem?_set] at hc'
  split at hc'
  · rename_i e'; subst e'
    split at hc'
    · injection hc' with hc'; subst hc'
      have hr := hf.tmps i _ v hi hv
      have := rel_lit hr; subst this
      exact Rel.own (μ := fun j => if j = d then some (⟨none, z, 0, 0, none⟩ : OI) else if (none : Option Nat) = some j then none else μ j) (X := XOf S (fun j => if j = d then some (⟨none, z, 0, 0, none⟩ : OI) else if (none : Option Nat) = some j then none else μ j)) (w := w) (k := d) (o := ⟨none, z, 0, 0, none⟩) (by simp)
    · cases hc'
  · exact hf.tmps j c v hc' hv
/-- Blocks in the order of their names. -/
def insO (k : Nat) (b : Blk) : List (Nat × Blk) → List (Nat × Blk)
  | [] => [(k, b)]
  | (j, c) :: l => if Nat.ble k j then (k, b) :: (j, c) :: l else (j, c) :: insO k b l
theorem look_insO (k : Nat) (b : Blk) (k' : Nat) : ∀ l, look (insO k b l) k' = if k = k' then some b else look l k'
  | [] => by simp [insO, look]
  | (j, c) :: l => by
    rw [insO]
    by_cases h : Nat.ble k j = true
    · rw [if_pos h, look]
      by_cases hk : k = k' <;> simp [hk]
    · rw [if_neg h, look, look_insO k b k' l, look]
      have hlt : j < k := by
        apply Classical.byContradiction; intro hh; exact h (Nat.ble_eq_true_of_le (by omega))
      by_cases hj : j = k'
      · subst hj; have : ¬ k = j := by omega
        simp [this]
      · simp [hj]
def sortO : List (Nat × Blk) → List (Nat × Blk)
  | [] => []
  | (k, b) :: l => insO k b (sortO l)
theorem look_sortO (k' : Nat) : ∀ l, look (sortO l) k' = look l k'
  | [] => rfl
  | (k, b) :: l => by
    rw [sortO, look_insO, look, look_sortO k' l]
    by_cases hk : k = k' <;> simp [hk]
theorem St.sort {S : Ex} {w0 : Base} {w : World} {a : Act} {σ : VS} (h : St S w0 σ a w) : St S w0 ⟨σ.t, sortO σ.o⟩ a w := by
  obtain ⟨μ, h⟩ := h
  exact ⟨μ, h.defers, h.size, h.tmps, fun k b hk => h.blks k b (by rw [← look_sortO]; exact hk), fun k o hk => by rw [look_sortO]; exact h.live k o hk, h.inj, h.below, h.old⟩
/-- What is so known of a cell is known more weakly. -/
def PW (a b : AV) : Prop := ∀ X w v, PRel X w a v → PRel X w b v
theorem PW.refl (a : AV) : PW a a := fun _ _ _ h => h
/-- The same of a row of cells, and of rows. -/
def CW (r s : List AV) : Prop := r.length = s.length ∧ ∀ (j : Nat) (a b : AV), r[j]? = some a → s[j]? = some b → PW a b
theorem CW.refl (r : List AV) : CW r r := ⟨rfl, fun j a b h g => by rw [h] at g; injection g with g; subst g; exact .refl _⟩
theorem CW.cons {a b : AV} {r s : List AV} (h : PW a b) (t : CW r s) : CW (a :: r) (b :: s) := ⟨by simp [t.1], fun j x y hx hy => by
  cases j with
  | zero => simp at hx hy; subst hx hy; exact h
  | succ j => exact t.2 j x y (by simpa using hx) (by simpa using hy)⟩
def RowsW (l m : List (List AV)) : Prop := l.length = m.length ∧ ∀ (i : Nat) (r s : List AV), l[i]? = some r → m[i]? = some s → CW r s
theorem Weak.rowsW {z : Nat} {l m : List (List AV)} (h : RowsW l m) : Weak (.sl z l) (.sl z m) := fun μ X w v hr => by
  have hp : PRel X w (.sl z l) v := by cases hr with | pure hp => exact hp
  refine .pure ?_
  cases hp with
  | nil _ hm h0 =>
    have : m = [] := List.eq_nil_of_length_eq_zero h.1.symm
    subst this; exact .nil z hm h0
  | @sl _ _ b off cap cv hX hb hc hm hz h1 h2 h3 =>
    have hne : m ≠ [] → l ≠ [] := fun hmn hl => by subst hl; exact hmn (List.eq_nil_of_length_eq_zero h.1.symm)
    rw [h.1] at hc ⊢
    have get : ∀ (i : Nat) (s : List AV), m[i]? = some s → ∃ r, l[i]? = some r ∧ CW r s := fun i s hs => by
      have hi : i < l.length := by rw [h.1]; exact (List.getElem?_eq_some_iff.1 hs).1
      exact ⟨l[i], List.getElem?_eq_getElem hi, h.2 i _ s (List.getElem?_eq_getElem hi) hs⟩
    have get2 : ∀ (i : Nat) (s : List AV) (j : Nat) (c : AV), m[i]? = some s → s[j]? = some c → ∃ r a, l[i]? = some r ∧ r[j]? = some a ∧ PW a c := fun i s j c hs hj => by
      obtain ⟨r, hr, hcw⟩ := get i s hs
      have hjl : j < r.length := by rw [hcw.1]; exact (List.getElem?_eq_some_iff.1 hj).1
      exact ⟨r, r[j], hr, List.getElem?_eq_getElem hjl, hcw.2 j _ c (List.getElem?_eq_getElem hjl) hj⟩
    refine .sl cv (fun hn => hX (hne hn)) (fun hn => hb (hne hn)) hc hm (fun i s hs => ?_) (fun i s j c hs hj => ?_) (fun i s j c hs hj => ?_) (fun i s j c hs hj => ?_)
    · obtain ⟨r, hr, hcw⟩ := get i s hs
      rw [← hcw.1]; exact hz i r hr
    · obtain ⟨r, a, hr, ha, _⟩ := get2 i s j c hs hj
      exact h1 i r j a hr ha
    · obtain ⟨r, a, hr, ha, hpw⟩ := get2 i s j c hs hj
      exact hpw _ _ _ (h2 i r j a hr ha)
    · obtain ⟨r, a, hr, ha, _⟩ := get2 i s j c hs hj
      exact h3 i r j a hr ha
/-- What is so known of a block is known more weakly. -/
inductive BlkW : Blk → Blk → Prop
  | eq {b b' : Blk} (h : b = b') : BlkW b b'
  | rowsW {e : TypeId} {z : Nat} {l m : List (List AV)} (h : RowsW l m) : BlkW (.slc e z l) (.slc e z m)
  | var {l m : List AV} (h : WeakL l m) : BlkW (.var l) (.var m)
  | melt : BlkW (.reg false) (.reg true)
theorem St.blkW {S : Ex} {w0 : Base} {w : World} {a : Act} {σ : VS} (h : St S w0 σ a w) {k : Nat} {b b' : Blk} (hb : look σ.o k = some b) (hw : BlkW b b') : St S w0 ⟨σ.t, put1 k b' σ.o⟩ a w := by
  obtain ⟨μ, h⟩ := h
  refine ⟨μ, h.defers, h.size, h.tmps, fun j c hj => ?_, fun j o hj => ?_, h.inj, h.below, h.old⟩
  · dsimp only at hj
    rw [look_put1] at hj
    split at hj
    · rename_i e; subst e
      injection hj with hj; subst hj
      obtain ⟨o, ho, hB⟩ := h.blks k b hb
      refine ⟨o, ho, ?_⟩
      cases hw with
      | eq h => subst h; exact hB
      | @rowsW e z l m hl =>
        obtain ⟨h1, h2, h3, h4, h5, h6⟩ := hB
        have get : ∀ (i : Nat) (s : List AV), m[i]? = some s → ∃ r, l[i]? = some r ∧ CW r s := fun i s hs => by
          have hi : i < l.length := by rw [hl.1]; exact (List.getElem?_eq_some_iff.1 hs).1
          exact ⟨l[i], List.getElem?_eq_getElem hi, hl.2 i _ s (List.getElem?_eq_getElem hi) hs⟩
        refine ⟨h1, by rw [h2, hl.1], fun i s hs => ?_, by rw [← hl.1]; exact h4, h5, ?_⟩
        · obtain ⟨r, hr, hcw⟩ := get i s hs
          rw [← hcw.1]; exact h3 i r hr
        · rcases h6 with ⟨g1, g2, g3⟩ | ⟨g, cs, e', h7, h8, h9, h10⟩
          · subst g2
            exact .inl ⟨g1, List.eq_nil_of_length_eq_zero hl.1.symm, g3⟩
          · refine .inr ⟨g, cs, e', h7, h8, h9, fun i s j c v hs hj hv => ?_⟩
            obtain ⟨r, hr, hcw⟩ := get i s hs
            have hjl : j < r.length := by rw [hcw.1]; exact (List.getElem?_eq_some_iff.1 hj).1
            obtain ⟨q1, q2⟩ := h10 i r j _ v hr (List.getElem?_eq_getElem hjl) hv
            exact ⟨hcw.2 j _ c (List.getElem?_eq_getElem hjl) hj _ _ _ q1, q2⟩
      | var hl =>
        obtain ⟨g, cs, T, e, h1, h2, h3, h4, h5⟩ := hB
        refine ⟨g, cs, T, e, h1, h2, by rw [h3, hl.1], by rw [h4, hl.1], fun j c v hc hv => ?_⟩
        rename_i l m
        have hlt : j < l.length := by rw [hl.1]; exact (List.getElem?_eq_some_iff.1 hc).1
        exact hl.2 j _ c (List.getElem?_eq_getElem hlt) hc _ _ _ _ (h5 j _ v (List.getElem?_eq_getElem hlt) hv)
      | melt =>
        obtain ⟨lo, W, q1, q2, q3, q4⟩ := hB
        exact ⟨lo, W, q1, q2, q3, fun b h1 h2 => ⟨(q4 b h1 h2).1, (fun e => by cases e), (q4 b h1 h2).2.2⟩⟩
    · exact h.blks j c hj
  · dsimp only
    rw [look_put1]
    split
    · rename_i e; subst e
      refine ⟨_, rfl, fun hr => ?_⟩
      obtain ⟨b2, hb2, hl⟩ := h.live k o hj
      rw [hb] at hb2; injection hb2 with hb2; subst hb2
      obtain ⟨e1, m, rfl⟩ := hl hr
      refine ⟨e1, ?_⟩
      cases hw with
      | eq h => exact ⟨m, h.symm⟩
      | melt => exact ⟨true, rfl⟩
    · exact h.live j o hj
theorem Weak.eq {a b : AV} (h : a = b) : Weak a b := h ▸ Weak.refl a
theorem St.unf {S : Ex} {w0 : Base} {w : World} {a : Act} {σ : VS} (h : St S w0 σ a w) {k : Nat} {e : TypeId} {z i : Nat} {rows : List (List AV)} {r : List AV} (hb : look σ.o k = some (.foc e z rows i r)) (hp : r.all AV.pur = true) : St S w0 ⟨σ.t, put1 k (.slc e z (rows.set i r)) σ.o⟩ a w := by
  obtain ⟨μ, h⟩ := h
  refine ⟨μ, h.defers, h.size, h.tmps, fun j c hj => ?_, fun j o hj => ?_, h.inj, h.below, h.old⟩
  · dsimp only at hj
    rw [look_put1] at hj
    split at hj
    · rename_i e; subst e
      injection hj with hj; subst hj
      obtain ⟨o, ho, h1, h2, h3, h4, h5, hi, hr, g, cs, e', h7, h8, h9, h10, h11⟩ := h.blks k _ hb
      refine ⟨o, ho, h1, by simpa using h2, fun j r' hj => ?_, by simpa using h4, h5, .inr ⟨g, cs, e', h7, h8, h9, fun i2 r2 j c v hi2 hj hv => ?_⟩⟩
      · rw [List.getElem?_set] at hj
        split at hj
        · first
            | (injection hj with hj; subst hj; exact hr)
            | (split at hj
               · injection hj with hj; subst hj; exact hr
               · cases hj)
        · exact h3 j r' hj
      · rw [List.getElem?_set] at hi2
        split at hi2
        · rename_i e2; subst e2
          try rw [if_pos hi] at hi2
          injection hi2 with hi2; subst hi2
          exact ⟨rel_pur (h11 j c v hj hv).1 (List.all_eq_true.1 hp c (List.mem_of_getElem? hj)), (h11 j c v hj hv).2⟩
        · rename_i e2
          exact h10 i2 r2 j c v (fun e3 => e2 e3.symm) hi2 hj hv
    · exact h.blks j c hj
  · dsimp only
    rw [look_put1]
    split
    · rename_i e; subst e
      refine ⟨_, rfl, fun hr => ?_⟩
      obtain ⟨b2, hb2, hl⟩ := h.live k o hj
      rw [hb] at hb2; injection hb2 with hb2; subst hb2
      obtain ⟨_, m, e2⟩ := hl hr
      cases e2
    · exact h.live j o hj

/-- Steps that nothing in the program makes. -/
inductive GI where
  | nils (i d : Nat) (e : TypeId) (z : Nat)
  | sort
  | blk (k : Nat) (b : Blk)
  | any (l : List Nat)
  | drop (ks : List Nat)
  | frz (k : Nat)
  | ren (d k : Nat)
  | weak (i : Nat) (c : AV)
  | nil (d : Nat) (e : TypeId) (z : Nat)
  | nilc (d : Nat) (e : TypeId) (z k j : Nat)
  | unf (k : Nat)
  | frf (k : Nat)
def ghost1 (g : GI) (σ : VS) : Option (List Prop × VS) := match g with
  | .nils i d e z => match (purgeS [d] σ).t[i]? with
    | some (.lit (.slice none 0 0)) => some ([], ⟨(purgeS [d] σ).t.set i (.own d), put1 d (.slc e z []) (purgeS [d] σ).o⟩)
    | _ => none
  | .sort => some ([], ⟨σ.t, sortO σ.o⟩)
  | .blk k b => match look σ.o k with
    | some b0 => some ([BlkW b0 b], ⟨σ.t, put1 k b σ.o⟩)
    | none => none
  | .any l => some ([], ⟨anyS l σ.t, σ.o⟩)
  | .drop ks => some ([], purgeS ks σ)
  | .frz k => match look σ.o k with
    | some (.slc _ z rows) => some ([], ⟨σ.t.map (AV.map (fun j => if j = k then .sl z rows else .own j) (fun j i o => if j = k then .any else .ptr j i o)), mapO (fun j => if j = k then .sl z rows else .own j) (fun j i o => if j = k then .any else .ptr j i o) (drop1 k σ.o)⟩)
    | _ => none
  | .frf k => match look σ.o k with
    | some (.slc _ z rows) => some ([], ⟨σ.t.map (AV.map (fun j => if j = k then .fs z rows else .own j) (fun j i o => if j = k then .any else .ptr j i o)), mapO (fun j => if j = k then .fs z rows else .own j) (fun j i o => if j = k then .any else .ptr j i o) (drop1 k σ.o)⟩)
    | _ => none
  | .ren d k => if d == k then some ([], σ) else
    some ([], ⟨(purgeS [k] σ).t.map (AV.map (fun j => if j = d then .own k else .own j) (fun j i o => if j = d then .ptr k i o else .ptr j i o)), mapO (fun j => if j = d then .own k else .own j) (fun j i o => if j = d then .ptr k i o else .ptr j i o) (renO d k (purgeS [k] σ).o)⟩)
  | .weak i c => match σ.t[i]? with
    | some b => some ([Weak b c], ⟨σ.t.set i c, σ.o⟩)
    | none => none
  | .nil d e z => some ([], ⟨(purgeS [d] σ).t.map fun c => match c with | .lit (.slice none 0 0) => .own d | c => c, put1 d (.slc e z []) (purgeS [d] σ).o⟩)
  | .nilc d e z k j => match look (purgeS [d] σ).o k with
    | some (.var cells) => match cells[j]? with
      | some (.lit (.slice none 0 0)) => some ([], ⟨(purgeS [d] σ).t, put1 k (.var (cells.set j (.own d))) (put1 d (.slc e z []) (purgeS [d] σ).o)⟩)
      | _ => none
    | _ => none
  | .unf k => match look σ.o k with
    | some (.foc e z rows i r) => match r.all AV.pur with
      | true => some ([], ⟨σ.t, put1 k (.slc e z (rows.set i r)) σ.o⟩)
      | false => none
    | _ => none
/-- The names that a step gives up or takes are the call's own. -/
def ghostLow : GI → Bool
  | .nils _ d _ _ => lowK [d]
  | .drop ks => lowK ks
  | .frz k => lowK [k]
  | .frf k => lowK [k]
  | .ren d k => lowK [d] && lowK [k]
  | .nil d _ _ => lowK [d]
  | .nilc d _ _ _ _ => lowK [d]
  | _ => true
theorem low1 {k : Nat} (h : lowK [k] = true) : k < pinB := lowK_mem h (by simp)
theorem ne_rk {k : Nat} (h : k < pinB) : k ≠ rk := by unfold rk; unfold pinB at h; omega
theorem ghost1_ok {g : GI} {σ σ' : VS} {ob : List Prop} (h : ghost1 g σ = some (ob, σ')) (hob : All ob) (hl : ghostLow g = true) {S : Ex} {w0 : Base} {w : World} {a : Act} (hst : St S w0 σ a w) : St S w0 σ' a w := by
  cases g with
  | nils i d e z =>
    simp only [ghost1] at h
    split at h
    · rename_i hi
      injection h with h; injection h with _ h; subst h
      exact (hst.purge [d] hl).nilSlot e z (purge_clean _ _ _ (by simp) (ne_rk (low1 hl))) hi
    · cases h
  | sort => simp only [ghost1] at h; injection h with h; injection h with _ h; subst h; exact hst.sort
  | blk k b =>
    simp only [ghost1] at h
    split at h
    · rename_i b0 hb
      injection h with h; injection h with h1 h; subst h1 h; exact hst.blkW hb hob.1
    · cases h
  | any l => simp only [ghost1] at h; injection h with h; injection h with _ h; subst h; exact hst.anyS
  | drop ks => simp only [ghost1] at h; injection h with h; injection h with _ h; subst h; exact hst.purge ks hl
  | frz k =>
    simp only [ghost1] at h
    split at h
    · rename_i e z rows hk
      injection h with h; injection h with _ h; subst h; exact hst.freeze false hk (low1 hl)
    · cases h
  | frf k =>
    simp only [ghost1] at h
    split at h
    · rename_i e z rows hk
      injection h with h; injection h with _ h; subst h; exact hst.freeze true hk (low1 hl)
    · cases h
  | ren d k =>
    simp only [ghost1] at h
    split at h
    · injection h with h; injection h with _ h; subst h; exact hst
    · rename_i hdk
      injection h with h; injection h with _ h; subst h
      simp only [ghostLow, Bool.and_eq_true] at hl; exact (hst.purge [k] hl.2).ren d k (by simpa using hdk) (purge_clean _ _ _ (by simp) (ne_rk (low1 hl.2))) (low1 hl.1) (low1 hl.2)
  | weak i c =>
    simp only [ghost1] at h
    split at h
    · rename_i b hb
      injection h with h; injection h with h1 h; subst h1 h; exact hst.setW hb hob.1
    · cases h
  | nil d e z => simp only [ghost1] at h; injection h with h; injection h with _ h; subst h; exact (hst.purge [d] hl).nilOwn e z (purge_clean _ _ _ (by simp) (ne_rk (low1 hl)))
  | nilc d e z k j =>
    simp only [ghost1] at h
    split at h
    · rename_i cells hk
      split at h
      · rename_i hj
        injection h with h; injection h with _ h; subst h
        exact (hst.purge [d] hl).nilCell e z (purge_clean _ _ _ (by simp) (ne_rk (low1 hl))) hk j hj
      · cases h
    · cases h
  | unf k =>
    simp only [ghost1] at h
    split at h
    · rename_i e z rows i r hk
      split at h
      · rename_i hp
        injection h with h; injection h with _ h; subst h
        exact hst.unf hk hp
      · cases h
    · cases h
def ghosts : List GI → VS → Option (List Prop × VS)
  | [], σ => some ([], σ)
  | g :: l, σ => match ghostLow g with
    | false => none
    | true => match ghost1 g σ with
      | some (ob, σ') => match ghosts l σ' with
        | some (ob2, σ2) => some (ob ++ ob2, σ2)
        | none => none
      | none => none
theorem ghosts_ok : ∀ {l : List GI} {σ σ' : VS} {ob : List Prop}, ghosts l σ = some (ob, σ') → All ob → ∀ {S : Ex} {w0 : Base} {w : World} {a : Act}, St S w0 σ a w → St S w0 σ' a w
  | [], σ, σ', ob, h, _, S, w0, w, a, hst => by simp only [ghosts] at h; injection h with h; injection h with _ h; subst h; exact hst
  | g :: l, σ, σ', ob, h, hob, S, w0, w, a, hst => by
    rw [ghosts] at h
    split at h
    · cases h
    · rename_i hl
      split at h
      · rename_i ob1 σ1 h1
        split at h
        · rename_i ob2 σ2 h2
          injection h with h; injection h with e1 e2; subst e1 e2
          exact ghosts_ok h2 (All.app hob).2 (ghost1_ok h1 (All.app hob).1 hl hst)
        · cases h
      · cases h

/-- The way through a function: what its regions ask for, its branches, its loops. -/
inductive WI where
  | r (g : List GI) (π : List PI)
  | br (b : Bool)
  | code (g : List GI) (e : Exit) (σ : VS)
  | sc

def notGoto : Exit → Bool
  | .goto _ => false
  | _ => true
def vexec (P : Program) : Code → VS → List WI → Option (List Prop × Exit × VS × List WI)
  | .skip, σ, π => some ([], .normal, σ, π)
  | .label _, σ, π => some ([], .normal, σ, π)
  | .exit i, σ, π => some ([], .exit i, σ, π)
  | .goto i, σ, π => some ([], .goto i, σ, π)
  | .ret, σ, π => some ([], .ret, σ, π)
  | .seq a b, σ, π => match vexec P a σ π with
    | some (ob, .normal, σ', π') => match vexec P b σ' π' with
      | some (ob2, r) => some (ob ++ ob2, r)
      | none => none
    | r => r
  | .cond c a b, σ, .br p :: π' => match evV σ.t c with
    | .lit (.bool x) => match p with
      | true => match vexec P a σ π' with
        | some (ob, r) => some ((x = true) :: ob, r)
        | none => none
      | false => match vexec P b σ π' with
        | some (ob, r) => some ((x = false) :: ob, r)
        | none => none
    | _ => none
  | .block i body, σ, π => match vexec P body σ π with
    | some (ob, .exit j, σ', π') => if j == i then some (ob, .normal, σ', π') else some (ob, .exit j, σ', π')
    | r => r
  | .region _ ops draw, σ, .r g π :: W => match ghosts g σ with
    | some (ob, σ1) => match vregion P ops draw σ1 π with
      | some (ob2, σ2, []) => some (ob ++ ob2, .normal, σ2, W)
      | _ => none
    | none => none
  | .loop body, σ, .code g e σ' :: W => match ghosts g σ with
    | some (ob, σ1) => some (ob ++ [VT P (.loop body) σ1 e σ'], e, σ', W)
    | none => none
  | .scope body, σ, .sc :: W => match vexec P body σ W with
    | some (ob, e, r) => if notGoto e then some (ob, e, r) else none
    | none => none
  | .scope body, σ, .code g e σ' :: W => match ghosts g σ with
    | some (ob, σ1) => some (ob ++ [VT P (.scope body) σ1 e σ'], e, σ', W)
    | none => none
  | .rangeFunc f ps as body, σ, .code g e σ' :: W => match ghosts g σ with
    | some (ob, σ1) => some (ob ++ [VT P (.rangeFunc f ps as body) σ1 e σ'], e, σ', W)
    | none => none
  | _, _, _ => none

theorem VTo.pre {ro : Option Nat} {P : Program} {c : Code} {σ σ1 σ' : VS} {e : Exit} {g : List GI} {ob : List Prop} (hg : ghosts g σ = some (ob, σ1)) (hob : All ob) (h : VTo ro P c σ1 e σ') : VTo ro P c σ e σ' :=
  fun S w0 a w hst Q hQ => h S w0 a w (ghosts_ok hg hob hst) Q hQ
/-- Code without loops and scopes. -/
def plainC : Code → Bool
  | .seq a b => plainC a && plainC b
  | .cond _ a b => plainC a && plainC b
  | .block _ a => plainC a
  | .loop _ => false
  | .scope _ => false
  | .rangeFunc _ _ _ _ => false
  | _ => true
theorem vexec_okI {P : Program} {ro : Option Nat} : ∀ {c : Code} {σ : VS} {π : List WI} {ob : List Prop} {e : Exit} {σ' : VS} {π' : List WI}, (ro = none ∨ plainC c = true) → vexec P c σ π = some (ob, e, σ', π') → All ob → VTo ro P c σ e σ' := by
  intro c
  induction c with
  | skip => intro σ π ob e σ' π' _ h _; simp only [vexec] at h; injection h with h; injection h with _ h; injection h with h1 h; injection h with h2 _; subst h1 h2; exact fun S w0 a w hst Q hQ => wpIn_skip (hQ a w hst)
  | label l => intro σ π ob e σ' π' _ h _; simp only [vexec] at h; injection h with h; injection h with _ h; injection h with h1 h; injection h with h2 _; subst h1 h2; exact fun S w0 a w hst Q hQ => wpIn_label (hQ a w hst)
  | exit i => intro σ π ob e σ' π' _ h _; simp only [vexec] at h; injection h with h; injection h with _ h; injection h with h1 h; injection h with h2 _; subst h1 h2; exact fun S w0 a w hst Q hQ => wpIn_exit (hQ a w hst)
  | goto i => intro σ π ob e σ' π' _ h _; simp only [vexec] at h; injection h with h; injection h with _ h; injection h with h1 h; injection h with h2 _; subst h1 h2; exact fun S w0 a w hst Q hQ => wpIn_goto (hQ a w hst)
  | ret => intro σ π ob e σ' π' _ h _; simp only [vexec] at h; injection h with h; injection h with _ h; injection h with h1 h; injection h with h2 _; subst h1 h2; exact fun S w0 a w hst Q hQ => wpIn_ret (hQ a w hst)
  | refuse w => intro σ π ob e σ' π' _ h _; simp [vexec] at h
  | region i ops draw =>
    intro σ π ob e σ' π' hro h hob
    cases π with
    | nil => simp [vexec] at h
    | cons p W =>
      cases p with
      | r g q =>
        simp only [vexec] at h
        split at h
        · rename_i ob1 σ1 hg
          split at h
          · rename_i ob2 σ2 hr
            injection h with h; injection h with e1 h; injection h with e2 h; injection h with e3 _; subst e1 e2 e3
            exact (vregion_okI hr (All.app hob).2).pre hg (All.app hob).1
          · cases h
        · cases h
      | br b => simp [vexec] at h
      | sc => simp [vexec] at h
      | code g e s => simp [vexec] at h
  | loop body _ =>
    intro σ π ob e σ' π' hro h hob
    cases π with
    | nil => simp [vexec] at h
    | cons p W =>
      cases p with
      | r g q => simp [vexec] at h
      | br b => simp [vexec] at h
      | sc => simp [vexec] at h
      | code g e s =>
        simp only [vexec] at h
        split at h
        · rename_i ob1 σ1 hg
          injection h with h; injection h with e1 h; injection h with e2 h; injection h with e3 _; subst e1 e2 e3
          rcases hro with rfl | hro
          · exact VTo.pre hg (All.app hob).1 (VT.toO (All.app hob).2.1)
          · cases hro
        · cases h
  | scope body ih =>
    intro σ π ob e σ' π' hro h hob
    cases π with
    | nil => simp [vexec] at h
    | cons p W =>
      cases p with
      | r g q => simp [vexec] at h
      | br b => simp [vexec] at h
      | sc =>
        simp only [vexec] at h
        split at h
        · rename_i ob1 e1 q hb
          obtain ⟨σ1, W1⟩ := q
          split at h
          · rename_i hg
            injection h with h; injection h with e1 h; injection h with e2 h; injection h with e3 _; subst e1 e2 e3
            rcases hro with rfl | hro
            case inr => cases hro
            have hv := VTo.toVT (ih (.inl rfl) hb hob)
            intro S w0 a w hst Q hQ
            refine wpIn_wide.2 ?_
            refine wp_scope_straight (hv S w0 a w hst _ fun a' w' hst' => ?_)
            cases e1 with
            | goto l' => cases hg
            | normal => exact hQ a' w' hst'
            | exit id => exact hQ a' w' hst'
            | ret => exact hQ a' w' hst'
            | panic ch => exact hQ a' w' hst'
            | outgrown => exact hQ a' w' hst'
          · cases h
        · cases h
      | code g e s =>
        simp only [vexec] at h
        split at h
        · rename_i ob1 σ1 hg
          injection h with h; injection h with e1 h; injection h with e2 h; injection h with e3 _; subst e1 e2 e3
          rcases hro with rfl | hro
          · exact VTo.pre hg (All.app hob).1 (VT.toO (All.app hob).2.1)
          · cases hro
        · cases h
  | rangeFunc f ps as body _ _ =>
    intro σ π ob e σ' π' hro h hob
    cases π with
    | nil => simp [vexec] at h
    | cons p W =>
      cases p with
      | r g q => simp [vexec] at h
      | br b => simp [vexec] at h
      | sc => simp [vexec] at h
      | code g e s =>
        simp only [vexec] at h
        split at h
        · rename_i ob1 σ1 hg
          injection h with h; injection h with e1 h; injection h with e2 h; injection h with e3 _; subst e1 e2 e3
          rcases hro with rfl | hro
          · exact VTo.pre hg (All.app hob).1 (VT.toO (All.app hob).2.1)
          · cases hro
        · cases h
  | seq x y ihx ihy =>
    intro σ π ob e σ' π' hro h hob
    rw [vexec] at h
    split at h
    · rename_i ob1 σ1 π1 h1
      split at h
      · rename_i ob2 r h2
        obtain ⟨e2, σ2, π2⟩ := r
        injection h with h; injection h with e1 h; injection h with e3 h; injection h with e4 _; subst e1 e3 e4
        intro S w0 a w hst Q hQ
        refine wpIn_seq (ihx (hro.imp id fun h => (Bool.and_eq_true _ _ ▸ h).1) h1 (All.app hob).1 S w0 a w hst _ fun a' w' hst' => ?_)
        exact ihy (hro.imp id fun h => (Bool.and_eq_true _ _ ▸ h).2) h2 (All.app hob).2 S w0 a' w' hst' Q hQ
      · cases h
    · rename_i hne
      intro S w0 a w hst Q hQ
      refine wpIn_seq (ihx (hro.imp id fun h => (Bool.and_eq_true _ _ ▸ h).1) h hob S w0 a w hst _ fun a' w' hst' => ?_)
      have := hQ a' w' hst'
      cases e with
      | normal => exact (hne _ _ _ h).elim
      | _ => exact this
  | cond c x y ihx ihy =>
    intro σ π ob e σ' π' hro h hob
    cases π with
    | nil => simp [vexec] at h
    | cons p W =>
      cases p with
      | r g q => simp [vexec] at h
      | sc => simp [vexec] at h
      | code g e s => simp [vexec] at h
      | br p =>
        rw [vexec] at h
        split at h
        · rename_i b hc
          cases p with
          | true =>
            dsimp only at h
            split at h
            · rename_i ob2 r h2
              obtain ⟨e2, σ2, π2⟩ := r
              injection h with h; injection h with e1 h; injection h with e3 h; injection h with e4 _; subst e1 e3 e4
              intro S w0 a w hst Q hQ
              obtain ⟨μ, hm⟩ := hst
              have ec := hm.eval c; rw [hc] at ec; have ec := rel_lit ec
              rw [hob.1] at ec
              exact wpIn_cond_true ec (ihx (hro.imp id fun h => (Bool.and_eq_true _ _ ▸ h).1) h2 hob.2 S w0 a w ⟨μ, hm⟩ Q hQ)
            · cases h
          | false =>
            dsimp only at h
            split at h
            · rename_i ob2 r h2
              obtain ⟨e2, σ2, π2⟩ := r
              injection h with h; injection h with e1 h; injection h with e3 h; injection h with e4 _; subst e1 e3 e4
              intro S w0 a w hst Q hQ
              obtain ⟨μ, hm⟩ := hst
              have ec := hm.eval c; rw [hc] at ec; have ec := rel_lit ec
              rw [hob.1] at ec
              exact wpIn_cond_false ec (ihy (hro.imp id fun h => (Bool.and_eq_true _ _ ▸ h).2) h2 hob.2 S w0 a w ⟨μ, hm⟩ Q hQ)
            · cases h
        · cases h
  | block i body ih =>
    intro σ π ob e σ' π' hro h hob
    rw [vexec] at h
    split at h
    · rename_i ob1 j σ1 π1 h1
      split at h
      · rename_i hji
        have hji : j = i := by simpa using hji
        injection h with h; injection h with e1 h; injection h with e3 h; injection h with e4 _; subst e1 e3 e4
        intro S w0 a w hst Q hQ
        refine wpIn_block (ih (hro.imp id fun h => h) h1 hob S w0 a w hst _ fun a' w' hst' => ?_)
        simp only [Exit.inBlock, hji, if_true]; exact hQ a' w' hst'
      · rename_i hji
        have hji : j ≠ i := by simpa using hji
        injection h with h; injection h with e1 h; injection h with e3 h; injection h with e4 _; subst e1 e3 e4
        intro S w0 a w hst Q hQ
        refine wpIn_block (ih (hro.imp id fun h => h) h1 hob S w0 a w hst _ fun a' w' hst' => ?_)
        simp only [Exit.inBlock, hji, if_false]; exact hQ a' w' hst'
    · rename_i hne
      intro S w0 a w hst Q hQ
      refine wpIn_block (ih (hro.imp id fun h => h) h hob S w0 a w hst _ fun a' w' hst' => ?_)
      have := hQ a' w' hst'
      cases e with
      | exit j => exact (hne _ _ _ _ h).elim
      | _ => exact this
theorem vexec_ok {P : Program} {c : Code} {σ : VS} {π : List WI} {ob : List Prop} {e : Exit} {σ' : VS} {π' : List WI} (h : vexec P c σ π = some (ob, e, σ', π')) (hob : All ob) : VT P c σ e σ' := (vexec_okI (ro := none) (.inl rfl) h hob).toVT

/-! ### Functions -/
def resV (P : Program) (σ : VS) : List ResultVar → Option (List AV)
  | [] => some []
  | .tmp t :: l => match resV P σ l with
    | some r => some (resolve0 (look σ.o) (σ.t.getD t .any) :: r)
    | none => none
  | .cell x t :: l => match σ.t.getD x .any with
    | .ptr k 0 0 => match look σ.o k with
      | some (.var cells) => match rdCells P t cells 0, resV P σ l with
        | some c, some r => some (resolve0 (look σ.o) c :: r)
        | _, _ => none
      | some (.slc _ z rows) => match elemOfArr P t with
        | some (n, _, m) => if m == z && (rows.all fun r => r.length == z) && rows.length == n && szP P t == some (n * z) then match resV P σ l with
          | some r => some (.agg rows.flatten :: r)
          | none => none
          else none
        | none => none
      | _ => none
    | _ => none
def outV : List AV → AV
  | [c] => c
  | l => .tup l
end Go.Proofs.YtdmkhinckljddaaGreat
namespace Go.Proofs.YtdmkhinckljddaaGreat
open Go.RowKit

theorem resolve_ok {S : Ex} {w0 : Base} {w : World} {μ : Nat → Option OI} {σ : VS} {a : Act} (h : StM S w0 μ σ a w) {c : AV} {v : Value} (hr : Rel μ (XOf S μ) w c v) : Rel (fun _ => none) S w (resolve0 (look σ.o) c) v := by
  refine hr.map ⟨Nat.le_refl _, fun _ _ _ => rfl, fun b _ h => .inl h, fun _ h => h⟩ (fun k v hr => ?_) (fun _ _ _ _ _ => .any _) (.inr rfl)
  split
  · rename_i e z rows hk
    exact .pure (own_sl h hk hr (fun b hb => .inl hb) (fun _ h => h) (fun o g ho hg hs => h.sep ho (.inl hg) hs))
  · exact .any _

theorem PRel.closed {X : Ex} {w : World} {c : AV} {v : Value} (h : PRel X w c v) : c.closed = true := by cases h <;> rfl
def resOne (tmps : Array Value) : ResultVar → Sem Value
  | .tmp t => pure (tmps.getD t undef)
  | .cell a t => do loadVar t (← asAddr (tmps.getD a undef))
theorem resV_ok {P : Program} {S : Ex} {w0 : Base} {w : World} {μ : Nat → Option OI} {σ : VS} {a : Act} (h : StM S w0 μ σ a w) : ∀ {l : List ResultVar} {cs : List AV}, resV P σ l = some cs →
    ∃ vs : List Value, vs.length = cs.length ∧ (l.mapM (resOne a.tmps)).run P w = .ok vs w ∧ ∀ (i : Nat) (c : AV) (v : Value), cs[i]? = some c → vs[i]? = some v → Rel (fun _ => none) S w c v
  | [], cs, hr => by simp only [resV] at hr; injection hr with hr; subst hr; exact ⟨[], rfl, rfl, by simp⟩
  | .tmp t :: l, cs, hr => by
    rw [resV] at hr
    split at hr
    · rename_i r h1
      injection hr with hr; subst hr
      obtain ⟨vs, e1, e2, e3⟩ := resV_ok h h1
      refine ⟨a.tmps.getD t undef :: vs, by simp [e1], by rw [List.mapM_cons]; simp [resOne, e2], fun i c v hc hv => ?_⟩
      cases i with
      | zero => simp at hc hv; subst hc hv; have := resolve_ok h (h.eval (.tmp t)); simpa [Act.eval, evV] using this
      | succ i => exact e3 i c v (by simpa using hc) (by simpa using hv)
    · cases hr
  | .cell x t :: l, cs, hr => by
    rw [resV] at hr
    split at hr
    · rename_i k hx
      have ex := h.eval (.tmp x)
      rw [show evV σ.t (.tmp x) = σ.t.getD x .any from rfl, hx] at ex
      split at hr
      · rename_i cells hk
        split at hr
        · rename_i c r h1 h2
          injection hr with hr; subst hr
          obtain ⟨vs, e1, e2, e3⟩ := resV_ok h h2
          obtain ⟨o, g, hoi, hg, hcell⟩ := placeCells_ok (env := look σ.o) (k := k) (cells := cells) (i := 0) (π := []) (π' := []) (ob := []) h (fun _ _ h => h) (by simp [placeCells, hk]) trivial
          obtain ⟨v, hv, hrel⟩ := rdCells_ok (b := g) (base := 0 * o.z) (μ := μ) (X := XOf S μ) (w := w) h1 hcell
          have he := ptr_eval ex hoi hg
          rw [Nat.zero_mul, Nat.zero_add] at he hv
          refine ⟨v :: vs, by simp [e1], ?_, fun i c' v' hc hv' => ?_⟩
          · have : a.tmps.getD x undef = .pointer (some ⟨g, 0, none⟩) := he
            rw [List.mapM_cons]
            simp [resOne, this, asAddr, hv, e2]
          · cases i with
            | zero => simp at hc hv'; subst hc hv'; exact resolve_ok h hrel
            | succ i => exact e3 i c' v' (by simpa using hc) (by simpa using hv')
        · cases hr
      · rename_i e z rows hk
        split at hr
        · rename_i n et m ha
          split at hr
          · rename_i hcond
            simp only [Bool.and_eq_true, beq_iff_eq] at hcond
            obtain ⟨⟨⟨rfl, _⟩, hn⟩, hs⟩ := hcond
            split at hr
            · rename_i r h2
              injection hr with hr; subst hr
              obtain ⟨vs, e1, e2, e3⟩ := resV_ok h h2
              obtain ⟨g, xv, hxe, hxr, hxrel⟩ := run_whole h hk ha hn hs ex
              refine ⟨xv :: vs, by simp [e1], ?_, fun i c' v' hc hv' => ?_⟩
              · have : a.tmps.getD x undef = .pointer (some ⟨g, 0, none⟩) := hxe
                rw [List.mapM_cons]
                simp [resOne, this, asAddr, hxr, e2]
              · cases i with
                | zero =>
                  simp at hc hv'; subst hc hv'
                  obtain ⟨o, ho, hz, hon, hlen, hcap, hmax, hcase⟩ := h.blks k _ hk
                  cases hxrel with
                  | pure hp => cases hp
                  | agg hl hh =>
                    refine .agg hl fun i c v hc hv => ?_
                    have hcell := hh i c v hc hv
                    -- the cells of such a block name nothing of the call's own
                    have hq : i < rows.length * m := by rw [← vflat_len hlen]; exact (List.getElem?_eq_some_iff.1 hc).1
                    have hz0 : 0 < m := Nat.pos_of_ne_zero (by rintro rfl; simp at hq)
                    have hlt : i / m < rows.length := by rw [Nat.div_lt_iff_lt_mul hz0]; exact hq
                    have hrr := List.getElem?_eq_getElem hlt
                    have hmod : i % m < rows[i / m].length := by rw [hlen _ _ hrr]; exact Nat.mod_lt _ hz0
                    have hrj := List.getElem?_eq_getElem hmod
                    have hfg := vflat_get hlen hrr hrj
                    have e1' : i / m * m + i % m = i := by rw [Nat.mul_comm, Nat.div_add_mod]
                    rw [e1', hc] at hfg; injection hfg with hfg
                    rcases hcase with ⟨_, hr0, _⟩ | ⟨g', cs', hg', hB', hh', hsz', hrel'⟩
                    · subst hr0; simp at hlt
                    · have hb : i / m * m + i % m < cs'.size := by
                        rw [hsz', e1']; exact Nat.lt_of_lt_of_le hq (Nat.mul_le_mul_right _ hcap)
                      have hp := (hrel' _ _ _ _ _ hrr hrj (Array.getElem?_eq_getElem hb)).1
                      rw [← hfg] at hp
                      have hnoown : c.closed = true := hp.closed
                      exact hcell.closed hnoown ⟨Nat.le_refl _, fun _ _ _ => rfl, fun b _ h => .inl h, fun _ h => h⟩
                | succ i => exact e3 i c' v' (by simpa using hc) (by simpa using hv')
            · cases hr
          · cases hr
        · cases hr
      · cases hr
    · cases hr

theorem results_ok {P : Program} {S : Ex} {w0 : Base} {w : World} {σ : VS} {a : Act} (h : St S w0 σ a w) {fn : Func} {cs : List AV} (hr : resV P σ fn.results.toList = some cs) : ∃ v, (results fn a.tmps).run P w = .ok v w ∧ Rel (fun _ => none) S w (outV cs) v := by
  obtain ⟨μ, h⟩ := h
  obtain ⟨vs, e1, e2, e3⟩ := resV_ok h hr
  have hm : (fn.results.mapM (resOne a.tmps)).run P w = .ok vs.toArray w := by
    have : fn.results = fn.results.toList.toArray := by simp
    rw [this, List.mapM_toArray]
    rw [map_eq_pure_bind, Sem.run_bind, e2]; rfl
  have hres : (results fn a.tmps).run P w = .ok (if h : vs.toArray.size = 1 then vs.toArray[0] else .tuple vs.toArray) w := by
    have : results fn a.tmps = (do let vs ← fn.results.mapM (resOne a.tmps); pure (if h : vs.size = 1 then vs[0] else .tuple vs)) := by
      unfold results; congr 1
    rw [this, Sem.run_bind, hm]; rfl
  refine ⟨_, hres, ?_⟩
  cases cs with
  | nil =>
    have : vs = [] := List.eq_nil_of_length_eq_zero e1
    subst this; exact .tup rfl (by simp)
  | cons c cs => cases cs with
    | nil =>
      obtain ⟨v, rfl⟩ : ∃ v, vs = [v] := by
        cases vs with
        | nil => simp at e1
        | cons v vs => cases vs with
          | nil => exact ⟨v, rfl⟩
          | cons _ _ => simp at e1
      exact e3 0 c v rfl rfl
    | cons c2 cs =>
      have hne : ¬ vs.toArray.size = 1 := by simp only [List.size_toArray, e1, List.length_cons]; omega
      rw [dif_neg hne]
      exact .tup e1 fun i c v hc hv => e3 i c v hc hv

/-! ### The end of a function that ranged over functions -/
/-- The block D, which holds no cells, turns. -/
structure Tn (D : Nat) (w w' : World) : Prop where
  size : w'.heap.size = w.heap.size
  heap : ∀ b, b ≠ D → w'.heap[b]? = w.heap[b]?
  nc : ∃ ds, w.heap[D]? = some (.deferred ds)
theorem Tn.cell {D : Nat} {w w' : World} (h : Tn D w w') {a : Addr} {v : Value} (hc : w.cell? a = some v) : w'.cell? a = some v := by
  by_cases e : a.block = D
  · obtain ⟨ds, ho⟩ := h.nc
    rw [← e] at ho
    unfold World.cell? at hc
    rw [ho] at hc
    cases hc
  · rw [World.cell?_of_block (h.heap _ e)]; exact hc
theorem PRel.turn {X : Ex} {D : Nat} {w w' : World} {c : AV} {v : Value} (h : PRel X w c v) (ht : Tn D w w') : PRel X w' c v := by
  induction h with
  | lit v => exact .lit v
  | nil z hm h0 => exact .nil z hm h0
  | sl cv hX hb hc hm hz h1 h2 h3 ih => exact .sl cv hX (fun hne => by rw [ht.size]; exact hb hne) hc hm hz (fun i r j c hi hj => ht.cell (h1 i r j c hi hj)) ih h3
  | fs h hF ih =>
    refine .fs ih fun hne ad n c e => ⟨(hF hne ad n c e).1, ?_⟩
    obtain ⟨cs, T, h2⟩ := (hF hne ad n c e).2
    refine ⟨cs, T, (ht.heap _ ?_).trans h2⟩
    intro e3
    obtain ⟨ds, ho⟩ := ht.nc
    rw [e3, ho] at h2; cases h2
theorem Rel.turn {μ : Nat → Option OI} {X : Ex} {D : Nat} {w w' : World} {c : AV} {v : Value} (h : Rel μ X w c v) (ht : Tn D w w') : Rel μ X w' c v := by
  induction h with
  | any v => exact .any v
  | pure h => exact .pure (h.turn ht)
  | agg hl h ih => exact .agg hl ih
  | tup hl h ih => exact .tup hl ih
  | clo hl h ih => exact .clo hl ih
  | ia cv hX hb h1 h2 => exact .ia cv hX (by rw [ht.size]; exact hb) (fun j c hj => ht.cell (h1 j c hj)) fun j c hj => (h2 j c hj).turn ht
  | own h => exact .own h
  | ptr h hg => exact .ptr h hg
  | deadO v h => exact .deadO v h
  | deadP v h => exact .deadP v h
  | opt h1 h0 ih => exact .opt ih h0
  | ifc h ih => exact .ifc ih
  | mth h ih => exact .mth ih
  | bnd h ih => exact .bnd ih
  | mp h hg => exact .mp h hg
  | deadM v h => exact .deadM v h
  | yl h hg => exact .yl h hg
  | deadY v h => exact .deadY v h
  | tr h hr hp => exact .tr h hr hp
  | deadT v h => exact .deadT v h
  | tia cv h hr hb h1 h2 => exact .tia cv h hr hb h1 h2
  | deadI v h => exact .deadI v h
  | uint n => exact .uint n
theorem BlkOK.turn {B : Nat → Prop} {μ : Nat → Option OI} {X : Ex} {D : Nat} {w w' : World} {o : OI} {b : Blk} (h : BlkOK B μ X w o b) (ht : Tn D w w') (hg0 : ∀ g, o.has g → g ≠ D) : BlkOK B μ X w' o b := by
  have hg : ∀ g, o.g = some g → g ≠ D := fun g h => hg0 g (.inl h)
  cases b with
  | var cells =>
    obtain ⟨g, cs, T, e, h1, h2, h3, h4, h5⟩ := h
    exact ⟨g, cs, T, e, h1, (ht.heap g (hg g e)).trans h2, h3, h4, fun j c v hc hv => (h5 j c v hc hv).turn ht⟩
  | slc e z rows =>
    obtain ⟨h1, h2, h3, h4, h5, h6⟩ := h
    refine ⟨h1, h2, h3, h4, h5, ?_⟩
    rcases h6 with h6 | ⟨g, cs, e', h7, h8, h9, h10⟩
    · exact .inl h6
    · exact .inr ⟨g, cs, e', h7, (ht.heap g (hg g e')).trans h8, h9, fun i r j c v hi hj hv => ⟨(h10 i r j c v hi hj hv).1.turn ht, (h10 i r j c v hi hj hv).2⟩⟩
  | obj x => obtain ⟨g, e, h1, h2⟩ := h; exact ⟨g, e, h1, (ht.heap g (hg g e)).trans h2⟩
  | lp b R t =>
    obtain ⟨g, fn, ts, D', e, h1, h2, h3, h5⟩ := h
    exact ⟨g, fn, ts, D', e, h1, (ht.heap g (hg g e)).trans h2, h3, fun j c v hc hv => (h5 j c v hc hv).turn ht⟩
  | foc e z rows i r =>
    obtain ⟨h1, h2, h3, h4, h5, hi, hr, g, cs, e', h7, h8, h9, h10, h11⟩ := h
    exact ⟨h1, h2, h3, h4, h5, hi, hr, g, cs, e', h7, (ht.heap g (hg g e')).trans h8, h9, fun i r j c v hn hi hj hv => ⟨(h10 i r j c v hn hi hj hv).1.turn ht, (h10 i r j c v hn hi hj hv).2⟩,
      fun j c v hj hv => ⟨(h11 j c v hj hv).1.turn ht, (h11 j c v hj hv).2⟩⟩
  | reg m =>
    obtain ⟨lo, W, q1, q2, q3, q4⟩ := h
    refine ⟨lo, W, q1, q2, by rw [ht.size]; exact q3, fun b h1 h2 => ?_⟩
    rw [ht.heap b (hg0 b (.inr ⟨lo, W, q1, h1, h2⟩))]; exact q4 b h1 h2
theorem marks_inj : ∀ {l m : List Nat}, l.map (fun D => ({ target := .collected D, args := #[] } : Deferred)) = m.map (fun D => { target := .collected D, args := #[] }) → l = m
  | [], [], _ => rfl
  | [], _ :: _, h => by simp at h
  | _ :: _, [], h => by simp at h
  | a :: l, b :: m, h => by
    rw [List.map_cons, List.map_cons] at h
    injection h with h1 h2
    injection h1 with h1 _; injection h1 with h1
    rw [h1, marks_inj h2]
/-- A mark is come to: its block is shut. -/
theorem St.shut {S : Ex} {w0 : Base} {w : World} {σ : VS} {ts : Array Value} {D : Nat} {Ds : List Nat} (h : St S w0 σ { tmps := ts, defers := (D :: Ds).map fun D => { target := .collected D, args := #[] } } w) :
    w.heap[D]? = some (.deferred (some [])) ∧ St S w0 σ { tmps := ts, defers := Ds.map fun D => { target := .collected D, args := #[] } } (w.putObj D (.deferred none)) := by
  obtain ⟨μ, h⟩ := h
  obtain ⟨Es, e1, e2, e3⟩ := h.defers
  have e1 := marks_inj e1
  subst e1
  obtain ⟨d1, d2, d3⟩ := e3 D (by simp)
  have hlt : D < w.heap.size := (Array.getElem?_eq_some_iff.1 d3).1
  have ht : Tn D w (w.putObj D (.deferred none)) := ⟨World.putObj_size, fun b hb => World.putObj_heap_other hb, _, d3⟩
  have hb : Below D w (w.putObj D (.deferred none)) := ⟨rfl, rfl, rfl, Nat.le_of_eq World.putObj_size.symm, fun b hlt => World.putObj_heap_other (by omega)⟩
  refine ⟨d3, μ, ⟨Ds, rfl, (List.nodup_cons.1 e2).2, fun E hE => ?_⟩, h.size, fun i c v hc hv => (h.tmps i c v hc hv).turn ht, fun k b hk => ?_, h.live, h.inj, ⟨hb.os.trans h.below.os, hb.tape.trans h.below.tape, hb.output.trans h.below.output, by rw [World.putObj_size]; exact h.below.size, fun b hlt hm => ?_⟩, h.old⟩
  · obtain ⟨q1, q2, q3⟩ := e3 E (List.mem_cons_of_mem _ hE)
    have hne : E ≠ D := by rintro rfl; exact (List.nodup_cons.1 e2).1 hE
    exact ⟨q1, q2, (World.putObj_heap_other hne).trans q3⟩
  · obtain ⟨o, ho, hB⟩ := h.blks k b hk
    exact ⟨o, ho, hB.turn ht fun g hg => by rintro rfl; exact d2 (.inr ⟨k, o, ho, hg⟩)⟩
  · by_cases e : b = D
    · subst e; rcases d1 with d1 | d1
      · omega
      · exact absurd d1 hm
    · exact (World.putObj_heap_other e).trans (h.below.block b hlt hm)
theorem St.leaves {P : Program} {fn : Func} {R : Ending → World → Prop} {S : Ex} {w0 : Base} {σ : VS} {ts : Array Value} (hfin : ∀ w, St S w0 σ { tmps := ts, defers := [] } w → LeavesIn Fence.wide 0 P fn ts R [] .returning w) :
    ∀ (Ds : List Nat) (w : World), St S w0 σ { tmps := ts, defers := Ds.map fun D => { target := .collected D, args := #[] } } w → LeavesInM Fence.wide 0 P fn ts R (Ds.map fun D => { target := .collected D, args := #[] }) .returning w
  | [], w, h => hfin w h
  | D :: Ds, w, h => by
    obtain ⟨h1, h2⟩ := h.shut
    exact ⟨by simp, .inl ⟨D, _, rfl, run_takeDeferred h1, St.leaves hfin Ds _ h2⟩⟩
theorem St.body {P : Program} {fn : Func} {R : Ending → World → Prop} {S : Ex} {w0 : Base} {σ : VS} {a : Act} {w : World} {e : Exit} (he : e = .normal ∨ e = .ret) (h : St S w0 σ a w)
    (hfin : ∀ w, St S w0 σ { tmps := a.tmps, defers := [] } w → LeavesIn Fence.wide 0 P fn a.tmps R [] .returning w) : bodyPostM Fence.wide 0 P fn R e a w := by
  obtain ⟨μ0, h0⟩ := id h
  obtain ⟨Ds, h1, _⟩ := h0.defers
  have key : LeavesInM Fence.wide 0 P fn a.tmps R a.defers .returning w := by
    obtain ⟨ts, ds⟩ := a
    dsimp only at h1
    subst h1
    exact St.leaves hfin Ds w h
  rcases he with rfl | rfl
  · exact key
  · exact key
theorem calls_marks {P : Program} {f : FuncId} {fn : Func} {c : Code} {args : Array Value} {w : World} {R : Ending → World → Prop} (hf : P.funcs[f]? = some fn) (hb : fn.body = some c)
    (h : c.wp P (bodyPostM Fence.wide 0 P fn R) { tmps := args ++ Array.replicate (fn.ntmps - args.size) undef, defers := [] } w) : Calls P f args w R :=
  callsIn_wide.1 (callsIn_of_wp_marks (F := Fence.wide) (n := 0) hf hb trivial (wpIn_wide.2 h))

def startV (n : Nat) (args : List AV) : VS := ⟨args ++ List.replicate (n - args.length) .any, []⟩
theorem VC.of {P : Program} {f : Nat} {fn : Func} {c : Code} {args : List AV} {r : AV} {e : Exit} {σ' : VS} {cs : List AV} (hf : P.funcs[f]? = some fn) (hb : fn.body = some c) (h : VT P c (startV fn.ntmps args) e σ') (he : e = .normal ∨ e = .ret) (hr : resV P σ' fn.results.toList = some cs) (hw : Weak (outV cs) r) : VC P f args r := by
  intro S w xs hS hl hxs
  refine calls_marks hf hb ?_
  have hst : St S ⟨w, fun _ => False, fun _ => none⟩ (startV fn.ntmps args) { tmps := xs.toArray ++ Array.replicate (fn.ntmps - xs.toArray.size) undef, defers := [] } w := by
    refine ⟨fun _ => none, DefOK.nil _ _ _, by simp [startV, hl], fun i c v hc hv => ?_, (fun k b hk => by simp [startV, look] at hk), (fun k o hk => by cases hk), (fun k k' o o' g hk => by cases hk), Bel.refl _ _ _, ⟨fun b hb => ⟨hS.lt b hb, id⟩, (fun k o hk => by cases hk), (fun k o hk => by cases hk), ⟨hS.tab, fun _ _ => id⟩, fun b hb => ⟨hS.fr b hb, id⟩⟩⟩
    have hX : Wd S (XOf S fun _ => none) w w := ⟨Nat.le_refl _, fun _ _ _ => rfl, fun b _ h => (by rcases h with h | ⟨_, _, h, _⟩; exact h; cases h), fun _ h => h⟩
    unfold startV at hc
    dsimp only at hc hv
    rw [List.getElem?_append] at hc
    split at hc
    · rename_i hi
      rw [Array.getElem?_append_left (by simp [hl]; exact hi)] at hv
      exact (hxs i c v hc (by simpa using hv)).step hX fun _ _ => .inl rfl
    · rw [List.getElem?_replicate] at hc
      split at hc
      · injection hc with hc; subst hc; exact .any _
      · cases hc
  refine h S _ _ w hst _ fun a' w' hst' => ?_
  refine hst'.body he fun w2 hst2 => ?_
  obtain ⟨v, hv, hrel⟩ := results_ok hst2 hr
  have hbel : Below w.heap.size w w2 := hst2.elim fun μ h => ⟨h.below.os, h.below.tape, h.below.output, h.below.size, fun k hk => h.below.block k hk id⟩
  exact ⟨v, hv, v, rfl, hw _ _ _ _ hrel, hbel⟩

theorem VT.post {P : Program} {c : Code} {σ σ1 σ' : VS} {e : Exit} {g : List GI} {ob : List Prop} (h : VT P c σ e σ1) (hg : ghosts g σ1 = some (ob, σ')) (hob : All ob) : VT P c σ e σ' :=
  fun S w0 a w hst Q hQ => h S w0 a w hst Q fun a' w' hst' => hQ a' w' (ghosts_ok hg hob hst')

/-- A loop: I k is the state at the head of round k; at round n it is left. -/
theorem VT.loop {P : Program} {body : Code} {e : Exit} {σ' : VS} (I : Nat → VS) (n : Nat) (hstep : ∀ k, k < n → VT P body (I k) .normal (I (k + 1))) (hend : VT P body (I n) e σ') (hne : e ≠ .normal) : VT P (.loop body) (I 0) e σ' := by
  intro S w0 a w hst Q hQ b kk cs
  have key : ∀ m k, n - k = m → k ≤ n → ∀ a w, St S w0 (I k) a w → ∃ e a' w', Q e a' w' ∧ Arrives P (lone (b.at a (.code body :: .inLoop body :: kk)) cs w) b kk cs e a' w' := by
    intro m
    induction m with
    | zero =>
      intro k hm hk a w hst
      have : k = n := by omega
      subst this
      obtain ⟨e1, a1, w1, hq, harr⟩ := hend S w0 a w hst (fun e' a' w' => e' = e ∧ Q e a' w') (fun a' w' hst' => ⟨rfl, hQ a' w' hst'⟩) b (.inLoop body :: kk) cs
      obtain ⟨rfl, hq⟩ := hq
      exact ⟨e1, a1, w1, hq, .pass (x := .inLoop body) rfl (fun _ _ => .inl hne) harr⟩
    | succ m ih =>
      intro k hm hk a w hst
      obtain ⟨e1, a1, w1, hq, harr⟩ := hstep k (by omega) S w0 a w hst (fun e' a' w' => e' = .normal ∧ St S w0 (I (k + 1)) a' w') (fun a' w' hst' => ⟨rfl, hst'⟩) b (.inLoop body :: kk) cs
      obtain ⟨rfl, hst1⟩ := hq
      obtain ⟨e2, a2, w2, hq2, harr2⟩ := ih (k + 1) (by omega) (by omega) a1 w1 hst1
      exact ⟨e2, a2, w2, hq2, .of_steps (Steps.trans harr (.one step_inLoop)) harr2⟩
  obtain ⟨e1, a1, w1, hq, harr⟩ := key n 0 (by omega) (by omega) a w hst
  exact ⟨e1, a1, w1, hq, .of_steps (.one step_loop) harr⟩
end Go.Proofs.YtdmkhinckljddaaGreat
namespace Go.Proofs.YtdmkhinckljddaaGreat
open Go.RowKit

/-- A piece of code along one way. -/
def vtrun (P : Program) (c : Code) (σ : VS) (W : List WI) (G : List GI) : Option (List Prop × Exit × VS) := match vexec P c σ W with
  | some (ob, e, σ1, []) => match ghosts G σ1 with
    | some (ob2, σ2) => some (ob ++ ob2, e, σ2)
    | none => none
  | _ => none
theorem VT.run {P : Program} {c : Code} {σ σ' : VS} {e : Exit} {W : List WI} {G : List GI} {ob : List Prop} (h : vtrun P c σ W G = some (ob, e, σ')) (hob : All ob) : VT P c σ e σ' := by
  unfold vtrun at h
  split at h
  · rename_i ob1 e1 σ1 h1
    split at h
    · rename_i ob2 σ2 h2
      injection h with h; injection h with e2 h; injection h with e3 e4; subst e2 e3 e4
      exact (vexec_ok h1 (All.app hob).1).post h2 (All.app hob).2
    · cases h
  · cases h
/-- A function's body along one way. -/
def vcrun (P : Program) (fn : Func) (args : List AV) (W : List WI) : Option (List Prop × AV) := match fn.body with
  | some c => match vexec P c (startV fn.ntmps args) W with
    | some (ob, .ret, σ', []) => match resV P σ' fn.results.toList with
      | some cs => some (ob, outV cs)
      | none => none
    | some (ob, .normal, σ', []) => match resV P σ' fn.results.toList with
      | some cs => some (ob, outV cs)
      | none => none
    | _ => none
  | none => none
theorem VC.run {P : Program} {f : Nat} {fn : Func} {args : List AV} {r : AV} {W : List WI} {ob : List Prop} (hf : P.funcs[f]? = some fn) (h : vcrun P fn args W = some (ob, r)) (hob : All ob) : VC P f args r := by
  unfold vcrun at h
  split at h
  · rename_i c hb
    split at h
    · rename_i ob1 σ' h1
      split at h
      · rename_i cs hr
        injection h with h; injection h with e1 e2; subst e1 e2
        exact VC.of hf hb (vexec_ok h1 hob) (.inr rfl) hr (.refl _)
      · cases h
    · rename_i ob1 σ' h1
      split at h
      · rename_i cs hr
        injection h with h; injection h with e1 e2; subst e1 e2
        exact VC.of hf hb (vexec_ok h1 hob) (.inl rfl) hr (.refl _)
      · cases h
    · cases h
  · cases h
theorem VC.weak {P : Program} {f : Nat} {args args' : List AV} {r r' : AV} (h : VC P f args r) (ha : WeakL args' args) (hr : Weak r r') : VC P f args' r' := by
  intro S w xs hS hl hxs
  refine (h S w xs hS (by rw [hl, ha.1]) fun i c v hc hv => ?_).mono fun e w' ⟨x, he, hrel, hb⟩ => ⟨x, he, hr _ _ _ _ hrel, hb⟩
  have hlt : i < args'.length := by rw [ha.1]; exact (List.getElem?_eq_some_iff.1 hc).1
  exact ha.2 i _ c (List.getElem?_eq_getElem hlt) hc _ _ _ _ (hxs i _ v (List.getElem?_eq_getElem hlt) hv)
end Go.Proofs.YtdmkhinckljddaaGreat
namespace Go.Proofs.YtdmkhinckljddaaGreat
open Go.RowKit
/-- A part of a piece of code. -/
def subC : Code → List Nat → Code
  | c, [] => c
  | .seq a b, i :: l => match i with
    | 0 => subC a l
    | _ => subC b l
  | .cond _ a b, i :: l => match i with
    | 0 => subC a l
    | _ => subC b l
  | .block _ b, _ :: l => subC b l
  | .loop b, _ :: l => subC b l
  | .scope b, _ :: l => subC b l
  | .rangeFunc _ _ a b, i :: l => match i with
    | 0 => subC a l
    | _ => subC b l
  | c, _ => c
def fnC (fn : Func) (p : List Nat) : Code := match fn.body with
  | some c => subC c p
  | none => .skip
def setL (t : List AV) : List (Nat × AV) → List AV
  | [] => t
  | (i, a) :: l => setL (t.set i a) l
def vputL (o : List (Nat × Blk)) : List (Nat × Blk) → List (Nat × Blk)
  | [] => o
  | (k, b) :: l => vputL (put1 k b o) l
end Go.Proofs.YtdmkhinckljddaaGreat
namespace Go.Proofs.YtdmkhinckljddaaGreat
open Go.RowKit
end Go.Proofs.YtdmkhinckljddaaGreat
namespace Go.Proofs.YtdmkhinckljddaaGreat
open Go.RowKit

/-! ### Functions that are handed blocks -/
def resM (P : Program) (σ : VS) : List ResultVar → Option (List AV)
  | [] => some []
  | .tmp t :: l => match resM P σ l with
    | some r => some (σ.t.getD t .any :: r)
    | none => none
  | .cell x t :: l => match σ.t.getD x .any with
    | .ptr k 0 0 => match look σ.o k with
      | some (.var cells) => match rdCells P t cells 0, resM P σ l with
        | some c, some r => some (c :: r)
        | _, _ => none
      | _ => none
    | _ => none
theorem resM_ok {P : Program} {S : Ex} {w0 : Base} {w : World} {μ : Nat → Option OI} {σ : VS} {a : Act} (h : StM S w0 μ σ a w) : ∀ {l : List ResultVar} {cs : List AV}, resM P σ l = some cs →
    ∃ vs : List Value, vs.length = cs.length ∧ (l.mapM (resOne a.tmps)).run P w = .ok vs w ∧ ∀ (i : Nat) (c : AV) (v : Value), cs[i]? = some c → vs[i]? = some v → Rel μ (XOf S μ) w c v
  | [], cs, hr => by simp only [resM] at hr; injection hr with hr; subst hr; exact ⟨[], rfl, rfl, by simp⟩
  | .tmp t :: l, cs, hr => by
    rw [resM] at hr
    split at hr
    · rename_i r h1
      injection hr with hr; subst hr
      obtain ⟨vs, e1, e2, e3⟩ := resM_ok h h1
      refine ⟨a.tmps.getD t undef :: vs, by simp [e1], by rw [List.mapM_cons]; simp [resOne, e2], fun i c v hc hv => ?_⟩
      cases i with
      | zero => simp at hc hv; subst hc hv; have := h.eval (.tmp t); simpa [Act.eval, evV] using this
      | succ i => exact e3 i c v (by simpa using hc) (by simpa using hv)
    · cases hr
  | .cell x t :: l, cs, hr => by
    rw [resM] at hr
    split at hr
    · rename_i k hx
      have ex := h.eval (.tmp x)
      rw [show evV σ.t (.tmp x) = σ.t.getD x .any from rfl, hx] at ex
      split at hr
      · rename_i cells hk
        split at hr
        · rename_i c r h1 h2
          injection hr with hr; subst hr
          obtain ⟨vs, e1, e2, e3⟩ := resM_ok h h2
          obtain ⟨o, g, hoi, hg, hcell⟩ := placeCells_ok (env := look σ.o) (k := k) (cells := cells) (i := 0) (π := []) (π' := []) (ob := []) h (fun _ _ h => h) (by simp [placeCells, hk]) trivial
          obtain ⟨v, hv, hrel⟩ := rdCells_ok (b := g) (base := 0 * o.z) (μ := μ) (X := XOf S μ) (w := w) h1 hcell
          have he := ptr_eval ex hoi hg
          rw [Nat.zero_mul, Nat.zero_add] at he hv
          refine ⟨v :: vs, by simp [e1], ?_, fun i c' v' hc hv' => ?_⟩
          · have : a.tmps.getD x undef = .pointer (some ⟨g, 0, none⟩) := he
            rw [List.mapM_cons]
            simp [resOne, this, asAddr, hv, e2]
          · cases i with
            | zero => simp at hc hv'; subst hc hv'; exact hrel
            | succ i => exact e3 i c' v' (by simpa using hc) (by simpa using hv')
        · cases hr
      · cases hr
    · cases hr
theorem resultsM_ok {P : Program} {S : Ex} {w0 : Base} {w : World} {μ : Nat → Option OI} {σ : VS} {a : Act} (h : StM S w0 μ σ a w) {fn : Func} {cs : List AV} (hr : resM P σ fn.results.toList = some cs) : ∃ v, (results fn a.tmps).run P w = .ok v w ∧ Rel μ (XOf S μ) w (outV cs) v := by
  obtain ⟨vs, e1, e2, e3⟩ := resM_ok h hr
  have hm : (fn.results.mapM (resOne a.tmps)).run P w = .ok vs.toArray w := by
    have : fn.results = fn.results.toList.toArray := by simp
    rw [this, List.mapM_toArray]
    rw [map_eq_pure_bind, Sem.run_bind, e2]; rfl
  have hres : (results fn a.tmps).run P w = .ok (if h : vs.toArray.size = 1 then vs.toArray[0] else .tuple vs.toArray) w := by
    have : results fn a.tmps = (do let vs ← fn.results.mapM (resOne a.tmps); pure (if h : vs.size = 1 then vs[0] else .tuple vs)) := by
      unfold results; congr 1
    rw [this, Sem.run_bind, hm]; rfl
  refine ⟨_, hres, ?_⟩
  cases cs with
  | nil =>
    have : vs = [] := List.eq_nil_of_length_eq_zero e1
    subst this; exact .tup rfl (by simp)
  | cons c cs => cases cs with
    | nil =>
      obtain ⟨v, rfl⟩ : ∃ v, vs = [v] := by
        cases vs with
        | nil => simp at e1
        | cons v vs => cases vs with
          | nil => exact ⟨v, rfl⟩
          | cons _ _ => simp at e1
      exact e3 0 c v rfl rfl
    | cons c2 cs =>
      have hne : ¬ vs.toArray.size = 1 := by simp only [List.size_toArray, e1, List.length_cons]; omega
      rw [dif_neg hne]
      exact .tup e1 fun i c v hc hv => e3 i c v hc hv
/-- The state in which a function begins that is handed blocks. -/
def startM (n : Nat) (args : List AV) (o : List (Nat × Blk)) : VS := ⟨(startV n args).t, o⟩
theorem VM.of {P : Program} {f : Nat} {fn : Func} {c : Code} {args : List AV} {o : List (Nat × Blk)} {e : Exit} {σ' : VS} {cs : List AV} (hf : P.funcs[f]? = some fn) (hb : fn.body = some c) (h : VT P c (startM fn.ntmps args o) e σ') (he : e = .normal ∨ e = .ret) (hr : resM P σ' fn.results.toList = some cs) : VM P f args o (outV cs) σ'.o := by
  intro S β μ w xs hm hl hxs
  refine calls_marks hf hb ?_
  have hst : St S β (startM fn.ntmps args o) { tmps := xs.toArray ++ Array.replicate (fn.ntmps - xs.toArray.size) undef, defers := [] } w := by
    refine ⟨μ, DefOK.nil _ _ _, by simp [startM, startV, hl], fun i c v hc hv => ?_, hm.blks, hm.live, hm.inj, hm.below, hm.old⟩
    unfold startM startV at hc
    dsimp only at hc hv
    rw [List.getElem?_append] at hc
    split at hc
    · rename_i hi
      rw [Array.getElem?_append_left (by simp [hl]; exact hi)] at hv
      exact hxs i c v hc (by simpa using hv)
    · rw [List.getElem?_replicate] at hc
      split at hc
      · injection hc with hc; subst hc; exact .any _
      · cases hc
  refine h S _ _ w hst _ fun a' w' hst' => ?_
  refine hst'.body he fun w2 hst2 => ?_
  obtain ⟨μ', hs⟩ := hst2
  obtain ⟨v, hv, hrel⟩ := resultsM_ok hs hr
  have hmem : Mem S β μ' σ'.o w2 := ⟨DefOK.nil _ _ _, rfl, fun i c v hc => by simp at hc, hs.blks, hs.live, hs.inj, hs.below, hs.old⟩
  exact ⟨v, hv, v, μ', rfl, hmem, hrel⟩
def endOk : Exit → Bool
  | .normal => true
  | .ret => true
  | _ => false
/-- What comes back, told in other words: G works on the result, as a slot, and on the blocks. -/
theorem VM.post {P : Program} {f : Nat} {args : List AV} {o o1 o2 : List (Nat × Blk)} {r1 r2 : AV} {G : List GI} {ob : List Prop} (h : VM P f args o r1 o1) (hg : ghosts G ⟨[r1], o1⟩ = some (ob, ⟨[r2], o2⟩)) (hob : All ob) : VM P f args o r2 o2 := by
  intro S β μ w xs hm hl hxs
  refine (h S β μ w xs hm hl hxs).mono fun e w' ⟨x, μ', he, h1, h2⟩ => ?_
  have st : St S β ⟨[r1], o1⟩ { tmps := #[x], defers := [] } w' := ⟨μ', DefOK.nil _ _ _, rfl, fun i c v hc hv => by
    cases i with
    | zero => simp at hc hv; subst hc hv; exact h2
    | succ i => simp at hc, h1.blks, h1.live, h1.inj, h1.below, h1.old⟩
  obtain ⟨μ2, hs⟩ := ghosts_ok hg hob st
  exact ⟨x, μ2, he, ⟨DefOK.nil _ _ _, rfl, fun i c v hc => by simp at hc, hs.blks, hs.live, hs.inj, hs.below, hs.old⟩, hs.tmps 0 r2 x rfl rfl⟩
/-- A function's body along one way, handed blocks; G: what is told at its end. -/
def vmrun (P : Program) (fn : Func) (args : List AV) (o : List (Nat × Blk)) (W : List WI) (G : List GI) : Option (List Prop × AV × List (Nat × Blk)) := match fn.body with
  | some c => match vexec P c (startM fn.ntmps args o) W with
    | some (ob, e, σ', []) => match endOk e with
      | true => match resM P σ' fn.results.toList with
        | some cs => match ghosts G ⟨[outV cs], σ'.o⟩ with
          | some (ob2, ⟨[r], o'⟩) => some (ob ++ ob2, r, o')
          | _ => none
        | none => none
      | false => none
    | _ => none
  | none => none
theorem VM.run {P : Program} {f : Nat} {fn : Func} {args : List AV} {o o' : List (Nat × Blk)} {r : AV} {W : List WI} {G : List GI} {ob : List Prop} (hf : P.funcs[f]? = some fn) (h : vmrun P fn args o W G = some (ob, r, o')) (hob : All ob) : VM P f args o r o' := by
  unfold vmrun at h
  split at h
  · rename_i c hb
    split at h
    · rename_i ob1 e σ' h1
      split at h
      · rename_i he
        split at h
        · rename_i cs hr
          split at h
          · rename_i ob2 r2 o2 hg
            injection h with h; injection h with e1 h; injection h with e2 e3; subst e1 e2 e3
            refine (VM.of hf hb (vexec_ok h1 (All.app hob).1) ?_ hr).post hg (All.app hob).2
            cases e with
            | normal => exact .inl rfl
            | ret => exact .inr rfl
            | _ => cases he
          · cases h
        · cases h
      · cases h
    · cases h
  · cases h
end Go.Proofs.YtdmkhinckljddaaGreat
namespace Go.Proofs.YtdmkhinckljddaaGreat
open Go.RowKit

def rM {P : Program} {f : Nat} {a : List AV} {o o' : List (Nat × Blk)} {r : AV} (_ : VM P f a o r o') : AV := r
def oM {P : Program} {f : Nat} {a : List AV} {o o' : List (Nat × Blk)} {r : AV} (_ : VM P f a o r o') : List (Nat × Blk) := o'
end Go.Proofs.YtdmkhinckljddaaGreat
namespace Go.Proofs.YtdmkhinckljddaaGreat
open Go.RowKit

end Go.Proofs.YtdmkhinckljddaaGreat
namespace Go.Proofs.YtdmkhinckljddaaGreat
open Go.RowKit

abbrev i64 (n : Int) : AV := .lit (.int .i64 n)
abbrev i32 (n : Int) : AV := .lit (.int .i32 n)
abbrev i8 (n : Int) : AV := .lit (.int .i8 n)
abbrev u8 (n : Int) : AV := .lit (.int .u8 n)
abbrev u32 (n : Int) : AV := .lit (.int .u32 n)
abbrev bv (b : Bool) : AV := .lit (.bool b)
abbrev nilv : AV := .lit (.slice none 0 0)
abbrev row1 (k : IntKind) (x : Int) : List AV := [.lit (.int k x)]
abbrev ints (k : IntKind) (l : List Int) : AV := .sl 1 (l.map (row1 k))
/-- A field that is a number. -/
def numField (P : Program) (f : Field) (off : Nat) (k : IntKind) : Bool := f.name != "_" && f.offset == off && (match P.underlying f.type with | some (.int k') => k' == k | _ => false)
theorem eqFields_num {P : Program} {f : Field} {fs : List Field} {off d : Nat} {k : IntKind} {xs ys : Array Value} {a b : Int} (h : numField P f off k = true) (hx : xs[off]? = some (.int k a)) (hy : ys[off]? = some (.int k b)) (w : World) :
    (Op.eqFields (d + 1) xs ys (f :: fs)).run P w = if (a == b) = true then (Op.eqFields (d + 1) xs ys fs).run P w else .ok false w := by
  unfold numField at h
  simp only [Bool.and_eq_true, bne_iff_ne, beq_iff_eq] at h
  obtain ⟨⟨h1, rfl⟩, h3⟩ := h
  have hu : P.underlying f.type = some (.int k) := by
    split at h3
    · rename_i k' hk; have : k' = k := by simpa using h3
      rw [hk, this]
    · cases h3
  have hp : ∀ (zs : Array Value) c, zs[f.offset]? = some c → (part f.type zs f.offset).run P w = .ok c w := by
    intro zs c hc
    simp [part, isAgg, run_underlying hu, hc]
  rw [Op.eqFields, if_pos h1]
  simp only [Sem.run_bind, hp _ _ hx, hp _ _ hy, Result.andThen_ok, run_equalIn_int w d f.type k k a b hu]
  cases hab : (a == b) <;> simp
/-- Two structs of numbers alone, field by field. -/
def eqNums : List (IntKind × Int × Int) → Bool
  | [] => true
  | (_, a, b) :: l => (a == b) && eqNums l
theorem eqFields_nums {P : Program} {d : Nat} {xs ys : Array Value} (w : World) : ∀ {fs : List Field} {l : List (IntKind × Int × Int)} {off : Nat}, fs.length = l.length →
    (∀ (i : Nat) (f : Field) (q : IntKind × Int × Int), fs[i]? = some f → l[i]? = some q → numField P f (off + i) q.1 = true ∧ xs[off + i]? = some (.int q.1 q.2.1) ∧ ys[off + i]? = some (.int q.1 q.2.2)) →
    (Op.eqFields (d + 1) xs ys fs).run P w = .ok (eqNums l) w
  | [], [], off, _, _ => rfl
  | [], _ :: _, _, h, _ => by simp at h
  | _ :: _, [], _, h, _ => by simp at h
  | f :: fs, (k, a, b) :: l, off, hl, h => by
    obtain ⟨h1, h2, h3⟩ := h 0 f (k, a, b) rfl rfl
    rw [Nat.add_zero] at h1 h2 h3
    rw [eqFields_num h1 h2 h3, eqFields_nums w (fs := fs) (l := l) (off := off + 1) (by simpa using hl) fun i f q hf hq => by
      have := h (i + 1) f q (by simpa using hf) (by simpa using hq)
      rw [show off + 1 + i = off + (i + 1) by omega]; exact this]
    rw [eqNums]
    cases hab : (a == b) <;> simp
def kindsOk (P : Program) (t : TypeId) (ks : List IntKind) : Bool := (P.fieldsOf t).toList.length == ks.length && ((P.fieldsOf t).toList.zipIdx.zip ks).all fun ((f, i), k) => numField P f i k
def numsA (l : List (IntKind × Int × Int)) : Value := .agg (l.map fun q => .int q.1 q.2.1).toArray
def numsB (l : List (IntKind × Int × Int)) : Value := .agg (l.map fun q => .int q.1 q.2.2).toArray
theorem bin_nums {P : Program} {t : TypeId} {l : List (IntKind × Int × Int)} (hs : P.underlying t = some (.struct (P.fieldsOf t))) (hp : P.stoodInHeld t = false) (hg : P.eqGuardType P.depth t = false) (hk : kindsOk P t (l.map (·.1)) = true) (x y : Operand) :
    BinTo P .eql t x y (numsA l) (numsB l) (.bool (eqNums l)) ∧ BinTo P .neq t x y (numsA l) (numsB l) (.bool (!eqNums l)) := by
  unfold kindsOk at hk
  simp only [Bool.and_eq_true, beq_iff_eq, List.length_map] at hk
  obtain ⟨hlen, hall⟩ := hk
  have hr : ∀ w, (Op.equalIn 10000 t (numsA l) (numsB l)).run P w = .ok (eqNums l) w := by
    intro w
    rw [numsA, numsB, run_equalIn_agg w 9999 t _ _ hs hp]
    refine eqFields_nums w (d := 9998) (off := 0) hlen fun i f q hf hq => ?_
    have hm := List.all_eq_true.1 hall ((f, i), q.1) (by
      rw [List.mem_iff_getElem?]
      refine ⟨i, ?_⟩
      rw [List.getElem?_zip_eq_some]
      exact ⟨by rw [List.getElem?_zipIdx, hf]; simp, by rw [List.getElem?_map, hq]; rfl⟩)
    dsimp only at hm
    rw [Nat.zero_add]
    exact ⟨hm, by simp [hq], by simp [hq]⟩
  constructor
  · intro w; rw [Sem.run_bind, numsA, numsB, run_eqGuard_agg w _ _ _ _ _ _ hg, Result.andThen_ok, run_eql_struct, ← numsA, ← numsB, hr]; rfl
  · intro w; rw [Sem.run_bind, numsA, numsB, run_eqGuard_agg w _ _ _ _ _ _ hg, Result.andThen_ok, run_neq_struct, ← numsA, ← numsB, hr]; rfl
end Go.Proofs.YtdmkhinckljddaaGreat
namespace Go.Proofs.YtdmkhinckljddaaGreat
open Go.RowKit

/-- A state: so many slots, some of them known, and some blocks. -/
def stt (n : Nat) (l : List (Nat × AV)) (o : List (Nat × Blk)) : VS := ⟨setL (List.replicate n .any) l, vputL [] o⟩
theorem map_at {α : Type} (f : α → List AV) (d : α) {l : List α} {i : Nat} (h : i < l.length) : (l.map f)[i]? = some (f (l.getD i d)) := by
  rw [List.getElem?_map, List.getElem?_eq_getElem h, List.getD_eq_getElem?_getD, List.getElem?_eq_getElem h]; rfl
theorem get_set {a : List (List AV)} {i j : Nat} {r : List AV} (e : j = i) (h : j < a.length) : (a.set j r)[i]? = some r := by subst e; rw [List.getElem?_set, if_pos rfl, if_pos h]
theorem rows_to {α : Type} (f : α → List AV) {r : List (List AV)} {l m : List α} (h : r = l.map f) (e : l = m) : r = m.map f := e ▸ h
theorem Weak.rows {z : Nat} {a b : List (List AV)} (h : a = b) : Weak (.sl z a) (.sl z b) := Weak.eq (h ▸ rfl)
theorem Weak.int {k : IntKind} {a b : Int} (h : a = b) : Weak (.lit (.int k a)) (.lit (.int k b)) := Weak.eq (h ▸ rfl)
theorem Weak.bool {a b : Bool} (h : a = b) : Weak (.lit (.bool a)) (.lit (.bool b)) := Weak.eq (h ▸ rfl)
theorem BlkW.rows {e : TypeId} {z : Nat} {a b : List (List AV)} (h : a = b) : BlkW (.slc e z a) (.slc e z b) := .eq (h ▸ rfl)
/-- An empty slice as nothing. -/
theorem Weak.empty (a : Addr) {cap : Nat} (z : Nat) (h : cap ≤ maxLen) : Weak (.lit (.slice (some a) 0 cap)) (.sl z []) := fun _ _ _ _ hr => by
  rw [rel_lit hr]; exact .pure (.nil z h (fun h => by cases h))
theorem All.c {p : Prop} {l : List Prop} (h : p) (t : All l) : All (p :: l) := ⟨h, t⟩
theorem All.n : All [] := trivial
/-- what a proof speaks of -/
def rO {P : Program} {f : Nat} {a : List AV} {r : AV} (_ : VC P f a r) : AV := r
def aO {P : Program} {f : Nat} {a : List AV} {r : AV} (_ : VC P f a r) : List AV := a
def zO {P : Program} {c : Code} {s s' : VS} {e : Exit} (_ : VT P c s e s') : VS := s'
def nO {k : IntKind} {x y : Int} (_ : k.wrap x = y) : Int := x
def sO {α : Type} {x : Option α} {r : α} (_ : x = some r) : α := r
def wO {a b : AV} (_ : Weak a b) : AV := b
/-- numbers in a row, from which one, and how many -/
def rg : List (Nat × Nat) → List Nat
  | [] => []
  | (a, n) :: l => List.range' a n ++ rg l
end Go.Proofs.YtdmkhinckljddaaGreat
namespace Go.Proofs.YtdmkhinckljddaaGreat
open Go.RowKit

/-! ### Ranges over functions -/
end Go.Proofs.YtdmkhinckljddaaGreat
namespace Go.Proofs.YtdmkhinckljddaaGreat
open Go.RowKit

/-! ### Slices that nobody else holds -/
theorem VC.ofM {P : Program} {f : Nat} {as : List AV} {r : AV} (h : VM P f as [] r []) : VC P f as r := by
  intro S w xs hS hl hxs
  have hm : Mem S ⟨w, fun _ => False, fun _ => none⟩ (fun _ => none) [] w := ⟨DefOK.nil _ _ _, rfl, fun i c v hc => (by simp at hc), fun k b hk => (by cases hk), fun k o hk => (by cases hk), fun k k' o o' g hk => (by cases hk), Bel.refl _ _ _,
    ⟨fun b hb => ⟨hS.lt b hb, fun h => h⟩, fun k o hk => (by cases hk), fun k o hk => (by cases hk), ⟨hS.tab, fun _ _ h => h⟩, fun b hb => ⟨hS.fr b hb, fun h => h⟩⟩⟩
  have hw : ∀ w', Wd S (XOf S fun _ => none) w' w' := fun w' => ⟨Nat.le_refl _, fun _ _ _ => rfl, fun b _ h => h.elim (fun h => h) (fun ⟨_, _, h, _⟩ => by cases h), fun _ h => h⟩
  refine (h S ⟨w, fun _ => False, fun _ => none⟩ (fun _ => none) w xs hm hl fun i c v hc hv => (hxs i c v hc hv).step (hw w) fun _ _ => .inl rfl).mono fun e w' hx => ?_
  obtain ⟨x, μ', he, hm', hr⟩ := hx
  have hμ : μ' = fun _ => none := funext fun k => by
    cases e : μ' k with
    | none => rfl
    | some o => obtain ⟨b, hb, _⟩ := hm'.live k o e; cases hb
  subst hμ
  refine ⟨x, he, hr.step ⟨Nat.le_refl _, fun _ _ _ => rfl, fun b _ h => .inl h, fun _ h => h⟩ fun _ _ => .inl rfl, ?_⟩
  have hb := hm'.below
  exact ⟨hb.os, hb.tape, hb.output, hb.size, fun k hk => hb.block k hk (fun h => h)⟩
/-- A slice without elements is nil, or it is not. -/
theorem VM.empty1 {P : Program} {f z : Nat} {r : AV} {o o' : List (Nat × Blk)} (h1 : VM P f [.lit (.slice none 0 0)] o r o') (h2 : ∀ (a : Addr) (cap : Nat), cap ≤ maxLen → VM P f [.lit (.slice (some a) 0 cap)] o r o') : VM P f [.sl z []] o r o' := by
  intro S β μ w xs hm hl hxs
  obtain ⟨v, rfl⟩ : ∃ v, xs = [v] := by
    cases xs with
    | nil => simp at hl
    | cons v l => cases l with
      | nil => exact ⟨v, rfl⟩
      | cons _ _ => simp at hl
  have hr := hxs 0 (.sl z []) v rfl rfl
  have go : ∀ c, Rel μ (XOf S μ) w c v → VM P f [c] o r o' → Calls P f [v].toArray w fun e w' => ∃ x μ', e = .returned x ∧ Mem S β μ' o' w' ∧ Rel μ' (XOf S μ') w' r x := by
    intro c hc hv
    refine hv S β μ w [v] hm rfl fun i c' v' hc' hv' => ?_
    cases i with
    | zero => simp at hc' hv'; subst hc' hv'; exact hc
    | succ i => simp at hc'
  cases hr with
  | pure hp => cases hp with
    | @nil _ a cap hm h0 =>
      cases a with
      | none => rw [h0 rfl] at go ⊢; exact go _ (.pure (.lit _)) h1
      | some a => exact go _ (.pure (.lit _)) (h2 a cap hm)
    | sl cv hX hb hc hm => exact go _ (.pure (.lit _)) (h2 _ _ hm)
theorem Weak.nilf (z : Nat) : Weak (.lit (.slice none 0 0)) (.fs z []) := fun _ _ _ _ h => by rw [rel_lit h]; exact .pure (.fs (.nil0 z) fun h => absurd rfl h)
theorem Weak.rowsF {z : Nat} {a b : List (List AV)} (h : a = b) : Weak (.fs z a) (.fs z b) := h ▸ Weak.refl _
theorem Weak.fs0 (z : Nat) (l : List (List AV)) : Weak (.fs z l) (.sl z l) := fun _ _ _ _ h => by
  cases h with
  | pure h => cases h with
    | fs h _ => exact .pure h
theorem Weak.tr {a b c : AV} (h : Weak a b) (g : Weak b c) : Weak a c := fun μ X w v hr => g μ X w v (h μ X w v hr)
theorem PW.fs {z : Nat} {l m : List (List AV)} (h : RowsW l m) : PW (.fs z l) (.sl z m) := fun X w v hp => by
  cases hp with
  | fs hp _ =>
    have := Weak.rowsW (z := z) h (fun _ => none) X w v (.pure hp)
    cases this with
    | pure h => exact h
/-- What is read by f is what is read by g, more weakly. -/
class UnF {α : Type} (g f : α → List AV) : Prop where
  h : ∀ x, CW (g x) (f x)
instance {α : Type} (f : α → List AV) : UnF f f := ⟨fun x => .refl _⟩
theorem RowsW.un {α : Type} (g f : α → List AV) [u : UnF g f] (l : List α) : RowsW (l.map g) (l.map f) := ⟨by simp, fun i r s hr hs => by
  rw [List.getElem?_map, Option.map_eq_some_iff] at hr hs
  obtain ⟨x, hx, rfl⟩ := hr; obtain ⟨y, hy, rfl⟩ := hs
  rw [hx] at hy; injection hy with hy; subst hy
  exact u.h x⟩
theorem PW.un {α : Type} {z : Nat} (g f : α → List AV) [UnF g f] (l : List α) : PW (.fs z (l.map g)) (.sl z (l.map f)) := .fs (.un g f l)
end Go.Proofs.YtdmkhinckljddaaGreat

