/- A region that draws its order, some of whose operations make new memory: one walk in the order of the text serves every order. No condition. (A theorem over any program.) -/
import Derived.Test.YtlganffeaapebaaBase
import Derived.Orders
namespace Go.Proofs.Ytlganffeaapebaa
open Go.RowKit

def anc (ops : Array Oper) (i j : Nat) : Bool := ((Region.before ops).getD i 0).testBit j

/-- What holds of the results of those operations that make new memory, from when they were carried out on. -/
abbrev Live := List (Nat × (World → Prop))

/-- The worlds in which operation i may be carried out. -/
def Cls (ops : Array Oper) (w0 : World) (L : Live) (i : Nat) (w : World) : Prop :=
  Below w0.heap.size w0 w ∧ ∀ p ∈ L, anc ops i p.1 = true → p.2 w

def wpF (P : Program) (ops : Array Oper) (w0 : World) (A : Nat → Option (Value → World → Prop)) (vs : Nat → Value) (Qe : Live → Act → Prop) : Nat → Live → List Oper → Act → Prop
  | _, L, [], a => Qe L a
  | i, L, o :: rest, a =>
    (Region.wanted o (yielded ops a.tmps) = true →
      match A i with
      | some Ai => (∀ w, Cls ops w0 L i w → ∀ K Qp, (∀ u w', Below w.heap.size w w' → Ai u w' → K (a.put o.dst u) w') → o.wp P a w K Qp) ∧ wpF P ops w0 A vs Qe (i + 1) ((i, Ai (vs i)) :: L) rest (a.put o.dst (vs i))
      | none => ∃ v, (∀ w, Cls ops w0 L i w → ∀ K Qp, K (a.put o.dst v) w → o.wp P a w K Qp) ∧ wpF P ops w0 A vs Qe (i + 1) L rest (a.put o.dst v)) ∧
    (Region.wanted o (yielded ops a.tmps) = false → wpF P ops w0 A vs Qe (i + 1) L rest (a.put o.dst undef))

theorem no_tf {b : Bool} (h : b = false) (h' : b = true) : False := by rw [h] at h'; cases h'

section steps
variable {P : Program} {ops : Array Oper} {w0 : World} {A : Nat → Option (Value → World → Prop)} {vs : Nat → Value} {Qe : Live → Act → Prop} {i : Nat} {L : Live} {o : Oper} {rest : List Oper} {a : Act}
theorem wpF_nil (h : Qe L a) : wpF P ops w0 A vs Qe i L [] a := h
theorem wpF_no {a' : Act} (hw : Region.wanted o (yielded ops a.tmps) = false) (ha : a.put o.dst undef = a') (h : wpF P ops w0 A vs Qe (i + 1) L rest a') : wpF P ops w0 A vs Qe i L (o :: rest) a :=
  ⟨fun h1 => (no_tf hw h1).elim, fun _ => by rw [ha]; exact h⟩
theorem wpF_skip (hw : Region.wanted o (yielded ops a.tmps) = false) (ha : a.put o.dst undef = a) (h : wpF P ops w0 A vs Qe (i + 1) L rest a) : wpF P ops w0 A vs Qe i L (o :: rest) a := wpF_no hw ha h
theorem wpF_one {a' : Act} (v : Value) (hA : A i = none) (ha : a.put o.dst v = a') (hr : ∀ w, Cls ops w0 L i w → ∀ K Qp, K a' w → o.wp P a w K Qp) (hw : Region.wanted o (yielded ops a.tmps) = true)
    (h : wpF P ops w0 A vs Qe (i + 1) L rest a') : wpF P ops w0 A vs Qe i L (o :: rest) a :=
  ⟨fun _ => by rw [hA]; exact ⟨v, by rw [ha]; exact hr, by rw [ha]; exact h⟩, fun h1 => (no_tf h1 hw).elim⟩
theorem wpF_ex (h : ∃ a' v, (∀ w, Cls ops w0 L i w → ∀ K Qp, K a' w → o.wp P a w K Qp) ∧ a.put o.dst v = a' ∧ A i = none ∧ Region.wanted o (yielded ops a.tmps) = true ∧ wpF P ops w0 A vs Qe (i + 1) L rest a') : wpF P ops w0 A vs Qe i L (o :: rest) a := by
  obtain ⟨a', v, h1, h2, h3, h4, h5⟩ := h
  exact wpF_one v h3 h2 h1 h4 h5
theorem wpF_new {a' : Act} (Ai : Value → World → Prop) (hA : A i = some Ai) (hw : Region.wanted o (yielded ops a.tmps) = true) (ha : a.put o.dst (vs i) = a')
    (hr : ∀ w, Cls ops w0 L i w → ∀ K Qp, (∀ u w', Below w.heap.size w w' → Ai u w' → K (a.put o.dst u) w') → o.wp P a w K Qp)
    (h : wpF P ops w0 A vs Qe (i + 1) ((i, Ai (vs i)) :: L) rest a') : wpF P ops w0 A vs Qe i L (o :: rest) a :=
  ⟨fun _ => by rw [hA]; exact ⟨hr, by rw [ha]; exact h⟩, fun h1 => (no_tf h1 hw).elim⟩
end steps

/-- The frame ahead of operation i, in the order of the text. -/
def acts (ops : Array Oper) (a0 : Act) (val : Nat → Value) : Nat → Act
  | 0 => a0
  | i + 1 => (acts ops a0 val i).put ((ops[i]?).bind (·.dst)) (val i)

theorem acts_congr {ops : Array Oper} {a0 : Act} {val val' : Nat → Value} : ∀ i, (∀ j, j < i → val j = val' j) → acts ops a0 val i = acts ops a0 val' i
  | 0, _ => rfl
  | i + 1, h => by rw [acts, acts, acts_congr i (fun j hj => h j (by omega)), h i (by omega)]

/-- What the walk says of operation i. -/
def LexAt (P : Program) (ops : Array Oper) (w0 : World) (A : Nat → Option (Value → World → Prop)) (vs val : Nat → Value) (L : Live) (i : Nat) (o : Oper) (a : Act) : Prop :=
  (Region.wanted o (yielded ops a.tmps) = true →
    match A i with
    | some Ai => val i = vs i ∧ ∀ w, Cls ops w0 L i w → ∀ K Qp, (∀ u w', Below w.heap.size w w' → Ai u w' → K (a.put o.dst u) w') → o.wp P a w K Qp
    | none => ∀ w, Cls ops w0 L i w → ∀ K Qp, K (a.put o.dst (val i)) w → o.wp P a w K Qp) ∧
  (Region.wanted o (yielded ops a.tmps) = false → val i = undef)

/-- Every limb of L at place i speaks of an operation that makes memory, ahead of i, and is carried out. -/
def Alive (ops : Array Oper) (A : Nat → Option (Value → World → Prop)) (vs val : Nat → Value) (a0 : Act) (i : Nat) (p : Nat × (World → Prop)) : Prop :=
  ∃ o Aj, p.1 < i ∧ ops[p.1]? = some o ∧ A p.1 = some Aj ∧ Region.wanted o (yielded ops (acts ops a0 val p.1).tmps) = true ∧ p.2 = Aj (vs p.1)

theorem lex_of {P : Program} {ops : Array Oper} {w0 : World} {A : Nat → Option (Value → World → Prop)} {vs : Nat → Value} {Qe : Live → Act → Prop} {a0 : Act} :
    ∀ (rest : List Oper) (i : Nat) (L : Live) (val0 : Nat → Value), (∀ k, rest[k]? = ops[i + k]?) → (∀ p ∈ L, Alive ops A vs val0 a0 i p) → wpF P ops w0 A vs Qe i L rest (acts ops a0 val0 i) →
      ∃ val, (∀ j, j < i → val j = val0 j) ∧ (∀ k o, i ≤ k → ops[k]? = some o → ∃ Lk, (∀ p ∈ Lk, Alive ops A vs val a0 k p) ∧ LexAt P ops w0 A vs val Lk k o (acts ops a0 val k)) ∧
        ∃ Le, (∀ p ∈ Le, Alive ops A vs val a0 (i + rest.length) p) ∧ Qe Le (acts ops a0 val (i + rest.length))
  | [], i, L, val0, hr, hL, h => by
    refine ⟨val0, fun _ _ => rfl, fun k o hk hko => ?_, L, hL, h⟩
    have := hr (k - i)
    rw [show i + (k - i) = k from by omega, hko] at this
    simp at this
  | o :: rest, i, L, val0, hr, hL, h => by
    have ho : ops[i]? = some o := by have := hr 0; simpa using this.symm
    have hrest : ∀ k, rest[k]? = ops[i + 1 + k]? := fun k => by have := hr (k + 1); rw [show i + 1 + k = i + (k + 1) from by omega]; simpa using this
    have alive_mono : ∀ (val val' : Nat → Value), (∀ j, j < i + 1 → val' j = val j) → ∀ p n, Alive ops A vs val a0 n p → n ≤ i + 1 → Alive ops A vs val' a0 n p := by
      rintro val val' hv p n ⟨o', Aj, h1, h2, h3, h4, h5⟩ hn
      refine ⟨o', Aj, h1, h2, h3, ?_, h5⟩
      rw [acts_congr p.1 (fun j hj => hv j (by omega))]; exact h4
    -- the value that is laid at i
    have main : ∀ (v : Value) (L' : Live), (∀ p ∈ L', Alive ops A vs (fun j => if j = i then v else val0 j) a0 (i + 1) p) →
        LexAt P ops w0 A vs (fun j => if j = i then v else val0 j) L i o (acts ops a0 val0 i) → wpF P ops w0 A vs Qe (i + 1) L' rest ((acts ops a0 val0 i).put o.dst v) →
        ∃ val, (∀ j, j < i → val j = val0 j) ∧ (∀ k o, i ≤ k → ops[k]? = some o → ∃ Lk, (∀ p ∈ Lk, Alive ops A vs val a0 k p) ∧ LexAt P ops w0 A vs val Lk k o (acts ops a0 val k)) ∧
          ∃ Le, (∀ p ∈ Le, Alive ops A vs val a0 (i + (o :: rest).length) p) ∧ Qe Le (acts ops a0 val (i + (o :: rest).length)) := by
      intro v L' hL' hlex hw
      have ea : acts ops a0 (fun j => if j = i then v else val0 j) i = acts ops a0 val0 i := acts_congr i (fun j hj => by rw [if_neg (by omega)])
      have e1 : acts ops a0 (fun j => if j = i then v else val0 j) (i + 1) = (acts ops a0 val0 i).put o.dst v := by
        rw [acts, ea, ho]; simp
      obtain ⟨val, hv, hk, Le, hLe, hq⟩ := lex_of rest (i + 1) L' (fun j => if j = i then v else val0 j) hrest hL' (by rw [e1]; exact hw)
      have hvi : val i = v := by rw [hv i (by omega), if_pos rfl]
      have hvl : ∀ j, j < i → val j = val0 j := fun j hj => by rw [hv j (by omega), if_neg (by omega)]
      refine ⟨val, hvl, fun k o' hik hko => ?_, Le, ?_, ?_⟩
      · by_cases hki : k = i
        · subst hki
          rw [ho] at hko; cases hko
          refine ⟨L, fun p hp => ?_, ?_⟩
          · obtain ⟨o', Aj, h1, h2, h3, h4, h5⟩ := hL p hp
            exact ⟨o', Aj, h1, h2, h3, by rw [acts_congr p.1 (fun j hj => hvl j (by omega))]; exact h4, h5⟩
          · rw [acts_congr k hvl]
            unfold LexAt at hlex ⊢
            simp only [if_true] at hlex
            rw [hvi]; exact hlex
        · exact hk k o' (by omega) hko
      · intro p hp; have := hLe p hp; rw [show i + (o :: rest).length = i + 1 + rest.length from by simp; omega]; exact this
      · rw [show i + (o :: rest).length = i + 1 + rest.length from by simp; omega]; exact hq
    have keepL : ∀ v, ∀ p ∈ L, Alive ops A vs (fun j => if j = i then v else val0 j) a0 (i + 1) p := fun v p hp => by
      obtain ⟨o', Aj, h1, h2, h3, h4, h5⟩ := hL p hp
      exact ⟨o', Aj, by omega, h2, h3, by rw [acts_congr p.1 (val' := val0) (fun j hj => by rw [if_neg (by omega)])]; exact h4, h5⟩
    cases hw : Region.wanted o (yielded ops (acts ops a0 val0 i).tmps) with
    | false =>
      refine main undef L (keepL undef) ⟨fun h1 => (no_tf hw h1).elim, fun _ => by simp⟩ (h.2 hw)
    | true =>
      have h1 := h.1 hw
      cases hA : A i with
      | none =>
        rw [hA] at h1
        obtain ⟨v, hv, hrec⟩ := h1
        refine main v L (keepL v) ⟨fun _ => ?_, fun h1 => (no_tf h1 hw).elim⟩ hrec
        rw [hA]; simpa using hv
      | some Ai =>
        rw [hA] at h1
        obtain ⟨hv, hrec⟩ := h1
        refine main (vs i) ((i, Ai (vs i)) :: L) (fun p hp => ?_) ⟨fun _ => ?_, fun h1 => (no_tf h1 hw).elim⟩ hrec
        · rcases List.mem_cons.1 hp with rfl | hp
          · exact ⟨o, Ai, by simp, ho, hA, by rw [acts_congr i (val' := val0) (fun j hj => by rw [if_neg (by omega)])]; exact hw, rfl⟩
          · exact keepL _ p hp
        · rw [hA]; exact ⟨by simp, hv⟩

/-! ### Any order -/

/-- Operations that yield a value of their own, enter no function and defer nothing. -/
def plainOp : Op → Bool
  | .call { callee := .builtin b, .. } => match b with | .append | .cap | .copy | .len | .max | .min => true | _ => false
  | .call _ | .go _ | .defer _ | .send .. | .recv .. | .select .. => false
  | _ => true

theorem of_v {P : Program} {w w' : World} {n : Next} (s : Sem Value) (h : (do let x ← s; pure (Next.value x) : Sem Next).run P w = .ok n w') : ∃ u, n = .value u := by
  rw [Sem.run_bind] at h
  cases hr : s.run P w with
  | ok a w1 => rw [hr] at h; simp at h; exact ⟨a, h.1.symm⟩
  | halt x w1 => rw [hr] at h; simp at h
theorem of_u {P : Program} {w w' : World} {n : Next} (s : Sem Unit) (h : (do s; pure Next.skip : Sem Next).run P w = .ok n w') : n = .skip := by
  rw [Sem.run_bind] at h
  cases hr : s.run P w with
  | ok a w1 => rw [hr] at h; simp at h; exact h.1.symm
  | halt x w1 => rw [hr] at h; simp at h

theorem plain_run {P : Program} {ρ : Operand → Value} {o : Oper} {w w' : World} {n : Next} (hp : plainOp o.op = true) (h : (execOp ρ o).run P w = .ok n w') : (∃ u, n = .value u) ∨ n = .skip := by
  obtain ⟨dst, op, type, pos, after, guard⟩ := o
  cases op <;> simp only [plainOp, Bool.false_eq_true] at hp <;> simp only [execOp] at h
  case call c =>
    obtain ⟨callee, args, argTypes⟩ := c
    cases callee <;> simp only [Bool.false_eq_true] at hp
    rename_i b
    simp only [resolve, invoke, Sem.run_bind, Sem.run_pure, Result.andThen_ok] at h
    cases b <;> simp only [Bool.false_eq_true] at hp <;> exact .inl (of_v _ h)
  case pick c a b =>
    rw [Sem.run_bind] at h
    cases hr : (asBool (ρ c)).run P w with
    | ok a w1 => rw [hr] at h; simp at h; exact .inl ⟨_, h.1.symm⟩
    | halt x w1 => rw [hr] at h; simp at h
  case nilCheck x =>
    split at h
    all_goals (try (split at h))
    all_goals first
      | (simp [runtimePanic, goPanic, go_sem] at h; done)
      | (simp at h; exact .inl ⟨_, h.1.symm⟩)
      | (simp only [Sem.run_bind, Result.andThen] at h
         split at h
         · split at h
           · split at h
             · simp only [Sem.run_bind, Result.andThen] at h
               split at h
               · simp at h; exact .inl ⟨_, h.1.symm⟩
               · simp at h
             · simp at h; exact .inl ⟨_, h.1.symm⟩
           · simp at h
         · simp at h)
  all_goals first
    | exact .inl (of_v _ h)
    | exact .inr (of_u _ h)
    | (simp at h; exact .inl ⟨_, h.1.symm⟩)

/-! ### What comes ahead of an operation -/
def beforeStep (acc : Array Nat) (s : Nat) (e : Edge) : Nat := if Region.binds .any e then s ||| 2 ^ e.on ||| acc.getD e.on 0 else s

theorem bits_step (acc : Array Nat) (j : Nat) : ∀ (l : List Edge) (s : Nat), (l.foldl (beforeStep acc) s).testBit j = true → s.testBit j = true ∨ ∃ e ∈ l, Region.binds .any e = true ∧ (e.on = j ∨ (acc.getD e.on 0).testBit j = true)
  | [], s, h => .inl h
  | e :: l, s, h => by
    rcases bits_step acc j l _ h with h1 | ⟨e', he', hb, hh⟩
    · unfold beforeStep at h1
      split at h1
      · rename_i hb
        rw [Nat.testBit_or, Nat.testBit_or] at h1
        rcases Bool.or_eq_true_iff.1 h1 with h2 | h2
        · rcases Bool.or_eq_true_iff.1 h2 with h3 | h3
          · exact .inl h3
          · rw [Nat.testBit_two_pow] at h3
            exact .inr ⟨e, by simp, hb, .inl (by simpa using h3)⟩
        · exact .inr ⟨e, by simp, hb, .inr h2⟩
      · exact .inl h1
    · exact .inr ⟨e', by simp [he'], hb, hh⟩

theorem before_fold : ∀ (l : List Oper) (acc : Array Nat),
    let R := l.foldl (fun acc o => acc.push (o.after.foldl (beforeStep acc) 0)) acc
    R.size = acc.size + l.length ∧ (∀ k, k < acc.size → R.getD k 0 = acc.getD k 0) ∧
      ∀ m o, l[m]? = some o → ∃ acc' : Array Nat, acc'.size = acc.size + m ∧ (∀ k, k < acc.size + m → acc'.getD k 0 = R.getD k 0) ∧ R.getD (acc.size + m) 0 = o.after.foldl (beforeStep acc') 0
  | [], acc => by simp
  | o :: l, acc => by
    obtain ⟨h1, h2, h3⟩ := before_fold l (acc.push (o.after.foldl (beforeStep acc) 0))
    simp only [List.foldl_cons]
    refine ⟨by rw [h1]; simp; omega, fun k hk => ?_, fun m o' hm => ?_⟩
    · rw [h2 k (by simp; omega)]; simp [Array.getElem?_push, Nat.ne_of_lt hk]
    · cases m with
      | zero =>
        simp at hm; subst hm
        refine ⟨acc, rfl, fun k hk => ?_, ?_⟩
        · have hk' : k < acc.size := by omega
          rw [h2 k (by simp; omega)]; simp [Array.getElem?_push, Nat.ne_of_lt hk']
        · rw [Nat.add_zero, h2 acc.size (by simp)]; simp
      | succ m =>
        obtain ⟨acc', g1, g2, g3⟩ := h3 m o' (by simpa using hm)
        simp only [Array.size_push] at g1 g2 g3
        refine ⟨acc', by omega, fun k hk => g2 k (by omega), ?_⟩
        rw [show acc.size + (m + 1) = acc.size + 1 + m from by omega]; exact g3

theorem anc_spec {ops : Array Oper} {i j : Nat} {o : Oper} (ho : ops[i]? = some o) (h : anc ops i j = true) :
    ∃ e ∈ o.after, Region.binds .any e = true ∧ (e.on = j ∨ (e.on < i ∧ anc ops e.on j = true)) := by
  have hb : Region.before ops = ops.toList.foldl (fun acc o => acc.push (o.after.foldl (beforeStep acc) 0)) #[] := by
    unfold Region.before; rw [← Array.foldl_toList]; rfl
  obtain ⟨h1, h2, h3⟩ := before_fold ops.toList #[]
  obtain ⟨acc', g1, g2, g3⟩ := h3 i o (by simpa using ho)
  rw [← hb] at g2 g3
  unfold anc at h
  simp only [Array.size_empty, Nat.zero_add] at g1 g2 g3
  rw [g3, ← Array.foldl_toList] at h
  rcases bits_step acc' j o.after.toList 0 h with h | ⟨e, he, hbe, hh⟩
  · simp at h
  · refine ⟨e, by simpa using he, hbe, ?_⟩
    rcases hh with hh | hh
    · exact .inl hh
    · by_cases hlt : e.on < i
      · exact .inr ⟨hlt, by unfold anc; rw [← g2 e.on hlt]; exact hh⟩
      · rw [show acc'.getD e.on 0 = 0 from by simp [Array.getElem?_eq_none (show acc'.size ≤ e.on by omega)]] at hh
        simp at hh

theorem anc_in {ops : Array Oper} {S : Nat → Prop} (hS : ∀ k o, S k → ops[k]? = some o → ∀ e ∈ o.after, Region.binds .any e = true → S e.on)
    (hin : ∀ k, S k → ∃ o, ops[k]? = some o) : ∀ (i j : Nat) (o : Oper), ops[i]? = some o → (∀ e ∈ o.after, Region.binds .any e = true → S e.on) → anc ops i j = true → S j := by
  intro i
  induction i using Nat.strongRecOn with
  | _ i ih =>
    intro j o ho hi h
    obtain ⟨e, he, hb, hh⟩ := anc_spec ho h
    rcases hh with rfl | ⟨hlt, hh⟩
    · exact hi e he hb
    · obtain ⟨o', ho'⟩ := hin _ (hi e he hb)
      exact ih e.on hlt j o' ho' (hS _ _ (hi e he hb) ho') hh

/-! ### What is asked of a region, by reckoning -/
def freshOk (ops : Array Oper) (isNew : Nat → Bool) : Bool :=
  Region.noSelect ops &&
  (List.range ops.size).all fun i => match ops[i]? with
    | none => true
    | some o => (isNew i || plainOp o.op) && (match o.op with | .defer _ => false | _ => true) &&
      (o.after.toList.all fun e => !Region.binds .any e || e.on < i) &&
      (List.range ops.size).all fun j => match ops[j]? with
        | none => true
        | some o' => match o'.dst with
          | none => true
          | some t => (j == i || o.dst != some t) && (!(o.looksAt ops).contains t || (j < i && anc ops i j) || (i < j && anc ops j i))

theorem freshOk_spec {ops : Array Oper} {isNew : Nat → Bool} (h : freshOk ops isNew = true) {i : Nat} {o : Oper} (ho : ops[i]? = some o) :
    (isNew i = true ∨ plainOp o.op = true) ∧ (∀ d, o.op ≠ .defer d) ∧ (∀ cs b, o.op ≠ .select cs b) ∧ (∀ e ∈ o.after, Region.binds .any e = true → e.on < i) ∧
      ∀ j o' t, ops[j]? = some o' → o'.dst = some t → (j = i ∨ o.dst ≠ some t) ∧ (t ∈ o.looksAt ops → (j < i ∧ anc ops i j = true) ∨ (i < j ∧ anc ops j i = true)) := by
  unfold freshOk at h
  rw [Bool.and_eq_true] at h
  obtain ⟨hs, h⟩ := h
  have hi : i < ops.size := (Array.getElem?_eq_some_iff.1 ho).1
  have h1 := List.all_eq_true.1 h i (List.mem_range.2 hi)
  rw [ho] at h1
  simp only [Bool.and_eq_true, Bool.or_eq_true] at h1
  obtain ⟨⟨⟨h1, h2⟩, h3⟩, h4⟩ := h1
  refine ⟨h1, ?_, fun cs b => Region.noSelect_spec hs i o cs b ho, fun e he hb => ?_, fun j o' t hj ht => ?_⟩
  · intro d hd; rw [hd] at h2; simp at h2
  · have := List.all_eq_true.1 h3 e (by simpa using he)
    simpa [hb] using this
  · have hjl : j < ops.size := (Array.getElem?_eq_some_iff.1 hj).1
    have h5 := List.all_eq_true.1 h4 j (List.mem_range.2 hjl)
    rw [hj] at h5
    simp only [ht, Bool.and_eq_true, Bool.or_eq_true] at h5
    refine ⟨?_, fun hm => ?_⟩
    · rcases h5.1 with h | h
      · exact .inl (by simpa using h)
      · exact .inr (by simpa using h)
    · rcases h5.2 with (h | h) | h
      · simp [hm] at h
      · exact .inl ⟨by simpa using h.1, h.2⟩
      · exact .inr ⟨by simpa using h.1, h.2⟩

/-- The frame 'a' holds what the operations of S have laid, and else what 'a0' held. -/
structure Inv (ops : Array Oper) (a0 : Act) (val : Nat → Value) (S : Nat → Prop) (a : Act) : Prop where
  size : a.tmps.size = a0.tmps.size
  defers : a.defers = a0.defers
  wrote : ∀ j o t, S j → ops[j]? = some o → o.dst = some t → t < a0.tmps.size → a.tmps[t]? = some (val j)
  other : ∀ t, (∀ j o, S j → ops[j]? = some o → o.dst ≠ some t) → a.tmps[t]? = a0.tmps[t]?

theorem Inv.put {ops : Array Oper} {a0 a : Act} {val : Nat → Value} {S : Nat → Prop} (h : Inv ops a0 val S a) {i : Nat} {o : Oper} (ho : ops[i]? = some o) {v : Value} (hv : v = val i)
    (hd : ∀ j o' t, S j → ops[j]? = some o' → o'.dst = some t → j = i ∨ o.dst ≠ some t) : Inv ops a0 val (fun j => S j ∨ j = i) (a.put o.dst v) := by
  subst hv
  cases hdst : o.dst with
  | none =>
    refine ⟨h.size, h.defers, fun j o' t hj ho' ht hlt => ?_, fun t ht => h.other t (fun j o' hj => ht j o' (.inl hj))⟩
    rcases hj with hj | rfl
    · exact h.wrote j o' t hj ho' ht hlt
    · rw [ho] at ho'; cases ho'; rw [hdst] at ht; cases ht
  | some d =>
    have hp : (a.put (some d) (val i)).tmps = a.tmps.setIfInBounds d (val i) := rfl
    refine ⟨by rw [hp]; simpa using h.size, h.defers, fun j o' t hj ho' ht hlt => ?_, fun t ht => ?_⟩
    · rw [hp]
      by_cases htd : d = t
      · subst htd
        have hji : j = i := by
          rcases hj with hj | rfl
          · rcases hd j o' d hj ho' ht with h | h
            · exact h
            · exact absurd hdst h
          · rfl
        subst hji
        rw [Array.getElem?_setIfInBounds_self_of_lt (by rw [h.size]; exact hlt)]
      · rw [Array.getElem?_setIfInBounds_ne htd]
        rcases hj with hj | rfl
        · exact h.wrote j o' t hj ho' ht hlt
        · rw [ho] at ho'; cases ho'; rw [hdst] at ht; cases ht; exact absurd rfl htd
    · have htd : d ≠ t := fun e => ht i o (.inr rfl) ho (by rw [hdst, e])
      rw [hp, Array.getElem?_setIfInBounds_ne htd]
      exact h.other t (fun j o' hj => ht j o' (.inl hj))

theorem Inv.congr {ops : Array Oper} {a0 a : Act} {val val' : Nat → Value} {S S' : Nat → Prop} (h : Inv ops a0 val S a) (hs : ∀ j, S j ↔ S' j) (hv : ∀ j, S j → val j = val' j) : Inv ops a0 val' S' a :=
  ⟨h.size, h.defers, fun j o t hj ho ht hlt => by rw [← hv j ((hs j).2 hj)]; exact h.wrote j o t ((hs j).2 hj) ho ht hlt, fun t ht => h.other t (fun j o hj => ht j o ((hs j).1 hj))⟩

theorem acts_inv {ops : Array Oper} {isNew : Nat → Bool} (hok : freshOk ops isNew = true) (a0 : Act) (val : Nat → Value) : ∀ i, i ≤ ops.size → Inv ops a0 val (fun j => j < i) (acts ops a0 val i)
  | 0, _ => ⟨rfl, rfl, fun j o t hj => absurd hj (by omega), fun t _ => rfl⟩
  | i + 1, hi => by
    have ih := acts_inv hok a0 val i (by omega)
    have ho : ops[i]? = some ops[i] := Array.getElem?_eq_getElem (by omega)
    rw [acts, ho]
    exact (ih.put ho rfl (fun j o' t _ ho' ht => ((freshOk_spec hok ho).2.2.2.2 j o' t ho' ht).1)).congr (fun j => by omega) (fun _ _ => rfl)

/-- Two frames that agree on what the operation looks at. -/
theorem see {ops : Array Oper} {a b : Act} {o : Oper} (hs : ∀ cs b, o.op ≠ .select cs b) (h : ∀ t ∈ o.looksAt ops, a.tmps[t]? = b.tmps[t]?) :
    execOp a.eval o = execOp b.eval o ∧ Region.wanted o (yielded ops a.tmps) = Region.wanted o (yielded ops b.tmps) := by
  constructor
  · refine execOp_congr o hs fun x hx => ?_
    cases x with
    | tmp t =>
      have := h t (List.mem_append_left _ (List.mem_filterMap.2 ⟨.tmp t, by simpa using hx, rfl⟩))
      simp [Act.eval, this]
    | _ => rfl
  · unfold Region.wanted
    cases hg : o.guard with
    | none => rfl
    | some gw =>
      obtain ⟨g, want⟩ := gw
      have hy : yielded ops a.tmps g = yielded ops b.tmps g := by
        unfold yielded
        cases ht : (ops[g]?).bind (·.dst) with
        | none => rfl
        | some t =>
          have := h t (by unfold Oper.looksAt; rw [hg]; exact List.mem_append_right _ (by simp [ht]))
          simp [this]
      simp only [hy]

theorem put_inj {a b : Act} (hs : a.tmps.size = b.tmps.size) (dst : Option Tmp) (u v : Value) (h : b.put dst u = b.put dst v) : a.put dst u = a.put dst v := by
  cases dst with
  | none => rfl
  | some d =>
    rcases Nat.lt_or_ge d b.tmps.size with hd | hd
    · have h1 := congrArg (fun x : Act => x.tmps[d]?) h
      simp only [Act.put] at h1
      rw [Array.getElem?_setIfInBounds_self_of_lt hd, Array.getElem?_setIfInBounds_self_of_lt hd] at h1
      simp at h1; rw [h1]
    · have ha : a.tmps.size ≤ d := Nat.le_trans (Nat.le_of_eq hs) hd
      simp only [Act.put]
      rw [Array.setIfInBounds_eq_of_size_le ha, Array.setIfInBounds_eq_of_size_le ha]

/-- One operation, run in a frame that agrees with the one of the walk. -/
theorem wp_swap {P : Program} {o : Oper} {a b : Act} {w : World} {K : Act → World → Prop} {Q : Exit → Act → World → Prop} (he : execOp a.eval o = execOp b.eval o) (hs : a.tmps.size = b.tmps.size)
    (h : o.wp P b w (fun b' w' => ∃ u, b' = b.put o.dst u ∧ K (a.put o.dst u) w') (fun _ _ _ => False)) : o.wp P a w K Q := by
  unfold Oper.wp at *
  rw [he]
  generalize hr : (execOp b.eval o).run P w = r at h
  have key : ∀ u w', (∃ u', b.put o.dst u = b.put o.dst u' ∧ K (a.put o.dst u') w') → K (a.put o.dst u) w' := by
    rintro u w' ⟨u', e, hk⟩
    rw [put_inj hs o.dst u u' e]; exact hk
  cases r with
  | ok n w' =>
    cases n <;> simp only [Oper.upon] at h ⊢
    case value u => exact key u w' h
    case skip => exact key undef w' h
    case defer d =>
      obtain ⟨u, e, _⟩ := h
      have := congrArg Act.defers e
      cases hdd : o.dst with
      | none => rw [hdd] at this; simp [Act.put] at this
      | some t => rw [hdd] at this; simp [Act.put] at this
    case enter f args =>
      refine Calls.mono h fun e w'' he => ?_
      cases e with
      | returned u => exact key u w'' he
      | panicked c => exact he.elim
      | outgrown => obtain ⟨_, _, hf⟩ := he; exact hf.elim
    case row row args => exact Rows.mono h fun u w'' he => key u w'' he
  | halt x w' => cases x <;> simp only [Oper.upon] at h

/-- A plain operation yields one value. -/
theorem one_value {P : Program} {o : Oper} {b : Act} {w : World} {v : Value} (hp : plainOp o.op = true) (h : ∀ (K : Act → World → Prop) Qp, K (b.put o.dst v) w → o.wp P b w K Qp) :
    ∃ n w', (execOp b.eval o).run P w = .ok n w' ∧ ((∃ u, n = .value u ∧ b.put o.dst u = b.put o.dst v) ∨ (n = .skip ∧ b.put o.dst undef = b.put o.dst v)) := by
  have h1 := h (fun b' _ => b' = b.put o.dst v) (fun _ _ _ => False) rfl
  unfold Oper.wp at h1
  generalize hr : (execOp b.eval o).run P w = r at h1
  cases r with
  | ok n w' =>
    rcases plain_run hp hr with ⟨u, rfl⟩ | rfl
    · exact ⟨_, w', rfl, .inl ⟨u, rfl, h1⟩⟩
    · exact ⟨_, w', rfl, .inr ⟨rfl, h1⟩⟩
  | halt x w' => cases x <;> simp only [Oper.upon] at h1

theorem same_value {P : Program} {o : Oper} {a b b' : Act} {w : World} {v v' : Value} (hp : plainOp o.op = true) (he : execOp b.eval o = execOp b'.eval o) (hs : a.tmps.size = b.tmps.size) (hs' : a.tmps.size = b'.tmps.size)
    (h : ∀ (K : Act → World → Prop) Qp, K (b.put o.dst v) w → o.wp P b w K Qp) (h' : ∀ (K : Act → World → Prop) Qp, K (b'.put o.dst v') w → o.wp P b' w K Qp) : a.put o.dst v = a.put o.dst v' := by
  obtain ⟨n, w1, hr, hn⟩ := one_value hp h
  obtain ⟨n', w2, hr', hn'⟩ := one_value hp h'
  rw [he, hr'] at hr
  simp only [Result.ok.injEq] at hr
  obtain ⟨rfl, rfl⟩ := hr
  rcases hn with ⟨u, rfl, e⟩ | ⟨rfl, e⟩
  · rcases hn' with ⟨u', e', e2⟩ | ⟨e', _⟩
    · cases e'
      rw [← put_inj hs _ _ _ e, ← put_inj hs' _ _ _ e2]
    · cases e'
  · rcases hn' with ⟨u', e', _⟩ | ⟨_, e2⟩
    · cases e'
    · rw [← put_inj hs _ _ _ e, ← put_inj hs' _ _ _ e2]

theorem countP_set_true : ∀ (l : List Bool) (i : Nat) (h : i < l.length), l[i] = false → (l.set i true).countP (fun b => !b) + 1 = l.countP (fun b => !b)
  | b :: l, 0, _, hf => by simp at hf; subst hf; simp
  | b :: l, i + 1, h, hf => by
    have := countP_set_true l i (by simpa using h) (by simpa using hf)
    simp only [List.set_cons_succ, List.countP_cons]
    omega

section run
variable {P : Program} {ops : Array Oper} {w0 : World} {A : Nat → Option (Value → World → Prop)} {a0 : Act} {Q : Exit → Act → World → Prop}
  {VAL : (Nat → Value) → Nat → Value} {Qe : Live → Act → Prop} {V : Nat → Option Value}

theorem run_any (hok : freshOk ops (fun i => (A i).isSome) = true) (hpers : ∀ i Ai v w w', A i = some Ai → Ai v w → Below w.heap.size w w' → Ai v w')
    (hAV : ∀ i Ai c u w, A i = some Ai → V i = some c → Ai u w → u = c)
    (hlex : ∀ vs, (∀ i c, V i = some c → vs i = c) → ∀ k o, ops[k]? = some o → ∃ Lk, (∀ p ∈ Lk, Alive ops A vs (VAL vs) a0 k p) ∧ LexAt P ops w0 A vs (VAL vs) Lk k o (acts ops a0 (VAL vs) k))
    (hend : ∀ vs, (∀ i c, V i = some c → vs i = c) → ∃ Le, (∀ p ∈ Le, Alive ops A vs (VAL vs) a0 ops.size p) ∧ Qe Le (acts ops a0 (VAL vs) ops.size))
    (hQ : ∀ Le a w, Below w0.heap.size w0 w → (∀ p ∈ Le, p.2 w) → Qe Le a → Q .normal a w) :
    ∀ (fuel : Nat) (listed : Array Bool) (a : Act) (w : World) (ρ : Nat → Value), (∀ i c, V i = some c → ρ i = c) → listed.size = ops.size →
      (∀ i o, listed.getD i false = true → ops[i]? = some o → ∀ e ∈ o.after, Region.binds .any e = true → listed.getD e.on false = true) →
      (∀ vs, (∀ i c, V i = some c → vs i = c) → (∀ j, listed.getD j false = true → vs j = ρ j) → Inv ops a0 (VAL vs) (fun j => listed.getD j false = true) a) →
      Below w0.heap.size w0 w →
      (∀ j o Aj, listed.getD j false = true → ops[j]? = some o → A j = some Aj → Region.wanted o (yielded ops (acts ops a0 (VAL ρ) j).tmps) = true → Aj (ρ j) w) →
      (∀ i, listed.getD i true = false → i < ops.size → 0 < fuel) →
      (listed.toList.countP (fun b => !b) ≤ fuel) →
      wpAny P .any ops Q fuel listed a w := by
  have hin : ∀ (listed : Array Bool), listed.size = ops.size → ∀ k, listed.getD k false = true → ∃ o, ops[k]? = some o := by
    intro listed hsz k hk
    have : k < ops.size := by
      rcases Nat.lt_or_ge k ops.size with h | h
      · exact h
      · simp [Array.getElem?_eq_none (show listed.size ≤ k by omega)] at hk
    exact ⟨_, Array.getElem?_eq_getElem this⟩
  -- the least operation that is not listed may come up
  have hnone : ∀ (listed : Array Bool), listed.size = ops.size → Region.ready .any ops listed = [] → ∀ n i, i < n → i < ops.size → listed.getD i false = true := by
    intro listed hsz hr n
    induction n with
    | zero => intro i hi; omega
    | succ n ih =>
      intro i hi hio
      by_cases hin' : i < n
      · exact ih i hin' hio
      · have hin2 : i = n := by omega
        subst hin2
        have ho : ops[i]? = some ops[i] := Array.getElem?_eq_getElem hio
        cases hl : listed.getD i false with
        | true => rfl
        | false =>
          exfalso
          have hl' : listed.getD i true = false := by
            have : i < listed.size := by omega
            simp [this] at hl ⊢; exact hl
          have : i ∈ Region.ready .any ops listed := mem_ready.2 ⟨hl', ops[i], ho, fun e he hb => ih e.on (by have := (freshOk_spec hok ho).2.2.2.1 e he hb; omega) (by have := (freshOk_spec hok ho).2.2.2.1 e he hb; omega)⟩
          rw [hr] at this; cases this
  -- the end
  have hdone : ∀ (listed : Array Bool) (a : Act) (w : World) (ρ : Nat → Value), (∀ i c, V i = some c → ρ i = c) → listed.size = ops.size → Region.ready .any ops listed = [] →
      (∀ vs, (∀ i c, V i = some c → vs i = c) → (∀ j, listed.getD j false = true → vs j = ρ j) → Inv ops a0 (VAL vs) (fun j => listed.getD j false = true) a) → Below w0.heap.size w0 w →
      (∀ j o Aj, listed.getD j false = true → ops[j]? = some o → A j = some Aj → Region.wanted o (yielded ops (acts ops a0 (VAL ρ) j).tmps) = true → Aj (ρ j) w) → Q .normal a w := by
    intro listed a w ρ hρV hsz hr hinv hbw hA
    have hall := hnone listed hsz hr ops.size
    have i1 := hinv ρ hρV (fun _ _ => rfl)
    have i2 := acts_inv hok a0 (VAL ρ) ops.size (Nat.le_refl _)
    have ea : a = acts ops a0 (VAL ρ) ops.size := by
      have et : a.tmps = (acts ops a0 (VAL ρ) ops.size).tmps := by
        refine Array.ext_getElem? fun t => ?_
        by_cases hw : ∃ j o, j < ops.size ∧ ops[j]? = some o ∧ o.dst = some t
        · obtain ⟨j, o, hj, ho, ht⟩ := hw
          by_cases hlt : t < a0.tmps.size
          · rw [i1.wrote j o t (hall j hj hj) ho ht hlt, i2.wrote j o t hj ho ht hlt]
          · rw [Array.getElem?_eq_none (Nat.le_trans (Nat.le_of_eq i1.size) (Nat.le_of_not_lt hlt)), Array.getElem?_eq_none (Nat.le_trans (Nat.le_of_eq i2.size) (Nat.le_of_not_lt hlt))]
        · rw [i1.other t (fun j o hj ho ht => hw ⟨j, o, (Array.getElem?_eq_some_iff.1 ho).1, ho, ht⟩), i2.other t (fun j o hj ho ht => hw ⟨j, o, hj, ho, ht⟩)]
      have ed : a.defers = (acts ops a0 (VAL ρ) ops.size).defers := i1.defers.trans i2.defers.symm
      cases a; cases hb : acts ops a0 (VAL ρ) ops.size
      rw [hb] at et ed
      simp only at et ed
      rw [et, ed]
    obtain ⟨Le, hLe, hq⟩ := hend ρ hρV
    rw [ea]
    refine hQ Le _ w hbw (fun p hp => ?_) hq
    obtain ⟨o, Aj, h1, h2, h3, h4, h5⟩ := hLe p hp
    rw [h5]
    exact hA p.1 o Aj (hall _ h1 h1) h2 h3 h4
  intro fuel
  induction fuel with
  | zero =>
    intro listed a w ρ hρV hsz hcl hinv hbw hA hf _
    have hr : Region.ready .any ops listed = [] := by
      cases hr : Region.ready .any ops listed with
      | nil => rfl
      | cons i l =>
        have := mem_ready.1 (show i ∈ Region.ready .any ops listed by rw [hr]; simp)
        obtain ⟨h1, o, ho, _⟩ := this
        exact absurd (hf i h1 (Array.getElem?_eq_some_iff.1 ho).1) (by omega)
    exact ⟨hr, hdone listed a w ρ hρV hsz hr hinv hbw hA⟩
  | succ fuel ih =>
    intro listed a w ρ hρV hsz hcl hinv hbw hA _ hcnt
    refine ⟨fun hr => hdone listed a w ρ hρV hsz hr hinv hbw hA, fun i hi => ?_⟩
    obtain ⟨hun, o, ho, hedge⟩ := mem_ready.1 hi
    have hio : i < ops.size := (Array.getElem?_eq_some_iff.1 ho).1
    obtain ⟨k1, k2, k3, k4, k5⟩ := freshOk_spec hok ho
    have hnl : ¬ listed.getD i false = true := by
      have : i < listed.size := by omega
      simp [this] at hun ⊢; exact hun
    have hset : ∀ j, (listed.setIfInBounds i true).getD j false = true ↔ (listed.getD j false = true ∨ j = i) := by
      intro j
      by_cases hji : j = i
      · subst hji; simp [show j < listed.size by omega]
      · rw [getD_set_ne false (Ne.symm hji)]; simp [hji]
    have hcl' : ∀ k o', (listed.setIfInBounds i true).getD k false = true → ops[k]? = some o' → ∀ e ∈ o'.after, Region.binds .any e = true → (listed.setIfInBounds i true).getD e.on false = true := by
      intro k o' hk hko e he hb
      rw [hset] at hk ⊢
      rcases hk with hk | rfl
      · exact .inl (hcl k o' hk hko e he hb)
      · rw [ho] at hko; cases hko; exact .inl (hedge e he hb)
    have hcnt' : (listed.setIfInBounds i true).toList.countP (fun b => !b) ≤ fuel := by
      have hlt : i < listed.toList.length := by simp; omega
      have e1 : listed.toList[i] = false := by
        have : i < listed.size := by omega
        simp [this] at hun; simpa using hun
      have e2 : (listed.setIfInBounds i true).toList = listed.toList.set i true := by simp
      have e3 := countP_set_true listed.toList i hlt e1
      rw [e2]
      omega
    have hfu : ∀ j, (listed.setIfInBounds i true).getD j true = false → j < ops.size → 0 < fuel := by
      intro j hj hjo
      have hjs : j < listed.size := by omega
      have hlt : j < (listed.setIfInBounds i true).toList.length := by simpa using hjs
      have e1 : (listed.setIfInBounds i true).toList[j] = false := by
        have : j < (listed.setIfInBounds i true).size := by simpa using hjs
        rw [Array.getD_eq_getD_getElem?, Array.getElem?_eq_getElem this] at hj
        rw [Array.getElem_toList]; exact hj
      have : 0 < (listed.setIfInBounds i true).toList.countP (fun b => !b) := List.countP_pos_iff.2 ⟨_, List.getElem_mem hlt, by rw [e1]; rfl⟩
      omega
    -- what the walk of 'vs' says at i, in the frame that the run is in
    have at_i : ∀ vs, (∀ i c, V i = some c → vs i = c) → (∀ j, listed.getD j false = true → vs j = ρ j) → execOp a.eval o = execOp (acts ops a0 (VAL vs) i).eval o ∧
        Region.wanted o (yielded ops a.tmps) = Region.wanted o (yielded ops (acts ops a0 (VAL vs) i).tmps) ∧ a.tmps.size = (acts ops a0 (VAL vs) i).tmps.size := by
      intro vs hvV hvs
      have i1 := hinv vs hvV hvs
      have i2 := acts_inv hok a0 (VAL vs) i (by omega)
      have hagree : ∀ t ∈ o.looksAt ops, a.tmps[t]? = (acts ops a0 (VAL vs) i).tmps[t]? := by
        intro t ht
        have hiff : ∀ j o', ops[j]? = some o' → o'.dst = some t → (listed.getD j false = true ↔ j < i) := by
          intro j o' hj hjt
          rcases (k5 j o' t hj hjt).2 ht with ⟨hlt, ha⟩ | ⟨hlt, ha⟩
          · exact ⟨fun _ => hlt, fun _ => anc_in (S := fun j => listed.getD j false = true) hcl (hin listed hsz) i j o ho hedge ha⟩
          · refine ⟨fun hl => ?_, fun h => by omega⟩
            exact absurd (anc_in (S := fun j => listed.getD j false = true) hcl (hin listed hsz) j i o' hj (hcl j o' hl hj) ha) hnl
        by_cases hw : ∃ j o', j < i ∧ ops[j]? = some o' ∧ o'.dst = some t
        · obtain ⟨j, o', hj, hjo, hjt⟩ := hw
          by_cases hlt : t < a0.tmps.size
          · rw [i1.wrote j o' t ((hiff j o' hjo hjt).2 hj) hjo hjt hlt, i2.wrote j o' t hj hjo hjt hlt]
          · rw [Array.getElem?_eq_none (Nat.le_trans (Nat.le_of_eq i1.size) (Nat.le_of_not_lt hlt)), Array.getElem?_eq_none (Nat.le_trans (Nat.le_of_eq i2.size) (Nat.le_of_not_lt hlt))]
        · rw [i1.other t (fun j o' hl hjo hjt => hw ⟨j, o', (hiff j o' hjo hjt).1 hl, hjo, hjt⟩), i2.other t (fun j o' hj hjo hjt => hw ⟨j, o', hj, hjo, hjt⟩)]
      obtain ⟨e1, e2⟩ := see k3 hagree
      exact ⟨e1, e2, by rw [i1.size, i2.size]⟩
    have cls : ∀ vs Lk, (∀ i c, V i = some c → vs i = c) → (∀ j, listed.getD j false = true → vs j = ρ j) → (∀ p ∈ Lk, Alive ops A vs (VAL vs) a0 i p) → Cls ops w0 Lk i w := by
      intro vs Lk hvV hvs hLk
      refine ⟨hbw, fun p hp hanc => ?_⟩
      obtain ⟨o', Aj, h1, h2, h3, h4, h5⟩ := hLk p hp
      have hl := anc_in (S := fun j => listed.getD j false = true) hcl (hin listed hsz) i p.1 o ho hedge hanc
      rw [h5, hvs _ hl]
      refine hA p.1 o' Aj hl h2 h3 ?_
      -- wanted in both walks, as both frames agree with what has been carried out
      have hl' : ∀ k, anc ops p.1 k = true → listed.getD k false = true := fun k hk => anc_in (S := fun j => listed.getD j false = true) hcl (hin listed hsz) p.1 k o' h2 (hcl p.1 o' hl h2) hk
      have hpo : p.1 ≤ ops.size := Nat.le_of_lt (Array.getElem?_eq_some_iff.1 h2).1
      have i1 := hinv vs hvV hvs
      have i2 := hinv ρ hρV (fun _ _ => rfl)
      have j1 := acts_inv hok a0 (VAL vs) p.1 hpo
      have j2 := acts_inv hok a0 (VAL ρ) p.1 hpo
      have hsee := see (a := acts ops a0 (VAL ρ) p.1) (b := acts ops a0 (VAL vs) p.1) (ops := ops) (freshOk_spec hok h2).2.2.1 (fun t ht => by
        by_cases hw : ∃ j o', j < p.1 ∧ ops[j]? = some o' ∧ o'.dst = some t
        · obtain ⟨j, oj, hj, hjo, hjt⟩ := hw
          by_cases hlt : t < a0.tmps.size
          · have hjl : listed.getD j false = true := by
              rcases ((freshOk_spec hok h2).2.2.2.2 j oj t hjo hjt).2 ht with ⟨_, ha⟩ | ⟨hlt2, _⟩
              · exact hl' j ha
              · omega
            rw [j2.wrote j oj t hj hjo hjt hlt, j1.wrote j oj t hj hjo hjt hlt, ← i2.wrote j oj t hjl hjo hjt hlt, ← i1.wrote j oj t hjl hjo hjt hlt]
          · rw [Array.getElem?_eq_none (Nat.le_trans (Nat.le_of_eq j2.size) (Nat.le_of_not_lt hlt)), Array.getElem?_eq_none (Nat.le_trans (Nat.le_of_eq j1.size) (Nat.le_of_not_lt hlt))]
        · rw [j2.other t (fun j oj hj hjo hjt => hw ⟨j, oj, hj, hjo, hjt⟩), j1.other t (fun j oj hj hjo hjt => hw ⟨j, oj, hj, hjo, hjt⟩)])
      rw [hsee.2]; exact h4
    -- one step on, with the record ρ'
    have next : ∀ (ρ' : Nat → Value) (v : Value) (w' : World), (∀ i c, V i = some c → ρ' i = c) → (∀ j, listed.getD j false = true → ρ' j = ρ j) → Below w.heap.size w w' →
        (∀ vs, (∀ i c, V i = some c → vs i = c) → (∀ j, listed.getD j false = true → vs j = ρ j) → vs i = ρ' i → a.put o.dst v = a.put o.dst (VAL vs i)) →
        (∀ Ai, A i = some Ai → Region.wanted o (yielded ops a.tmps) = true → Ai (ρ' i) w') →
        wpAny P .any ops Q fuel (listed.setIfInBounds i true) (a.put o.dst v) w' := by
      intro ρ' v w' hρV' hρ hgrow hval hAi
      refine ih _ _ w' ρ' hρV' (by simpa using hsz) hcl' (fun vs hvV hvs => ?_) (bl_stepB hbw hgrow hbw.size) (fun j o' Aj hj hjo hjA hjw => ?_) hfu hcnt'
      · have hvs1 : ∀ j, listed.getD j false = true → vs j = ρ j := fun j hj => (hvs j ((hset j).2 (.inl hj))).trans (hρ j hj)
        have hvs2 : vs i = ρ' i := hvs i ((hset i).2 (.inr rfl))
        rw [hval vs hvV hvs1 hvs2]
        exact ((hinv vs hvV hvs1).put ho rfl (fun j o' t _ hjo hjt => (k5 j o' t hjo hjt).1)).congr (fun j => (hset j).symm) (fun _ _ => rfl)
      · have hag : ∀ k, k ≤ ops.size → True := fun _ _ => trivial
        rcases (hset j).1 hj with hjl | rfl
        · rw [hρ j hjl]
          refine hpers j Aj _ w w' hjA (hA j o' Aj hjl hjo hjA ?_) hgrow
          -- wanted at j in the walk of ρ' as in that of ρ
          have hl' : ∀ k, anc ops j k = true → listed.getD k false = true := fun k hk => anc_in (S := fun j => listed.getD j false = true) hcl (hin listed hsz) j k o' hjo (hcl j o' hjl hjo) hk
          have hpo : j ≤ ops.size := Nat.le_of_lt (Array.getElem?_eq_some_iff.1 hjo).1
          have i1 := hinv ρ' hρV' hρ
          have i2 := hinv ρ hρV (fun _ _ => rfl)
          have j1 := acts_inv hok a0 (VAL ρ') j hpo
          have j2 := acts_inv hok a0 (VAL ρ) j hpo
          have hsee := see (a := acts ops a0 (VAL ρ) j) (b := acts ops a0 (VAL ρ') j) (ops := ops) (freshOk_spec hok hjo).2.2.1 (fun t ht => by
            by_cases hw : ∃ k ok, k < j ∧ ops[k]? = some ok ∧ ok.dst = some t
            · obtain ⟨k, ok, hk, hko, hkt⟩ := hw
              by_cases hlt : t < a0.tmps.size
              · have hkl : listed.getD k false = true := by
                  rcases ((freshOk_spec hok hjo).2.2.2.2 k ok t hko hkt).2 ht with ⟨_, ha⟩ | ⟨hlt2, _⟩
                  · exact hl' k ha
                  · omega
                rw [j2.wrote k ok t hk hko hkt hlt, j1.wrote k ok t hk hko hkt hlt, ← i2.wrote k ok t hkl hko hkt hlt, ← i1.wrote k ok t hkl hko hkt hlt]
              · rw [Array.getElem?_eq_none (Nat.le_trans (Nat.le_of_eq j2.size) (Nat.le_of_not_lt hlt)), Array.getElem?_eq_none (Nat.le_trans (Nat.le_of_eq j1.size) (Nat.le_of_not_lt hlt))]
            · rw [j2.other t (fun k ok hk hko hkt => hw ⟨k, ok, hk, hko, hkt⟩), j1.other t (fun k ok hk hko hkt => hw ⟨k, ok, hk, hko, hkt⟩)])
          rw [hsee.2]; exact hjw
        · rw [ho] at hjo; cases hjo
          refine hAi Aj hjA ?_
          rw [(at_i ρ' hρV' hρ).2.1]; exact hjw
    unfold wpOp
    simp only [ho]
    obtain ⟨Lk, hLk, hlx⟩ := hlex ρ hρV i o ho
    obtain ⟨e1, e2, e3⟩ := at_i ρ hρV (fun _ _ => rfl)
    cases hw : Region.wanted o (yielded ops a.tmps) with
    | false =>
      simp only [Bool.false_eq_true, if_false]
      refine next ρ undef w hρV (fun _ _ => rfl) (Below.refl _ _) (fun vs hvV hvs _ => ?_) (fun Ai _ h => (no_tf hw h).elim)
      obtain ⟨Lv, hLv, hlv⟩ := hlex vs hvV i o ho
      rw [hlv.2 (by rw [← (at_i vs hvV hvs).2.1]; exact hw)]
    | true =>
      simp only [if_true]
      refine .inl ?_
      have hlw := hlx.1 (by rw [← e2]; exact hw)
      cases hAi : A i with
      | some Ai =>
        rw [hAi] at hlw
        refine wp_swap e1 e3 (hlw.2 w (cls ρ Lk hρV (fun _ _ => rfl) hLk) _ _ (fun u w' hgrow hu => ⟨u, rfl, ?_⟩))
        refine next (fun j => if j = i then u else ρ j) u w' (fun j c hc => ?_) (fun j hj => ?_) hgrow (fun vs hvV hvs hvi => ?_) (fun Aj hj _ => ?_)
        · by_cases hji : j = i
          · rw [if_pos hji]; subst hji; exact hAV j Ai c u w' hAi hc hu
          · rw [if_neg hji]; exact hρV j c hc
        · exact if_neg (fun (e : j = i) => hnl (by rw [← e]; exact hj))
        · obtain ⟨Lv, hLv, hlv⟩ := hlex vs hvV i o ho
          have h1 := hlv.1 (by rw [← (at_i vs hvV hvs).2.1]; exact hw)
          rw [hAi] at h1
          simp only [if_true] at hvi
          rw [h1.1, hvi]
        · rw [hAi] at hj; cases hj; simpa using hu
      | none =>
        rw [hAi] at hlw
        have hpl : plainOp o.op = true := by
          rcases k1 with h | h
          · simp [hAi] at h
          · exact h
        refine wp_swap e1 e3 (hlw w (cls ρ Lk hρV (fun _ _ => rfl) hLk) _ _ ⟨_, rfl, ?_⟩)
        refine next ρ _ w hρV (fun _ _ => rfl) (Below.refl _ _) (fun vs hvV hvs _ => ?_) (fun Aj hj _ => by rw [hAi] at hj; cases hj)
        obtain ⟨Lv, hLv, hlv⟩ := hlex vs hvV i o ho
        obtain ⟨f1, f2, f3⟩ := at_i vs hvV hvs
        have h1 := hlv.1 (by rw [← f2]; exact hw)
        rw [hAi] at h1
        exact same_value hpl (e1.symm.trans f1) e3 f3 (hlw w (cls ρ Lk hρV (fun _ _ => rfl) hLk)) (h1 w (cls vs Lv hvV hvs hLv))
end run

/-- THE THEOREM: one walk in the order of the text, whatever the new values are; 'V' says which of them are known. -/
theorem wp_region_vals {P : Program} {ops : Array Oper} {Q : Exit → Act → World → Prop} {id : Nat} {a : Act} {w : World} (V : Nat → Option Value) (A : Nat → Option (Value → World → Prop)) (hm : P.follows .mixedOrders = true)
    (hok : freshOk ops (fun i => (A i).isSome) = true) (hpers : ∀ i Ai v w w', A i = some Ai → Ai v w → Below w.heap.size w w' → Ai v w')
    (hAV : ∀ i Ai c u w, A i = some Ai → V i = some c → Ai u w → u = c)
    (h : ∀ vs, (∀ i c, V i = some c → vs i = c) → wpF P ops w A vs (fun Le a' => ∀ w', Below w.heap.size w w' → (∀ p ∈ Le, p.2 w') → Q .normal a' w') 0 [] ops.toList a) : (Code.region id ops true).wp P Q a w := by
  refine wp_region_any hm ?_
  have hl : ∀ vs : Nat → Value, ∃ val : Nat → Value, (∀ i c, V i = some c → vs i = c) → (∀ k o, ops[k]? = some o → ∃ Lk, (∀ p ∈ Lk, Alive ops A vs val a k p) ∧ LexAt P ops w A vs val Lk k o (acts ops a val k)) ∧
      ∃ Le : Live, (∀ p ∈ Le, Alive ops A vs val a ops.size p) ∧ (∀ w', Below w.heap.size w w' → (∀ p ∈ Le, p.2 w') → Q .normal (acts ops a val ops.size) w') := by
    intro vs
    by_cases hvV : ∀ i c, V i = some c → vs i = c
    · obtain ⟨val, _, h2, Le, h3, h4⟩ := lex_of ops.toList 0 [] (fun _ => undef) (by intro k; simp) (by simp) (h vs hvV)
      refine ⟨val, fun _ => ⟨fun k o ho => h2 k o (Nat.zero_le _) ho, Le, by simpa using h3, ?_⟩⟩
      rw [show 0 + ops.toList.length = ops.size from by simp] at h4
      exact h4
    · exact ⟨fun _ => undef, fun h => absurd h hvV⟩
  refine run_any (w0 := w) (V := V) (Qe := fun (Le : Live) a' => ∀ w', Below w.heap.size w w' → (∀ p ∈ Le, p.2 w') → Q .normal a' w') (VAL := fun vs => Classical.choose (hl vs)) hok hpers hAV (fun vs hvV => (Classical.choose_spec (hl vs) hvV).1) (fun vs hvV => (Classical.choose_spec (hl vs) hvV).2) (fun Le a' w' hb hp hq => hq w' hb hp)
    ops.size _ a _ (fun i => (V i).getD undef) (fun i c hc => by simp [hc]) (by simp) (fun i o hi => ?_) (fun vs _ _ => ?_) ⟨rfl, rfl, rfl, Nat.le_refl _, fun _ _ => rfl⟩ (fun j o Aj hj => ?_) (fun i hi hio => Nat.lt_of_le_of_lt (Nat.zero_le _) hio) (by simp [List.countP_replicate])
  · simp [Array.getElem?_replicate] at hi
    split at hi <;> simp at hi
  · refine ⟨rfl, rfl, fun j o t hj => ?_, fun t _ => rfl⟩
    simp [Array.getElem?_replicate] at hj
    split at hj <;> simp at hj
  · simp [Array.getElem?_replicate] at hj
    split at hj <;> simp at hj

theorem wp_region_fresh {P : Program} {ops : Array Oper} {Q : Exit → Act → World → Prop} {id : Nat} {a : Act} {w : World} (A : Nat → Option (Value → World → Prop)) (hm : P.follows .mixedOrders = true)
    (hok : freshOk ops (fun i => (A i).isSome) = true) (hpers : ∀ i Ai v w w', A i = some Ai → Ai v w → Below w.heap.size w w' → Ai v w')
    (h : ∀ vs, wpF P ops w A vs (fun Le a' => ∀ w', Below w.heap.size w w' → (∀ p ∈ Le, p.2 w') → Q .normal a' w') 0 [] ops.toList a) : (Code.region id ops true).wp P Q a w :=
  wp_region_vals (fun _ => none) A hm hok hpers (fun _ _ _ _ _ _ h => by cases h) (fun vs _ => h vs)

/-- Where all new values are known: 'V' alone. -/
def valA (V : Nat → Option Value) (i : Nat) : Option (Value → World → Prop) := (V i).map fun c v _ => v = c
theorem wp_region_known {P : Program} {ops : Array Oper} {Q : Exit → Act → World → Prop} {id : Nat} {a : Act} {w : World} (V : Nat → Option Value) (hm : P.follows .mixedOrders = true)
    (hok : freshOk ops (fun i => (V i).isSome) = true)
    (h : ∀ vs, (∀ i c, V i = some c → vs i = c) → wpF P ops w (valA V) vs (fun _ a' => ∀ w', Below w.heap.size w w' → Q .normal a' w') 0 [] ops.toList a) : (Code.region id ops true).wp P Q a w := by
  have e : (fun i => (valA V i).isSome) = fun i => (V i).isSome := by funext i; simp [valA]
  refine wp_region_vals V (valA V) hm (by rw [e]; exact hok) (fun i Ai v w w' hA hv _ => ?_) (fun i Ai c u w hA hc hu => ?_) (fun vs hvs => ?_)
  · unfold valA at hA
    obtain ⟨c, hc, rfl⟩ := Option.map_eq_some_iff.1 hA
    exact hv
  · unfold valA at hA
    rw [hc] at hA; cases hA; exact hu
  · have := h vs hvs
    have mono : ∀ (rest : List Oper) (i : Nat) (L : Live) (a : Act), wpF P ops w (valA V) vs (fun _ a' => ∀ w', Below w.heap.size w w' → Q .normal a' w') i L rest a →
        wpF P ops w (valA V) vs (fun Le a' => ∀ w', Below w.heap.size w w' → (∀ p ∈ Le, p.2 w') → Q .normal a' w') i L rest a := by
      intro rest
      induction rest with
      | nil => intro i L a h w' hb _; exact h w' hb
      | cons o rest ih =>
        intro i L a h
        refine ⟨fun hw => ?_, fun hw => ih _ _ _ (h.2 hw)⟩
        have h1 := h.1 hw
        cases hA : valA V i with
        | none => rw [hA] at h1; obtain ⟨v, hv, hr⟩ := h1; exact ⟨v, hv, ih _ _ _ hr⟩
        | some Ai => rw [hA] at h1; exact ⟨h1.1, ih _ _ _ h1.2⟩
    exact mono _ _ _ _ this

section vals
variable {P : Program} {ops : Array Oper} {w0 : World} {V : Nat → Option Value} {vs : Nat → Value} {Qe : Live → Act → Prop} {i : Nat} {L : Live} {o : Oper} {rest : List Oper} {a : Act}
/-- A call (or another operation that makes memory) whose value is known. -/
theorem wpF_val {a' : Act} (c : Value) (hc : V i = some c) (hvs : ∀ i c, V i = some c → vs i = c) (hw : Region.wanted o (yielded ops a.tmps) = true) (ha : a.put o.dst c = a')
    (hr : ∀ w, Cls ops w0 L i w → ∀ K Qp, (∀ w', Below w.heap.size w w' → K a' w') → o.wp P a w K Qp)
    (h : wpF P ops w0 (valA V) vs Qe (i + 1) ((i, fun _ => vs i = c) :: L) rest a') : wpF P ops w0 (valA V) vs Qe i L (o :: rest) a := by
  refine wpF_new (a' := a') (fun v _ => v = c) (by unfold valA; rw [hc]; rfl) hw (by rw [hvs i c hc]; exact ha) (fun w hwc K Qp hK => hr w hwc K Qp (fun w' hb => ?_)) h
  rw [← ha]; exact hK c w' hb rfl
theorem wpF_valx (c : Value) (hc : V i = some c) (hvs : ∀ i c, V i = some c → vs i = c)
    (h : ∃ a', (∀ w, Cls ops w0 L i w → ∀ K Qp, (∀ w', Below w.heap.size w w' → K a' w') → o.wp P a w K Qp) ∧ a.put o.dst c = a' ∧ Region.wanted o (yielded ops a.tmps) = true ∧ wpF P ops w0 (valA V) vs Qe (i + 1) ((i, fun _ => vs i = c) :: L) rest a') : wpF P ops w0 (valA V) vs Qe i L (o :: rest) a := by
  obtain ⟨a', h1, h2, h3, h4⟩ := h
  exact wpF_val c hc hvs h3 h2 h1 h4
end vals
end Go.Proofs.Ytlganffeaapebaa
