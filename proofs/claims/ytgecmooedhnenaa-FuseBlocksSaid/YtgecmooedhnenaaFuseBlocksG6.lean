/- Texts of this claim, put together: Dp, Dq, Dr, RnA, RnB, Ds, RnC, RnD, RnE, RnF, FuV, Vc, Fu6, Fu7, Fu8, Fu9, Fua, Fub. No condition. -/
import Derived.Test.YtgecmooedhnenaaFuseBlocksG5
set_option linter.unusedVariables false
set_option linter.unusedSimpArgs false
set_option linter.unnecessarySimpa false
/- Windows of one channel each: shapes, places and sums, by the program. No condition. -/
namespace Go.Proofs.Ytgecmooedhnenaa
open Go.RowKit
set_option linter.unusedSimpArgs false
set_option linter.unusedVariables false
set_option linter.unnecessarySimpa false

structure DpOk (T : Ten) (n : Nod) : Prop where
  ok : T.Ok
  okn : n.Ok
  r : tenRight T = true
  e : (depthE ⟨T.h, T.x, T.c⟩ n).2 = 0
theorem depthE_ok {t : Shp} {n : Nod} (h : (depthE t n).2 = 0) : (slideE t n.nk n.ns n.np t.c).2 = 0 ∧ (n.w.length : Int) = t.c * n.nk * n.nk ∧ n.w.length ≤ 16384 ∧ (n.b.length : Int) = t.c ∧ (depthE t n).1 = (slideE t n.nk n.ns n.np t.c).1 := by
  unfold depthE at h ⊢
  split at h
  · rename_i h1; exact absurd h h1
  · split at h
    · simp at h
    · rename_i h1 h2
      rw [if_neg h1, if_neg h2]
      exact ⟨by omega, by omega, by omega, by omega, rfl⟩
structure DpN (T : Ten) (n : Nod) : Prop where
  q : 0 < elems T.h T.x T.c
  h1 : 1 ≤ T.h
  h16 : T.h ≤ 16
  x1 : 1 ≤ T.x
  x16 : T.x ≤ 16
  c1 : 1 ≤ T.c
  c2 : T.c ≤ 1024
  k1 : 1 ≤ n.nk
  k5 : n.nk ≤ 5
  s1 : 1 ≤ n.ns
  s4 : n.ns ≤ 4
  p0 : 0 ≤ n.np
  p4 : n.np ≤ 4
  wl : (n.w.length : Int) = T.c * n.nk * n.nk
  w2 : n.w.length ≤ 16384
  bl : (n.b.length : Int) = T.c
  dl : (T.d.length : Int) = elems T.h T.x T.c
  d2 : T.d.length ≤ 1024
  sc : (depthE ⟨T.h, T.x, T.c⟩ n).1.c = T.c
  he : 1 ≤ (depthE ⟨T.h, T.x, T.c⟩ n).1.h ∧ (depthE ⟨T.h, T.x, T.c⟩ n).1.h ≤ 16
  xe : 1 ≤ (depthE ⟨T.h, T.x, T.c⟩ n).1.x ∧ (depthE ⟨T.h, T.x, T.c⟩ n).1.x ≤ 16
  el : (depthE ⟨T.h, T.x, T.c⟩ n).1.h * (depthE ⟨T.h, T.x, T.c⟩ n).1.x * T.c ≤ 1024
  en : elems (depthE ⟨T.h, T.x, T.c⟩ n).1.h (depthE ⟨T.h, T.x, T.c⟩ n).1.x (depthE ⟨T.h, T.x, T.c⟩ n).1.c = (depthE ⟨T.h, T.x, T.c⟩ n).1.h * (depthE ⟨T.h, T.x, T.c⟩ n).1.x * T.c
theorem DpOk.n {T : Ten} {n : Nod} (h : DpOk T n) : DpN T n := by
  obtain ⟨ok, okn, r, e⟩ := h
  obtain ⟨e1, e2, e3, e4, e5⟩ := depthE_ok e
  obtain ⟨a1, a2, a3, a4, a5, a6, a7, a8, a9, a10, a11, a12⟩ := slideE_ok e1
  have c := elems_ok a12
  unfold tenRight at r
  rw [Bool.and_eq_true, decide_eq_true_eq, decide_eq_true_eq] at r
  have b' := elems_ok r.1
  have e5' : (depthE ⟨T.h, T.x, T.c⟩ n).1 = ⟨(T.h + 2 * n.np - n.nk) / n.ns + 1, (T.x + 2 * n.np - n.nk) / n.ns + 1, T.c⟩ := e5.trans a11
  have e2' : (n.w.length : Int) = T.c * n.nk * n.nk := e2
  have e4' : (n.b.length : Int) = T.c := e4
  clear e5 a11 e2 a9 a10 e4
  have c' : 1 ≤ (T.h + 2 * n.np - n.nk) / n.ns + 1 ∧ (T.h + 2 * n.np - n.nk) / n.ns + 1 ≤ 16 ∧ 1 ≤ (T.x + 2 * n.np - n.nk) / n.ns + 1 ∧ (T.x + 2 * n.np - n.nk) / n.ns + 1 ≤ 16 ∧ 1 ≤ T.c ∧ T.c ≤ 1024 ∧ ((T.h + 2 * n.np - n.nk) / n.ns + 1) * ((T.x + 2 * n.np - n.nk) / n.ns + 1) * T.c ≤ 1024 ∧
    elems ((T.h + 2 * n.np - n.nk) / n.ns + 1) ((T.x + 2 * n.np - n.nk) / n.ns + 1) T.c = ((T.h + 2 * n.np - n.nk) / n.ns + 1) * ((T.x + 2 * n.np - n.nk) / n.ns + 1) * T.c := c
  clear c
  refine ⟨r.1, by omega, by omega, by omega, by omega, by omega, by omega, by omega, by omega, by omega, by omega, by omega, by omega, e2', e3, e4', by omega, by omega, by rw [e5'], ?_, ?_, ?_, ?_⟩ <;> rw [e5'] <;> simp only <;> omega
/-- One product. -/
def dterm (T : Ten) (n : Nod) (c y x : Int) (i : Int) : Int := n.w.getD (c * n.nk * n.nk + i).toNat 0 * (T.d.getD ((y * T.x + x) * T.c + c).toNat 0 - n.za)
/-- What a window makes of a channel. -/
def dAcc (T : Ten) (n : Nod) (h w c : Int) : Nat → Int
  | 0 => n.b.getD c.toNat 0
  | i + 1 => if inT T (h * n.ns + (i : Int) / n.nk - n.np) (w * n.ns + (i : Int) % n.nk - n.np) then IntKind.i32.wrap (dAcc T n h w c i + dterm T n c (h * n.ns + (i : Int) / n.nk - n.np) (w * n.ns + (i : Int) % n.nk - n.np) i) else dAcc T n h w c i
end Go.Proofs.Ytgecmooedhnenaa

/- All sums of windows of one channel each, by the program. No condition. -/
namespace Go.Proofs.Ytgecmooedhnenaa
open Go.RowKit
set_option linter.unusedSimpArgs false
set_option linter.unusedVariables false
set_option linter.unnecessarySimpa false

/-- How many there are. -/
def dN (T : Ten) (n : Nod) : Nat := ((depthE ⟨T.h, T.x, T.c⟩ n).1.h * (depthE ⟨T.h, T.x, T.c⟩ n).1.x * T.c).toNat
def dL (T : Ten) (n : Nod) : List Int := (List.range (dN T n)).map fun (i : Nat) => dAcc T n ((i : Int) / T.c / (depthE ⟨T.h, T.x, T.c⟩ n).1.x) ((i : Int) / T.c % (depthE ⟨T.h, T.x, T.c⟩ n).1.x) ((i : Int) % T.c) (n.nk * n.nk).toNat
theorem dL_len (T : Ten) (n : Nod) : (dL T n).length = dN T n := by simp [dL]
end Go.Proofs.Ytgecmooedhnenaa

/- All sums of windows of one channel each, by the document. No condition. -/
namespace Go.Proofs.Ytgecmooedhnenaa
open Go.RowKit
set_option linter.unusedSimpArgs false
set_option linter.unusedVariables false
set_option linter.unnecessarySimpa false

/-- One cell of a window, over whole numbers. -/
def dcell (T : Ten) (n : Nod) (h w c i : Int) (j : Nat) : Int := if inT T (h * n.ns + i - n.np) (w * n.ns + (j : Int) - n.np) then dterm T n c (h * n.ns + i - n.np) (w * n.ns + (j : Int) - n.np) (i * n.nk + (j : Int)) else 0
def drow (T : Ten) (n : Nod) (h w c : Int) (i : Nat) : Int := sumN (dcell T n h w c i) n.nk.toNat
/-- A window's sum, over whole numbers. -/
def dE (T : Ten) (n : Nod) (h w c : Int) : Int := accN (n.b.getD c.toNat 0) (drow T n h w c) n.nk.toNat
/-- Lists that are laid by three loops. -/
def gO (f : Nat → Nat → Nat → Int) (h w o : Nat) : List Int := (List.range o).map (f h w)
def gW (f : Nat → Nat → Nat → Int) (m h : Nat) : Nat → List Int
  | 0 => []
  | w + 1 => gW f m h w ++ gO f h w m
def gH (f : Nat → Nat → Nat → Int) (m x : Nat) : Nat → List Int
  | 0 => []
  | h + 1 => gH f m x h ++ gW f m h x
theorem gO_len (f : Nat → Nat → Nat → Int) (h w o : Nat) : (gO f h w o).length = o := by simp [gO]
theorem gW_len (f : Nat → Nat → Nat → Int) (m h : Nat) : ∀ w, (gW f m h w).length = w * m
  | 0 => by simp [gW]
  | w + 1 => by rw [gW, List.length_append, gW_len f m h w, gO_len, Nat.add_mul]; omega
theorem gH_len (f : Nat → Nat → Nat → Int) (m x : Nat) : ∀ h, (gH f m x h).length = h * (x * m)
  | 0 => by simp [gH]
  | h + 1 => by rw [gH, List.length_append, gH_len f m x h, gW_len, Nat.add_mul]; omega
def dF (T : Ten) (n : Nod) (h w c : Nat) : Int := IntKind.i32.wrap (dE T n h w c)
end Go.Proofs.Ytgecmooedhnenaa

/- Tensors with numbers around them, by the document. No condition. -/
namespace Go.Proofs.Ytgecmooedhnenaa
open Go.RowKit
set_option linter.unusedSimpArgs false
set_option linter.unusedVariables false
set_option linter.unnecessarySimpa false

abbrev ten0 : Ten := ⟨0, 0, 0, []⟩
structure TRt (T : Ten) : Prop where
  h1 : 1 ≤ T.h
  h16 : T.h ≤ 16
  x1 : 1 ≤ T.x
  x16 : T.x ≤ 16
  c1 : 1 ≤ T.c
  c2 : T.c ≤ 1024
  el : T.h * T.x * T.c ≤ 1024
  dl : (T.d.length : Int) = T.h * T.x * T.c
  en : elems T.h T.x T.c = T.h * T.x * T.c
theorem tenRight.rt {T : Ten} (h : tenRight T = true) : TRt T := by
  unfold tenRight at h
  simp only [Bool.and_eq_true, decide_eq_true_eq] at h
  have c := elems_ok h.1
  have e : elems T.h T.x T.c = T.h * T.x * T.c := by
    have h1 := h.1
    unfold elems at h1 ⊢
    split
    · rfl
    · rename_i hn; rw [if_neg hn] at h1; omega
  exact ⟨by omega, by omega, by omega, by omega, by omega, by omega, by omega, by omega, e⟩
/-- The number at a place; z, where there is none. -/
def pixE (T : Ten) (h w c z : Int) : Int := if inT T h w then T.d.getD ((h * T.x + w) * T.c + c).toNat 0 else z
theorem pix8 {T : Ten} (ok : T.Ok) {z : Int} (hz : In8 z) (h w c : Int) : In8 (pixE T h w c z) := by
  unfold pixE; split
  · exact gt8 ok.d _
  · exact hz
/-- The numbers of a tensor moved. -/
abbrev movF (T : Ten) (a b z : Int) (h w c : Nat) : Int := pixE T ((h : Int) - a) ((w : Int) - b) c z
theorem gH_in8 {f : Nat → Nat → Nat → Int} (hf : ∀ h w c, In8 (f h w c)) (m x : Nat) : ∀ y, ∀ v ∈ gH f m x y, In8 v
  | 0 => by simp [gH]
  | y + 1 => by
    have gW8 : ∀ w, ∀ v ∈ gW f m y w, In8 v := by
      intro w
      induction w with
      | zero => simp [gW]
      | succ w ih =>
        intro v hv
        rw [gW, List.mem_append] at hv
        rcases hv with hv | hv
        · exact ih v hv
        · unfold gO at hv
          obtain ⟨c, _, rfl⟩ := List.mem_map.1 hv
          exact hf _ _ _
    intro v hv
    rw [gH, List.mem_append] at hv
    rcases hv with hv | hv
    · exact gH_in8 hf m x y v hv
    · exact gW8 x v hv
/-- A tensor with p numbers around it. -/
def padOf (T : Ten) (p z : Int) : Ten × Int := if elems (T.h + 2 * p) (T.x + 2 * p) T.c = 0 then (ten0, 5) else (⟨T.h + 2 * p, T.x + 2 * p, T.c, gH (movF T p p z) T.c.toNat (T.x + 2 * p).toNat (T.h + 2 * p).toNat⟩, 0)
/-- What is wrong with a tensor and what is laid around it. -/
def mayE (T : Ten) (p : Int) : Int := if tenRight T = true then (if 0 ≤ p ∧ p ≤ 4 then 0 else 2) else 5
end Go.Proofs.Ytgecmooedhnenaa

/- The greatest ones and the means of windows, by the document. No condition. -/
namespace Go.Proofs.Ytgecmooedhnenaa
open Go.RowKit
set_option linter.unusedSimpArgs false
set_option linter.unusedVariables false
set_option linter.unnecessarySimpa false

/-- The numbers that a row of a window has of a channel, and those that a window has. -/
def winJ (T : Ten) (y x c : Int) (A : List Int) : Nat → List Int
  | 0 => A
  | j + 1 => winJ T y x c A j ++ (if inT T y (x + j) then [T.d.getD ((y * T.x + (x + j)) * T.c + c).toNat 0] else [])
def winI (T : Ten) (k : Nat) (y x c : Int) : Nat → List Int
  | 0 => []
  | i + 1 => winJ T (y + i) x c (winI T k y x c i) k
abbrev winL (T : Ten) (n : Nod) (h w c : Int) : List Int := winI T n.nk.toNat (h * n.ns - n.np) (w * n.ns - n.np) c n.nk.toNat
theorem winJ_len (T : Ten) (y x c : Int) (A : List Int) : ∀ j, (winJ T y x c A j).length ≤ A.length + j
  | 0 => Nat.le_refl _
  | j + 1 => by have := winJ_len T y x c A j; rw [winJ, List.length_append]; split <;> simp <;> omega
theorem winJ_8 {T : Ten} (ok : T.Ok) (y x c : Int) {A : List Int} (hA : ∀ v ∈ A, In8 v) : ∀ j, ∀ v ∈ winJ T y x c A j, In8 v
  | 0 => hA
  | j + 1 => by
    intro v hv
    rw [winJ, List.mem_append] at hv
    rcases hv with hv | hv
    · exact winJ_8 ok y x c hA j v hv
    · split at hv
      · rw [List.mem_singleton] at hv; subst hv; exact gt8 ok.d _
      · simp at hv
theorem winI_8 {T : Ten} (ok : T.Ok) (k : Nat) (y x c : Int) : ∀ i, ∀ v ∈ winI T k y x c i, In8 v
  | 0 => by simp [winI]
  | i + 1 => winJ_8 ok _ x c (winI_8 ok k y x c i) k
/-- The nearest one to a quotient. -/
def nearP (a m : Int) : Int := if m - a % m ≤ a % m then a / m + 1 else a / m
def nearE (s m : Int) : Int := if m < 1 then 0 else if s < 0 then -(nearP (-s) m) else nearP s m
def sumL (l : List Int) (k : Nat) : Int := sumN (fun i => l.getD i 0) k
/-- The mean of numbers. -/
def meanE (l : List Int) : Int := IntKind.i8.wrap (nearE (sumL l l.length) l.length)
/-- The number at a place of what is pooled. -/
def poolF (T : Ten) (n : Nod) (s : Shp) (m : Bool) (i : Nat) : Int :=
  if m = true then reachHi (winL T n ((i : Int) / s.c / s.x) ((i : Int) / s.c % s.x) ((i : Int) % s.c)) (winL T n ((i : Int) / s.c / s.x) ((i : Int) / s.c % s.x) ((i : Int) % s.c)).length
  else meanE (winL T n ((i : Int) / s.c / s.x) ((i : Int) / s.c % s.x) ((i : Int) % s.c))
abbrev plS (T : Ten) (n : Nod) : Shp := (slideE ⟨T.h, T.x, T.c⟩ n.nk n.ns n.np T.c).1
def poolL (T : Ten) (n : Nod) (m : Bool) (k : Nat) : List Int := (List.range k).map (poolF T n (plS T n) m)
theorem poolL_len (T : Ten) (n : Nod) (m : Bool) (k : Nat) : (poolL T n m k).length = k := by simp [poolL]
structure PlOk (T : Ten) (n : Nod) : Prop where
  ok : T.Ok
  okn : n.Ok
  r : tenRight T = true
  e : (slideE ⟨T.h, T.x, T.c⟩ n.nk n.ns n.np T.c).2 = 0
structure PlN (T : Ten) (n : Nod) : Prop where
  r : TRt T
  k1 : 1 ≤ n.nk
  k5 : n.nk ≤ 5
  s1 : 1 ≤ n.ns
  s4 : n.ns ≤ 4
  p0 : 0 ≤ n.np
  p4 : n.np ≤ 4
  pk : n.np < n.nk
  hk : n.nk ≤ T.h + 2 * n.np
  xk : n.nk ≤ T.x + 2 * n.np
  sh : (plS T n).h = (T.h + 2 * n.np - n.nk) / n.ns + 1
  sx : (plS T n).x = (T.x + 2 * n.np - n.nk) / n.ns + 1
  sc : (plS T n).c = T.c
  h1 : 1 ≤ (plS T n).h
  h2 : (plS T n).h ≤ 16
  x1 : 1 ≤ (plS T n).x
  x2 : (plS T n).x ≤ 16
  en : elems (plS T n).h (plS T n).x (plS T n).c = (plS T n).h * (plS T n).x * (plS T n).c
  el : (plS T n).h * (plS T n).x * (plS T n).c ≤ 1024
theorem PlOk.n {T : Ten} {n : Nod} (h : PlOk T n) : PlN T n := by
  obtain ⟨a1, a2, a3, a4, a5, a6, a7, a8, a9, a10, a11, a12⟩ := slideE_ok h.e
  have c := elems_ok a12
  have r := tenRight.rt h.r
  dsimp only at *
  have e1 : (plS T n).h = (T.h + 2 * n.np - n.nk) / n.ns + 1 := by unfold plS; rw [a11]
  have e2 : (plS T n).x = (T.x + 2 * n.np - n.nk) / n.ns + 1 := by unfold plS; rw [a11]
  have e3 : (plS T n).c = T.c := by unfold plS; rw [a11]
  rw [← e1, ← e2, ← e3] at c
  exact ⟨r, a2, a3, a4, a5, a6, a7, a8, by omega, by omega, e1, e2, e3, by omega, by omega, by omega, by omega, by omega, by omega⟩
/-- What is pooled. -/
def poolOf (T : Ten) (n : Nod) (m : Bool) : Ten × Int := if tenRight T = true then (if (slideE ⟨T.h, T.x, T.c⟩ n.nk n.ns n.np T.c).2 = 0 then (⟨(plS T n).h, (plS T n).x, (plS T n).c, poolL T n m (elems (plS T n).h (plS T n).x (plS T n).c).toNat⟩, 0) else (ten0, (slideE ⟨T.h, T.x, T.c⟩ n.nk n.ns n.np T.c).2)) else (ten0, 5)
end Go.Proofs.Ytgecmooedhnenaa

/- Each channel has its own window: the law. No condition. -/
namespace Go.Proofs.Ytgecmooedhnenaa
open Go.RowKit
set_option linter.unusedSimpArgs false
set_option linter.unusedVariables false
set_option linter.unnecessarySimpa false

theorem split_div {a b c : Int} (hb : 0 ≤ b) (hc : b < c) : (a * c + b) / c = a ∧ (a * c + b) % c = b := by
  constructor
  · rw [Int.add_comm, Int.add_mul_ediv_right _ _ (by omega), Int.ediv_eq_zero_of_lt hb hc]; omega
  · rw [Int.add_comm, Int.add_mul_emod_self_right, Int.emod_eq_of_lt hb hc]
theorem dAcc_j {T : Ten} {n : Nod} (ok : DpOk T n) (h w c : Int) (i : Nat) (h0 : dAcc T n h w c (i * n.nk.toNat) = IntKind.i32.wrap (accN (n.b.getD c.toNat 0) (drow T n h w c) i)) :
    ∀ j, j ≤ n.nk.toNat → dAcc T n h w c (i * n.nk.toNat + j) = IntKind.i32.wrap (accN (n.b.getD c.toNat 0) (drow T n h w c) i + sumN (dcell T n h w c i) j)
  | 0, _ => by rw [Nat.add_zero, h0, sumN, Int.add_zero]
  | j + 1, hj => by
    have k1 := ok.n.k1
    rw [← Nat.add_assoc, dAcc, dAcc_j ok h w c i h0 j (by omega), sumN, dcell]
    have e : ((i * n.nk.toNat + j : Nat) : Int) = (i : Int) * n.nk + (j : Int) := by rw [Int.natCast_add, Int.natCast_mul, Int.toNat_of_nonneg (by omega)]
    obtain ⟨e1, e2⟩ := split_div (a := (i : Int)) (b := (j : Int)) (c := n.nk) (by omega) (by omega)
    rw [e, e1, e2]
    split
    · rw [w32_add, Int.add_assoc]
    · rw [Int.add_zero]
theorem dAcc_i {T : Ten} {n : Nod} (ok : DpOk T n) (h w c : Int) : ∀ i, dAcc T n h w c (i * n.nk.toNat) = IntKind.i32.wrap (accN (n.b.getD c.toNat 0) (drow T n h w c) i)
  | 0 => by rw [Nat.zero_mul, dAcc, accN, IntWalk.i32_in _ (gt32 ok.okn.b _)]
  | i + 1 => by rw [Nat.add_mul, Nat.one_mul, dAcc_j ok h w c i (dAcc_i ok h w c i) _ (Nat.le_refl _), accN]; rfl
theorem dAcc_eq {T : Ten} {n : Nod} (ok : DpOk T n) (h w c : Int) : dAcc T n h w c (n.nk * n.nk).toNat = IntKind.i32.wrap (dE T n h w c) := by
  have k1 := ok.n.k1
  have : (n.nk * n.nk).toNat = n.nk.toNat * n.nk.toNat := by
    apply Int.ofNat_inj.1
    rw [Int.natCast_mul, Int.toNat_of_nonneg (Int.mul_nonneg (by omega) (by omega)), Int.toNat_of_nonneg (by omega)]
  rw [this, dAcc_i ok]; rfl
/-- A list laid by three loops, seen from one. -/
theorem g_row {F : Nat → Int} {f : Nat → Nat → Nat → Int} {m x h : Nat} (hF : ∀ w c, w < x → c < m → F ((h * x + w) * m + c) = f h w c) (h0 : (List.range (h * (x * m))).map F = gH f m x h) :
    ∀ w, w ≤ x → (List.range (h * (x * m) + w * m)).map F = gH f m x h ++ gW f m h w
  | 0, _ => by simp [gW, h0]
  | w + 1, hw => by
    rw [Nat.add_mul, Nat.one_mul, ← Nat.add_assoc, List.range_add, List.map_append, g_row hF h0 w (by omega), gW, List.append_assoc, List.map_map]
    congr 2
    unfold gO
    apply List.map_congr_left
    intro c hc
    rw [← hF w c (by omega) (List.mem_range.1 hc)]
    simp only [Function.comp]
    congr 1
    rw [Nat.add_mul, Nat.mul_assoc]
theorem g_all {F : Nat → Int} {f : Nat → Nat → Nat → Int} {m x : Nat} : ∀ h, (∀ h' w c, h' < h → w < x → c < m → F ((h' * x + w) * m + c) = f h' w c) → (List.range (h * (x * m))).map F = gH f m x h
  | 0, _ => by simp [gH]
  | h + 1, hF => by
    rw [Nat.add_mul, Nat.one_mul, g_row (fun w c hw hc => hF h w c (by omega) hw hc) (g_all h fun h' w c hh => hF h' w c (by omega)) x (Nat.le_refl _), gH]
theorem dL_eq {T : Ten} {n : Nod} (ok : DpOk T n) : dL T n = gH (dF T n) T.c.toNat (depthE ⟨T.h, T.x, T.c⟩ n).1.x.toNat (depthE ⟨T.h, T.x, T.c⟩ n).1.h.toNat := by
  have nn := ok.n
  have h1 := nn.he
  have h2 := nn.xe
  have h3 := nn.c1
  unfold dL
  have e : dN T n = (depthE ⟨T.h, T.x, T.c⟩ n).1.h.toNat * ((depthE ⟨T.h, T.x, T.c⟩ n).1.x.toNat * T.c.toNat) := by
    unfold dN
    apply Int.ofNat_inj.1
    rw [Int.natCast_mul, Int.natCast_mul, Int.toNat_of_nonneg (Int.mul_nonneg (Int.mul_nonneg (by omega) (by omega)) (by omega)), Int.toNat_of_nonneg (by omega), Int.toNat_of_nonneg (by omega), Int.toNat_of_nonneg (by omega), Int.mul_assoc]
  rw [e]
  refine g_all _ fun h w c hh hw hc => ?_
  have e0 : (((h * (depthE ⟨T.h, T.x, T.c⟩ n).1.x.toNat + w) * T.c.toNat + c : Nat) : Int) = ((h : Int) * (depthE ⟨T.h, T.x, T.c⟩ n).1.x + (w : Int)) * T.c + (c : Int) := by
    rw [Int.natCast_add, Int.natCast_mul, Int.natCast_add, Int.natCast_mul, Int.toNat_of_nonneg (by omega), Int.toNat_of_nonneg (by omega)]
  obtain ⟨e1, e2⟩ := split_div (a := (h : Int) * (depthE ⟨T.h, T.x, T.c⟩ n).1.x + (w : Int)) (b := (c : Int)) (c := T.c) (by omega) (by omega)
  obtain ⟨e3, e4⟩ := split_div (a := (h : Int)) (b := (w : Int)) (c := (depthE ⟨T.h, T.x, T.c⟩ n).1.x) (by omega) (by omega)
  simp only [e0, e1, e2, e3, e4]
  exact dAcc_eq ok _ _ _
/-- What comes of it, or why nothing. -/
def depthOf (T : Ten) (n : Nod) : Ten × Int := if tenRight T = false then (⟨0, 0, 0, []⟩, 5) else if (depthE ⟨T.h, T.x, T.c⟩ n).2 ≠ 0 then (⟨0, 0, 0, []⟩, (depthE ⟨T.h, T.x, T.c⟩ n).2) else (⟨(depthE ⟨T.h, T.x, T.c⟩ n).1.h, (depthE ⟨T.h, T.x, T.c⟩ n).1.x, (depthE ⟨T.h, T.x, T.c⟩ n).1.c, dL T n⟩, 0)

theorem depthOf_len (T : Ten) (n : Nod) (ok : T.Ok) (okn : n.Ok) : (depthOf T n).1.d.length ≤ 1024 := by
  unfold depthOf
  split
  · simp
  · split
    · simp
    · rename_i h1 h2
      have nn := DpOk.n (T := T) (n := n) ⟨ok, okn, by simpa using h1, by simpa using h2⟩
      rw [dL_len]
      have h3 := nn.el
      unfold dN; omega
end Go.Proofs.Ytgecmooedhnenaa

/- Sums of all numbers; numbers one by one; two tensors as one; by the document. No condition. -/
namespace Go.Proofs.Ytgecmooedhnenaa
open Go.RowKit
set_option linter.unusedSimpArgs false
set_option linter.unusedVariables false
set_option linter.unnecessarySimpa false

/-- A sum of all numbers, over whole numbers. -/
def dnT (x w : List Int) (z o : Int) (i : Nat) : Int := w.getD (o * x.length + i).toNat 0 * (x.getD i 0 - z)
def dnS (x w b : List Int) (z o : Int) : Int := accN (b.getD o.toNat 0) (dnT x w z o) x.length
def lineL (x w b : List Int) (z : Int) (k : Nat) : List Int := (List.range k).map fun o : Nat => IntKind.i32.wrap (dnS x w b z o)
/-- Sums of a tensor's numbers, row by row of weights. -/
def denseOf (T : Ten) (n : Nod) : Ten × Int := if tenRight T = false then (ten0, 5) else if (denseE ⟨T.h, T.x, T.c⟩ n).2 ≠ 0 then (ten0, (denseE ⟨T.h, T.x, T.c⟩ n).2) else (⟨(denseE ⟨T.h, T.x, T.c⟩ n).1.h, (denseE ⟨T.h, T.x, T.c⟩ n).1.x, (denseE ⟨T.h, T.x, T.c⟩ n).1.c, lineL T.d n.w n.b n.za n.b.length⟩, 0)
theorem denseE_ok {t : Shp} {n : Nod} (h : (denseE t n).2 = 0) : 0 < elems t.h t.x t.c ∧ 1 ≤ n.no ∧ n.no ≤ 1024 ∧ (n.w.length : Int) = n.no * elems t.h t.x t.c ∧ n.w.length ≤ 16384 ∧ (n.b.length : Int) = n.no ∧ (denseE t n).1 = ⟨1, 1, n.no⟩ := by
  unfold denseE at h ⊢
  have e0 := elems_in t.h t.x t.c
  have e1 := elems_in 1 1 n.no
  split at h
  · simp at h
  · split at h
    · simp at h
    · rename_i h1 h2
      rw [if_neg h1, if_neg h2]
      have c := elems_ok (h := 1) (x := 1) (c := n.no) (by omega)
      exact ⟨by omega, by omega, by omega, by omega, by omega, by omega, rfl⟩
/-- Sums by the kind of a node. -/
def sumOf (T : Ten) (n : Nod) : Ten × Int := if n.kd = 1 then convOf T n else if n.kd = 2 then depthOf T n else if n.kd = 3 then denseOf T n else (ten0, 6)
end Go.Proofs.Ytgecmooedhnenaa

/- Numbers one by one, two tensors as one, and what any node makes, by the document. No condition. -/
namespace Go.Proofs.Ytgecmooedhnenaa
open Go.RowKit
set_option linter.unusedSimpArgs false
set_option linter.unusedVariables false
set_option linter.unnecessarySimpa false

/-- Each number becomes another one. -/
def actOf (T : Ten) (n : Nod) : Ten × Int := if tenRight T = false then (ten0, 5) else if rightQ n.qm n.qs = false then (ten0, 7) else (⟨T.h, T.x, T.c, T.d.map fun v => oneN v n⟩, 0)
/-- Sums become numbers. -/
def heldN (n : Nod) (v : Int) : Int := heldQ v n.qm n.qs n.qz n.lo n.hi
def putOf (A : Ten) (n : Nod) : Ten × Int := if elems A.h A.x A.c = 0 ∨ elems A.h A.x A.c ≠ (A.d.length : Int) then (ten0, 5) else if rightQ n.qm n.qs = false then (ten0, 7) else (⟨A.h, A.x, A.c, A.d.map (heldN n)⟩, 0)
structure Ten.Ok32 (T : Ten) : Prop where
  h : In64 T.h
  x : In64 T.x
  c : In64 T.c
  d : ∀ v ∈ T.d, In32 v
/-- Two tensors as one. -/
def joinOf (T U : Ten) (n : Nod) : Ten × Int := if (tenRight T && tenRight U && decide (T.h = U.h ∧ T.x = U.x ∧ T.c = U.c)) = false then (ten0, 5) else if (rightQ n.qm n.qs && rightQ n.rm n.rs) = false then (ten0, 7) else (⟨T.h, T.x, T.c, (List.range T.d.length).map fun i => joinE (T.d.getD i 0) (U.d.getD i 0) n⟩, 0)
end Go.Proofs.Ytgecmooedhnenaa

/- What any node makes of a tensor, or of two, by the document. No condition. -/
namespace Go.Proofs.Ytgecmooedhnenaa
open Go.RowKit
set_option linter.unusedSimpArgs false
set_option linter.unusedVariables false
set_option linter.unnecessarySimpa false

def nodeOf (n : Nod) (A B : Ten) : Ten × Int :=
  if checkE n ≠ 0 then (ten0, checkE n) else if tenRight A = false then (ten0, 5)
  else if n.kd = 4 then poolOf A n true else if n.kd = 5 then poolOf A n false else if n.kd = 6 then joinOf A B n else if n.kd = 7 then actOf A n
  else if n.kd = 8 then (if mayE A n.np ≠ 0 then (ten0, mayE A n.np) else padOf A n.np n.za)
  else if n.kd = 9 then (⟨1, 1, A.d.length, A.d⟩, 0)
  else if (sumOf A n).2 ≠ 0 then (ten0, (sumOf A n).2) else putOf (sumOf A n).1 n
theorem refH_32 (T : Ten) (n : Nod) : ∀ h, ∀ v ∈ refH T n h, In32 v
  | 0 => by simp [refH]
  | h + 1 => by
    have gW : ∀ w, ∀ v ∈ refW T n h w, In32 v := by
      intro w
      induction w with
      | zero => simp [refW]
      | succ w ih =>
        intro v hv
        rw [refW, List.mem_append] at hv
        rcases hv with hv | hv
        · exact ih v hv
        · unfold refO at hv
          obtain ⟨c, _, rfl⟩ := List.mem_map.1 hv
          unfold In32; simp only [IntKind.wrap_i32]; omega
    intro v hv
    rw [refH, List.mem_append] at hv
    rcases hv with hv | hv
    · exact refH_32 T n h v hv
    · exact gW _ v hv
theorem gH_32 {f : Nat → Nat → Nat → Int} (hf : ∀ h w c, In32 (f h w c)) (m x : Nat) : ∀ y, ∀ v ∈ gH f m x y, In32 v
  | 0 => by simp [gH]
  | y + 1 => by
    have gW8 : ∀ w, ∀ v ∈ gW f m y w, In32 v := by
      intro w
      induction w with
      | zero => simp [gW]
      | succ w ih =>
        intro v hv
        rw [gW, List.mem_append] at hv
        rcases hv with hv | hv
        · exact ih v hv
        · unfold gO at hv
          obtain ⟨c, _, rfl⟩ := List.mem_map.1 hv
          exact hf _ _ _
    intro v hv
    rw [gH, List.mem_append] at hv
    rcases hv with hv | hv
    · exact gH_32 hf m x y v hv
    · exact gW8 x v hv
theorem sumOf_ok {T : Ten} {n : Nod} (ok : T.Ok) (okn : n.Ok) : (sumOf T n).1.Ok32 := by
  have z : (ten0 : Ten).Ok32 := ⟨by decide, by decide, by decide, by simp⟩
  unfold sumOf
  split
  · unfold convOf
    split
    · exact z
    · split
      · exact z
      · rename_i h1 h2
        have k : CvOk T n := ⟨ok, okn, by simpa using h1, by simpa using h2⟩
        have nn := k.n
        have h3 := nn.he; have h4 := nn.xe; have h5 := nn.sc; have h6 := nn.o1; have h7 := nn.o2
        exact ⟨by dsimp only; omega, by dsimp only; omega, by dsimp only; omega, by dsimp only; rw [outL_fin k]; exact refH_32 T n _⟩
  · split
    · unfold depthOf
      split
      · exact z
      · split
        · exact z
        · rename_i h1 h2
          have k : DpOk T n := ⟨ok, okn, by simpa using h1, by simpa using h2⟩
          have nn := k.n
          have h3 := nn.he; have h4 := nn.xe; have h5 := nn.sc; have h6 := nn.c1; have h7 := nn.c2
          refine ⟨by dsimp only; omega, by dsimp only; omega, by dsimp only; omega, ?_⟩
          dsimp only; rw [dL_eq k]
          exact gH_32 (fun h w c => by unfold dF In32; simp only [IntKind.wrap_i32]; omega) _ _ _
    · split
      · unfold denseOf
        split
        · exact z
        · split
          · exact z
          · rename_i h1 h2
            obtain ⟨e1, e2, e3, e4, e5, e6, e7⟩ := denseE_ok (t := ⟨T.h, T.x, T.c⟩) (n := n) (by simpa using h2)
            rw [e7]
            refine ⟨by dsimp only; omega, by dsimp only; omega, by dsimp only; omega, ?_⟩
            intro v hv
            unfold lineL at hv
            obtain ⟨c, _, rfl⟩ := List.mem_map.1 hv
            unfold In32; simp only [IntKind.wrap_i32]; omega
      · exact z
end Go.Proofs.Ytgecmooedhnenaa

/- All values of a block, by the document. No condition. -/
namespace Go.Proofs.Ytgecmooedhnenaa
open Go.RowKit
set_option linter.unusedSimpArgs false
set_option linter.unusedVariables false
set_option linter.unnecessarySimpa false

instance : Inhabited Ten := ⟨ten0⟩
theorem ten0_ok : (ten0 : Ten).Ok := ⟨by decide, by decide, by decide, by simp⟩
theorem heldQ8 (v m s z : Int) {lo hi : Int} (h1 : In8 lo) (h2 : In8 hi) : In8 (heldQ v m s z lo hi) := by
  unfold heldQ; split
  · exact clamp_in _ h1 h2
  · decide
theorem joinE8 (x y : Int) {n : Nod} (ok : n.Ok) : In8 (joinE x y n) := by
  unfold joinE; split
  · exact clamp_in _ ok.lo ok.hi
  · decide
theorem map8 {α : Type} {f : α → Int} (hf : ∀ a, In8 (f a)) (l : List α) : ∀ v ∈ l.map f, In8 v := by
  intro v hv
  obtain ⟨a, _, rfl⟩ := List.mem_map.1 hv
  exact hf a
theorem meanE8 (l : List Int) : In8 (meanE l) := by unfold meanE In8 IntKind.wrap; simp [IntKind.bits, IntKind.signed]; omega
theorem poolF8 {T : Ten} (ok : T.Ok) (n : Nod) (s : Shp) (m : Bool) (i : Nat) : In8 (poolF T n s m i) := by
  unfold poolF; split
  · exact (reach8 (winI_8 ok _ _ _ _ _) _).2
  · exact meanE8 _
theorem poolOf_ok {T : Ten} {n : Nod} (ok : T.Ok) (okn : n.Ok) (m : Bool) : (poolOf T n m).1.Ok := by
  unfold poolOf
  split
  · split
    · rename_i h1 h2
      obtain ⟨r, _, _, _, _, _, _, _, _, _, _, _, sc, h3, h4, h5, h6, _, _⟩ := PlOk.n ⟨ok, okn, h1, h2⟩
      have r1 := r.c1; have r2 := r.c2
      exact ⟨by dsimp only; omega, by dsimp only; omega, by dsimp only; omega, map8 (poolF8 ok n _ m) _⟩
    · exact ten0_ok
  · exact ten0_ok
theorem actOf_ok {T : Ten} {n : Nod} (ok : T.Ok) (okn : n.Ok) : (actOf T n).1.Ok := by
  unfold actOf
  split
  · exact ten0_ok
  · split
    · exact ten0_ok
    · exact ⟨ok.h, ok.x, ok.c, map8 (fun v => heldQ8 _ _ _ _ okn.lo okn.hi) _⟩
theorem joinOf_ok {T U : Ten} {n : Nod} (ok : T.Ok) (okn : n.Ok) : (joinOf T U n).1.Ok := by
  unfold joinOf
  split
  · exact ten0_ok
  · split
    · exact ten0_ok
    · exact ⟨ok.h, ok.x, ok.c, map8 (fun i => joinE8 _ _ okn) _⟩
theorem padOf_ok {T : Ten} (ok : T.Ok) {p z : Int} (hz : In8 z) : (padOf T p z).1.Ok := by
  unfold padOf
  split
  · exact ten0_ok
  · rename_i h
    have c := elems_ok (h := T.h + 2 * p) (x := T.x + 2 * p) (c := T.c) (by have := elems_in (T.h + 2 * p) (T.x + 2 * p) T.c; omega)
    exact ⟨by dsimp only; omega, by dsimp only; omega, by dsimp only; omega, gH_in8 (fun h w c => pix8 ok hz _ _ _) _ _ _⟩
theorem putOf_ok {A : Ten} {n : Nod} (ok : A.Ok32) (okn : n.Ok) : (putOf A n).1.Ok := by
  unfold putOf
  split
  · exact ten0_ok
  · split
    · exact ten0_ok
    · exact ⟨ok.h, ok.x, ok.c, map8 (fun v => heldQ8 _ _ _ _ okn.lo okn.hi) _⟩
theorem nodeOf_ok {n : Nod} {A B : Ten} (okn : n.Ok) (okA : A.Ok) : (nodeOf n A B).1.Ok := by
  unfold nodeOf
  split
  · exact ten0_ok
  · split
    · exact ten0_ok
    · rename_i h1 h2
      split
      · exact poolOf_ok okA okn true
      · split
        · exact poolOf_ok okA okn false
        · split
          · exact joinOf_ok okA okn
          · split
            · exact actOf_ok okA okn
            · split
              · split
                · exact ten0_ok
                · exact padOf_ok okA okn.za
              · split
                · have r := tenRight.rt (T := A) (by simpa using h2)
                  have r1 := r.dl; have r2 := r.el
                  exact ⟨by dsimp only; omega, by dsimp only; omega, by dsimp only; omega, okA.d⟩
                · split
                  · exact ten0_ok
                  · exact putOf_ok (sumOf_ok okA okn) okn
/-- The next value of a block, or what is wrong with it. -/
def valE (n : Nod) (L : List Ten) : Ten × Int := nodeOf n (L.getD n.na.toNat default) (L.getD (secN n).toNat default)
theorem getD_all {α : Type} [Inhabited α] {p : α → Prop} (h0 : p default) {l : List α} (h : ∀ y ∈ l, p y) (i : Nat) : p (l.getD i default) := by
  rw [List.getD_eq_getElem?_getD]
  cases e : l[i]? with
  | none => exact h0
  | some y => exact h y (List.mem_of_getElem? e)
theorem val_ok {l : List Nod} (okl : ∀ n ∈ l, n.Ok) {x : Ten} (ok : x.Ok) {k : Nat} (hk : k ≤ l.length) : ∀ T ∈ growL valE l x k, T.Ok :=
  growL_all (n := l.length) ok (fun j hj h => nodeOf_ok (getD_in okl hj) (getD_all (p := Ten.Ok) ten0_ok h _)) k hk
structure VOK (l : List Nod) (x : Ten) : Prop where
  okl : ∀ n ∈ l, n.Ok
  wl : ∀ n ∈ l, n.w.length ≤ 100000 ∧ n.b.length ≤ 100000
  ok : x.Ok
  s : SOK l ⟨x.h, x.x, x.c⟩
theorem VOK.takes {l : List Nod} {x : Ten} (h : VOK l x) {k : Nat} (hk : k < l.length) : 0 ≤ (l.getD k default).na ∧ (l.getD k default).na ≤ k ∧ 0 ≤ secN (l.getD k default) ∧ secN (l.getD k default) ≤ k := by
  have q := h.s.k k hk
  unfold errL at q
  have c := (nextE_ok q).2.1
  rw [List.length_map, growL_len] at c
  have := there_iff.1 c
  omega
end Go.Proofs.Ytgecmooedhnenaa

/- A Pad and a window are one window; what changes nothing changes nothing: the plain law. No condition. -/
namespace Go.Proofs.Ytgecmooedhnenaa
open Go.RowKit
set_option linter.unusedSimpArgs false
set_option linter.unusedVariables false
set_option linter.unnecessarySimpa false

theorem checkE_took {p c : Nod} (h : c.kd = 1 ∨ c.kd = 2) : checkE (tookN p c) = checkE c := by
  unfold checkE moreE; rcases h with h | h <;> simp [h]
theorem steps_pad {n k s p q : Int} (n1 : 1 ≤ n) (n2 : n + 2 * q ≤ 16) (q0 : 0 ≤ q) (p0 : 0 ≤ p) (h4 : q + p ≤ 4) (hk : q + p < k) : stepsE (n + 2 * q) k s p = stepsE n k s (q + p) := by
  unfold stepsE
  by_cases c : k < 1 ∨ 5 < k ∨ s < 1 ∨ 4 < s
  · rw [if_pos (by omega), if_pos (by omega)]
  · rw [show n + 2 * q + 2 * p = n + 2 * (q + p) by omega]
    by_cases d : n + 2 * (q + p) < k
    · rw [if_neg (by omega), if_pos d, if_neg (by omega)]
    · rw [if_neg (by omega), if_neg d, if_neg (by omega)]
theorem slide_pad {h x c k s p q o : Int} (e1 : 0 < elems h x c) (e2 : 0 < elems (h + 2 * q) (x + 2 * q) c) (q0 : 0 ≤ q) (p0 : 0 ≤ p) (h4 : q + p ≤ 4) (hk : q + p < k) :
    slideE ⟨h + 2 * q, x + 2 * q, c⟩ k s p o = slideE ⟨h, x, c⟩ k s (q + p) o := by
  have a := elems_ok e1
  have b := elems_ok e2
  unfold slideE
  dsimp only
  rw [steps_pad (n := h) (by omega) (by omega) q0 p0 h4 hk, steps_pad (n := x) (by omega) (by omega) q0 p0 h4 hk, if_neg (not_not_intro e2), if_neg (not_not_intro e1)]
theorem conv_pad {h x c : Int} {p n : Nod} (e1 : 0 < elems h x c) (e2 : 0 < elems (h + 2 * p.np) (x + 2 * p.np) c) (hf : fitsN p n = true) : convE ⟨h + 2 * p.np, x + 2 * p.np, c⟩ n = convE ⟨h, x, c⟩ (tookN p n) := by
  have f := fits_iff.1 hf
  unfold convE
  rw [slide_pad e1 e2 (by omega) (by omega) (by omega) (by omega)]
theorem depth_pad {h x c : Int} {p n : Nod} (e1 : 0 < elems h x c) (e2 : 0 < elems (h + 2 * p.np) (x + 2 * p.np) c) (hf : fitsN p n = true) : depthE ⟨h + 2 * p.np, x + 2 * p.np, c⟩ n = depthE ⟨h, x, c⟩ (tookN p n) := by
  have f := fits_iff.1 hf
  unfold depthE
  dsimp only
  rw [slide_pad e1 e2 (by omega) (by omega) (by omega) (by omega)]
theorem around_ok {a : Shp} {p : Int} (h : (aroundE a p).2 = 0) : 0 ≤ p ∧ p ≤ 4 ∧ 0 < elems (a.h + 2 * p) (a.x + 2 * p) a.c ∧ aroundE a p = (⟨a.h + 2 * p, a.x + 2 * p, a.c⟩, 0) := by
  have b := elems_bd (a.h + 2 * p) (a.x + 2 * p) a.c
  unfold aroundE at h ⊢
  by_cases c : p < 0 ∨ 4 < p
  · rw [if_pos c] at h; exact absurd h (by decide)
  · rw [if_neg c] at h ⊢
    by_cases c2 : elems (a.h + 2 * p) (a.x + 2 * p) a.c = 0
    · rw [if_pos c2] at h; exact absurd h (by decide)
    · rw [if_neg c2] at h ⊢
      exact ⟨by omega, by omega, by omega, rfl⟩
theorem nextE_floc : FLoc nextE (fun n a b => if checkE n ≠ 0 then (⟨0, 0, 0⟩, checkE n) else shapeE n a b) Shp.Rt where
  loc := nextE_loc
  same := fun n a b h d => by
    obtain ⟨h7, hc, _⟩ := same_iff.1 h
    unfold Shp.Rt at d
    rw [if_neg (by omega)]
    unfold shapeE
    rw [if_neg (by omega), if_neg (by omega), if_neg (by omega), if_neg (by omega), if_neg (by omega), if_neg (by omega), if_neg (by omega), if_neg (by omega)]
  pads := fun p c a _ _ hf d he => by
    have f := fits_iff.1 hf
    unfold Shp.Rt at d
    rw [if_neg (by omega)] at he ⊢
    have e8 : shapeE p a a = aroundE a p.np := by
      unfold shapeE
      rw [if_neg (by omega), if_neg (by omega), if_neg (by omega), if_neg (by omega), if_neg (by omega), if_neg (by omega), if_neg (by omega), if_pos (by omega)]
    rw [e8] at he ⊢
    obtain ⟨_, _, e2, e⟩ := around_ok he
    rw [e, if_neg (by omega), checkE_took f.2.1, if_neg (by omega)]
    dsimp only
    unfold shapeE
    rcases f.2.1 with k | k
    · rw [if_pos k, if_pos (by exact k)]; exact conv_pad d e2 hf
    · rw [if_neg (by omega), if_pos k, if_neg (by show ¬ c.kd = 1; omega), if_pos (by exact k)]; exact depth_pad d e2 hf
/-! Tensors. -/
theorem elems_eq {h x c : Int} (e : 0 < elems h x c) : elems h x c = h * x * c := by
  unfold elems at e ⊢
  split
  · rfl
  · rename_i hn; rw [if_neg hn] at e; omega
theorem pad_right {T : Ten} (r : TRt T) {q z : Int} (he : elems (T.h + 2 * q) (T.x + 2 * q) T.c ≠ 0) : tenRight (padOf T q z).1 = true := by
  have b := elems_bd (T.h + 2 * q) (T.x + 2 * q) T.c
  have c := elems_ok (h := T.h + 2 * q) (x := T.x + 2 * q) (c := T.c) (by omega)
  unfold padOf
  rw [if_neg he]
  unfold tenRight
  dsimp only
  rw [gH_len]
  have e2 := elems_eq (h := T.h + 2 * q) (x := T.x + 2 * q) (c := T.c) (by omega)
  rw [decide_eq_true (show 0 < elems (T.h + 2 * q) (T.x + 2 * q) T.c by omega), Bool.true_and]
  refine decide_eq_true ?_
  rw [e2, Int.natCast_mul, Int.natCast_mul, Int.toNat_of_nonneg (by omega), Int.toNat_of_nonneg (by omega), Int.toNat_of_nonneg (by omega), Int.mul_assoc]
theorem right_map {T : Ten} (r : tenRight T = true) {d : List Int} (h : d.length = T.d.length) : tenRight ⟨T.h, T.x, T.c, d⟩ = true := by
  unfold tenRight at r ⊢; dsimp only; rw [h]; exact r
theorem pool_right {T : Ten} {n : Nod} {m : Bool} (ok : T.Ok) (okn : n.Ok) (h : (poolOf T n m).2 = 0) : tenRight (poolOf T n m).1 = true := by
  unfold poolOf at h ⊢
  split
  · rename_i hr
    rw [if_pos hr] at h
    split
    · rename_i hs
      have p := PlOk.n ⟨ok, okn, hr, hs⟩
      unfold tenRight
      dsimp only
      rw [poolL_len, p.en]
      have e := p.en
      have h1 := p.h1; have x1 := p.x1; have c1 := p.r.c1; have sc := p.sc
      have m : 1 * 1 * 1 ≤ (plS T n).h * (plS T n).x * (plS T n).c := Int.mul_le_mul (Int.mul_le_mul h1 x1 (by omega) (by omega)) (by omega) (by omega) (Int.mul_nonneg (by omega) (by omega))
      simp only [Bool.and_eq_true, decide_eq_true_eq]; omega
    · rename_i hs; rw [if_neg hs] at h; exact absurd h hs
  · rename_i hr; rw [if_neg hr] at h; exact absurd h (by decide)
theorem put_right {A : Ten} {n : Nod} (h : (putOf A n).2 = 0) : tenRight (putOf A n).1 = true := by
  unfold putOf at h ⊢
  split
  · rename_i c; rw [if_pos c] at h; exact absurd h (by decide)
  · rename_i c
    rw [if_neg c] at h
    split
    · rename_i c2; rw [if_pos c2] at h; exact absurd h (by decide)
    · have b := elems_bd A.h A.x A.c
      unfold tenRight
      dsimp only
      rw [List.length_map]
      simp only [Bool.and_eq_true, decide_eq_true_eq]; omega
theorem act_right {T : Ten} {n : Nod} (h : (actOf T n).2 = 0) : tenRight (actOf T n).1 = true := by
  unfold actOf at h ⊢
  split
  · rename_i c; rw [if_pos c] at h; exact absurd h (by decide)
  · rename_i c
    rw [if_neg c] at h
    split
    · rename_i c2; rw [if_pos c2] at h; exact absurd h (by decide)
    · exact right_map (by simpa using c) (by rw [List.length_map])
theorem join_right {T U : Ten} {n : Nod} (h : (joinOf T U n).2 = 0) : tenRight (joinOf T U n).1 = true := by
  unfold joinOf at h ⊢
  split
  · rename_i c; rw [if_pos c] at h; exact absurd h (by decide)
  · rename_i c
    rw [if_neg c] at h
    split
    · rename_i c2; rw [if_pos c2] at h; exact absurd h (by decide)
    · have r : tenRight T = true := by
        cases e : tenRight T with
        | true => rfl
        | false => rw [e] at c; simp at c
      exact right_map r (by rw [List.length_map, List.length_range])
theorem padOf_right {T : Ten} {q z : Int} (r : tenRight T = true) (h : (padOf T q z).2 = 0) : elems (T.h + 2 * q) (T.x + 2 * q) T.c ≠ 0 ∧ tenRight (padOf T q z).1 = true := by
  by_cases c : elems (T.h + 2 * q) (T.x + 2 * q) T.c = 0
  · unfold padOf at h; rw [if_pos c] at h; exact absurd h (by decide)
  · exact ⟨c, pad_right (tenRight.rt r) c⟩
theorem nodeOf_right {n : Nod} {A B : Ten} (ok : A.Ok) (okn : n.Ok) (h : (nodeOf n A B).2 = 0) : tenRight (nodeOf n A B).1 = true := by
  unfold nodeOf at h ⊢
  split
  · rename_i c; rw [if_pos c] at h; exact absurd h c
  · rename_i c
    rw [if_neg c] at h
    split
    · rename_i c; rw [if_pos c] at h; exact absurd h (by decide)
    · rename_i r
      rw [if_neg r] at h
      have r : tenRight A = true := by simpa using r
      split
      · rename_i c; rw [if_pos c] at h; exact pool_right ok okn h
      · rename_i c; rw [if_neg c] at h
        split
        · rename_i c; rw [if_pos c] at h; exact pool_right ok okn h
        · rename_i c; rw [if_neg c] at h
          split
          · rename_i c; rw [if_pos c] at h; exact join_right h
          · rename_i c; rw [if_neg c] at h
            split
            · rename_i c; rw [if_pos c] at h; exact act_right h
            · rename_i c; rw [if_neg c] at h
              split
              · rename_i c; rw [if_pos c] at h
                split
                · rename_i c; rw [if_pos c] at h; exact absurd h c
                · rename_i c; rw [if_neg c] at h; exact (padOf_right r h).2
              · rename_i c; rw [if_neg c] at h
                split
                · have t := tenRight.rt r
                  have t1 := t.dl; have t2 := t.el; have t3 := t.h1; have t4 := t.x1; have t5 := t.c1
                  have m : 1 * 1 * 1 ≤ A.h * A.x * A.c := Int.mul_le_mul (Int.mul_le_mul t3 t4 (by omega) (by omega)) t5 (by omega) (Int.mul_nonneg (by omega) (by omega))
                  unfold tenRight elems
                  dsimp only
                  rw [if_pos (by omega)]
                  simp only [Bool.and_eq_true, decide_eq_true_eq]; omega
                · rename_i c; rw [if_neg c] at h
                  split
                  · rename_i c; rw [if_pos c] at h; exact absurd h c
                  · rename_i c; rw [if_neg c] at h; exact put_right h
/-! Ranges. -/
end Go.Proofs.Ytgecmooedhnenaa

/- All values of a block, or what is wrong; which blocks have them. No condition. -/
namespace Go.Proofs.Ytgecmooedhnenaa
open Go.RowKit
set_option linter.unusedSimpArgs false
set_option linter.unusedVariables false
set_option linter.unnecessarySimpa false

theorem VOK.o {l : List Nod} {x : Ten} (h : VOK l x) : orderedB l = true := by
  unfold orderedB
  rw [List.all_eq_true]
  intro k hk
  rw [List.mem_range] at hk
  have t := h.takes hk
  rw [there_iff]; omega
theorem VOK.ne {l : List Nod} {x : Ten} (h : VOK l x) : l ≠ [] := List.length_pos_iff.1 h.s.e
/-- A block all of whose values are there. -/
structure Vals (l : List Nod) (x : Ten) : Prop where
  v : VOK l x
  r : tenRight x = true
  e : ∀ k, k < l.length → errL valE l x k = 0
theorem Vals.d {l : List Nod} {x : Ten} (h : Vals l x) {v : Nat} (hv : v ≤ l.length) : (gv valE l x v).Ok ∧ tenRight (gv valE l x v) = true := by
  cases v with
  | zero => exact ⟨h.v.ok, h.r⟩
  | succ k =>
    have q := val_ok h.v.okl h.v.ok (Nat.le_of_lt hv)
    have ek := h.e k hv
    unfold errL at ek
    rw [gv_next]
    have okn := getD_in h.v.okl hv
    have okA := getD_all (p := Ten.Ok) ten0_ok q (l.getD k default).na.toNat
    exact ⟨nodeOf_ok okn okA, nodeOf_right okA okn ek⟩
theorem Vals.fine {l : List Nod} {x : Ten} (h : Vals l x) : Fine valE (fun T => T.Ok ∧ tenRight T = true) l x :=
  ⟨h.v.o, h.v.ne, by have := h.v.s.f; omega, h.v.okl, fun v hv => h.d hv, h.e⟩
theorem SOK.o {l : List Nod} {a : Shp} (h : SOK l a) : orderedB l = true := by
  unfold orderedB
  rw [List.all_eq_true]
  intro k hk
  rw [List.mem_range] at hk
  have q := h.k k hk
  unfold errL at q
  have c := (nextE_ok q).2.1
  rw [List.length_map, growL_len] at c
  rw [there_iff] at *; omega
theorem SOK.fine {l : List Nod} {a : Shp} (h : SOK l a) (okl : ∀ n ∈ l, n.Ok) : Fine nextE Shp.Rt l a := by
  refine ⟨h.o, List.length_pos_iff.1 h.e, by have := h.f; omega, okl, fun v hv => ?_, h.k⟩
  cases v with
  | zero => exact h.i
  | succ k =>
    have ek := h.k k hv
    unfold errL at ek
    rw [gv_next]
    rcases nextE_told (l.getD k default) (growL nextE l a k) with t | t
    · exact t.2
    · exact absurd ek t.1
end Go.Proofs.Ytgecmooedhnenaa

/- Several nodes as one, again and again, by the document: all of it. No condition. -/
namespace Go.Proofs.Ytgecmooedhnenaa
open Go.RowKit
set_option linter.unusedSimpArgs false
set_option linter.unusedVariables false
set_option linter.unnecessarySimpa false

abbrev setA (L : List Nod) (i : Nat) (u : Int) : List Nod := L.set i { L.getD i default with na := u }
abbrev setB (L : List Nod) (i : Nat) (u : Int) : List Nod := L.set i { L.getD i default with nb := u }
theorem setA_at {L : List Nod} {i : Nat} (hi : i < L.length) (u : Int) : (setA L i u).getD i default = { L.getD i default with na := u } := by rw [getD_setN _ _ _ _ hi, if_pos rfl]
theorem setA_o {L : List Nod} {i j : Nat} (hi : i < L.length) (u : Int) (h : i ≠ j) : (setA L i u).getD j default = L.getD j default := by rw [getD_setN _ _ _ _ hi, if_neg h]
theorem pastK_set {L : List Nod} {i K : Nat} (hi : i < L.length) (u : Int) (d : Desc L K) (hK : i ≤ K) : ∀ (f : Nat) (v : Int), v ≤ i → pastK (setA L i u) f v = pastK L f v
  | 0, _, _ => rfl
  | f + 1, v, hv => by
    rw [pastK, pastK]
    by_cases q : 0 < v
    · have e : (setA L i u).getD (v - 1).toNat default = L.getD (v - 1).toNat default := setA_o hi u (by omega)
      rw [e]
      split
      · have := d (v - 1).toNat (by omega)
        exact pastK_set hi u d hK f _ (by omega)
      · rfl
    · rw [if_neg (fun h => q h.1), if_neg (fun h => q h.1)]
theorem pastV_set {L : List Nod} {i K : Nat} (hi : i < L.length) (u : Int) (d : Desc L K) (hK : i ≤ K) {v : Int} (hv : v ≤ i) : pastV (setA L i u) v = pastV L v := pastK_set hi u d hK _ v hv
theorem thrK_6 {P : List Nod} {k : Nat} (hk : k < P.length) (d : Desc (thrK P k) P.length) (h6 : ((thrK P k).getD k default).kd = 6) (hb : ((thrK P k).getD k default).nb ≤ k) :
    thrK P (k + 1) = (setA (thrK P k) k (pastV (thrK P k) ((thrK P k).getD k default).na)).set k { (thrK P k).getD k default with na := pastV (thrK P k) ((thrK P k).getD k default).na, nb := pastV (setA (thrK P k) k (pastV (thrK P k) ((thrK P k).getD k default).na)) ((thrK P k).getD k default).nb } := by
  have hl : k < (thrK P k).length := by rw [thrK_len]; exact hk
  rw [thrK, pastV_set hl _ d (by omega) hb, List.set_set]
  unfold thrN
  rw [if_pos h6]
theorem thrK_o {P : List Nod} {k : Nat} (h6 : ((thrK P k).getD k default).kd ≠ 6) : thrK P (k + 1) = setA (thrK P k) k (pastV (thrK P k) ((thrK P k).getD k default).na) := by
  rw [thrK]
  unfold thrN
  rw [if_neg h6]
theorem setA_mem {L : List Nod} {i : Nat} {u : Int} {p : Nod → Prop} (h : ∀ n ∈ L, p n) (hi : p { L.getD i default with na := u }) : ∀ n ∈ setA L i u, p n := by
  intro n hn
  rcases List.mem_or_eq_of_mem_set hn with q | q
  · exact h n q
  · rw [q]; exact hi
theorem setA_desc {L : List Nod} {i K : Nat} {u : Int} (hi : i < L.length) (d : Desc L K) (u0 : 0 ≤ u) (u1 : u ≤ i) : Desc (setA L i u) K := by
  intro j hj
  by_cases e : i = j
  · subst e; rw [setA_at hi]; exact ⟨u0, u1⟩
  · rw [setA_o hi u e]; exact d j hj
theorem setA_len (L : List Nod) (i : Nat) (u : Int) : (setA L i u).length = L.length := List.length_set
noncomputable def ronce_t_I (P : List Nod) (k : Nat) : VS := stt 80 [(3, .own 900), (6, i64 k)] [(900, .slc 47 19 ((thrK P k).map nodC))]
noncomputable def ronce_t_Z (P : List Nod) : VS := ronce_t_I P (P.length)
set_option maxRecDepth 100000 in
set_option maxHeartbeats 2000000 in
theorem ronce_t_s (P : List Nod) (o : orderedB P = true) (hl : P.length ≤ 1000) (okl : ∀ n ∈ P, n.Ok) (wl : ∀ n ∈ P, n.w.length ≤ 100000 ∧ n.b.length ≤ 100000) (k : Nat) (hk : k < P.length) : VT Try.prog (fnC Try.f94 [1, 1, 1, 0, 1, 0, 0]) (ronce_t_I P k) .normal (ronce_t_I P (k + 1)) := by
  have q1 := thrK_len P k
  obtain ⟨q2, q3⟩ := thrK_ok o hl okl wl k (by omega)
  have q4 := thrK_get (l := P) k (by omega) k hk
  rw [if_neg (Nat.lt_irrefl k)] at q4
  have q5 := (ord_iff.1 o) k hk
  rw [← q4] at q5
  obtain ⟨q6, q7, q8⟩ := q5
  have q9 := thrK_desc o k (by omega)
  have qa : Desc (thrK P k) (thrK P k).length := by rw [q1]; exact q9
  have qb : (List.map nodC (thrK P k)).length = P.length := by rw [List.length_map, q1]
  have qc := fun h => thrK_6 hk q9 h (q8 h).2
  have qd := fun h => thrK_o (P := P) (k := k) h
  have qe := pastV_le q9 q6 (by omega)
  have qf : Desc (setA (thrK P k) k (pastV (thrK P k) ((thrK P k).getD k default).na)) (setA (thrK P k) k (pastV (thrK P k) ((thrK P k).getD k default).na)).length := by rw [setA_len]; exact setA_desc (by omega) qa qe.1 (by omega)
  have qo := getD_in q2 (i := k) (by omega)
  have qg : ∀ n ∈ setA (thrK P k) k (pastV (thrK P k) ((thrK P k).getD k default).na), n.Ok := setA_mem q2 (OkN.ok (OkN.ren qo.n _ ((thrK P k).getD k default).nb (.inr rfl)) (by show In64 (pastV (thrK P k) ((thrK P k).getD k default).na); unfold In64; omega) fun _ => qo.nb)
  have qh : ∀ n ∈ setA (thrK P k) k (pastV (thrK P k) ((thrK P k).getD k default).na), n.w.length ≤ 100000 ∧ n.b.length ≤ 100000 := setA_mem q3 (getD_in q3 (i := k) (by omega))
  have qi : (setA (thrK P k) k (pastV (thrK P k) ((thrK P k).getD k default).na)).length = P.length := by rw [setA_len, q1]
  have qj : ((setA (thrK P k) k (pastV (thrK P k) ((thrK P k).getD k default).na)).getD k default).nb = ((thrK P k).getD k default).nb := by rw [setA_at (by omega)]
  have qk : ((setA (thrK P k) k (pastV (thrK P k) ((thrK P k).getD k default).na)).getD k default).kd = ((thrK P k).getD k default).kd := by rw [setA_at (by omega)]
  have oz0 := (decide_eq_true (p := ((↑k : Int) < (↑(List.map nodC (thrK P k)).length : Int))) (by omega))
  have oz1 := (show 0 ≤ (↑k : Int) by omega)
  have oz2 := (show (↑k : Int) < (↑(List.map nodC (thrK P k)).length : Int) by omega)
  have oz3 := (map_at (nodC) (default) (l := thrK P k) (i := k) (by omega))
  have oz4 := @rpast_v (thrK P k) (((thrK P k).getD k default).na) qa q6 (by omega) (by omega) q2 q3
  have oz9 := (show (↑k : Int) < (↑((List.map nodC (thrK P k)).set (↑k : Int).toNat [i64 ((thrK P k).getD k default).kd, i64 (pastV (thrK P k) ((thrK P k).getD k default).na), i64 ((thrK P k).getD k default).nb, i64 ((thrK P k).getD k default).nk, i64 ((thrK P k).getD k default).ns, i64 ((thrK P k).getD k default).np, i64 ((thrK P k).getD k default).no, i8 ((thrK P k).getD k default).za, i8 ((thrK P k).getD k default).zb, AV.sl 1 (List.map (row1 IntKind.i8) ((thrK P k).getD k default).w), AV.sl 1 (List.map (row1 IntKind.i32) ((thrK P k).getD k default).b), i32 ((thrK P k).getD k default).qm, i64 ((thrK P k).getD k default).qs, i8 ((thrK P k).getD k default).qz, i32 ((thrK P k).getD k default).rm, i64 ((thrK P k).getD k default).rs, i8 ((thrK P k).getD k default).rz, i8 ((thrK P k).getD k default).lo, i8 ((thrK P k).getD k default).hi]).length : Int) by (simp; omega))
  have oz10 := (show ((List.map nodC (thrK P k)).set (↑k : Int).toNat [i64 ((thrK P k).getD k default).kd, i64 (pastV (thrK P k) ((thrK P k).getD k default).na), i64 ((thrK P k).getD k default).nb, i64 ((thrK P k).getD k default).nk, i64 ((thrK P k).getD k default).ns, i64 ((thrK P k).getD k default).np, i64 ((thrK P k).getD k default).no, i8 ((thrK P k).getD k default).za, i8 ((thrK P k).getD k default).zb, AV.sl 1 (List.map (row1 IntKind.i8) ((thrK P k).getD k default).w), AV.sl 1 (List.map (row1 IntKind.i32) ((thrK P k).getD k default).b), i32 ((thrK P k).getD k default).qm, i64 ((thrK P k).getD k default).qs, i8 ((thrK P k).getD k default).qz, i32 ((thrK P k).getD k default).rm, i64 ((thrK P k).getD k default).rs, i8 ((thrK P k).getD k default).rz, i8 ((thrK P k).getD k default).lo, i8 ((thrK P k).getD k default).hi])[(↑k : Int).toNat]? = some [i64 ((thrK P k).getD k default).kd, i64 (pastV (thrK P k) ((thrK P k).getD k default).na), i64 ((thrK P k).getD k default).nb, i64 ((thrK P k).getD k default).nk, i64 ((thrK P k).getD k default).ns, i64 ((thrK P k).getD k default).np, i64 ((thrK P k).getD k default).no, i8 ((thrK P k).getD k default).za, i8 ((thrK P k).getD k default).zb, AV.sl 1 (List.map (row1 IntKind.i8) ((thrK P k).getD k default).w), AV.sl 1 (List.map (row1 IntKind.i32) ((thrK P k).getD k default).b), i32 ((thrK P k).getD k default).qm, i64 ((thrK P k).getD k default).qs, i8 ((thrK P k).getD k default).qz, i32 ((thrK P k).getD k default).rm, i64 ((thrK P k).getD k default).rs, i8 ((thrK P k).getD k default).rz, i8 ((thrK P k).getD k default).lo, i8 ((thrK P k).getD k default).hi] from (get_set (by omega) (by omega)))
  rcases Bool.eq_false_or_eq_true (((thrK P k).getD k default).kd == 6) with hc0 | hc0
  · have gc0 : ((thrK P k).getD k default).kd = 6 := bet hc0
    have oz16 := @rpast_v ((thrK P k).set (↑k : Int).toNat (Nod.mk ((thrK P k).getD k default).kd (pastV (thrK P k) ((thrK P k).getD k default).na) ((thrK P k).getD k default).nb ((thrK P k).getD k default).nk ((thrK P k).getD k default).ns ((thrK P k).getD k default).np ((thrK P k).getD k default).no ((thrK P k).getD k default).za ((thrK P k).getD k default).zb ((thrK P k).getD k default).w ((thrK P k).getD k default).b ((thrK P k).getD k default).qm ((thrK P k).getD k default).qs ((thrK P k).getD k default).qz ((thrK P k).getD k default).rm ((thrK P k).getD k default).rs ((thrK P k).getD k default).rz ((thrK P k).getD k default).lo ((thrK P k).getD k default).hi)) (((thrK P k).getD k default).nb) (by (exact qf)) (by omega) (by (simp at *; omega)) (by (exact Nat.le_trans (Nat.le_of_eq qi) hl)) (by (exact qg)) (by (exact qh))
    exact VT.run (W := [.r [] [], .br true, .r [] [.row (sO oz3), .callr (rO oz4), .row (sO oz3)], .r [] [.row (sO oz10)], .br true, .r [] [.row (sO oz10), .call (aO oz16) (rO oz16), .row (sO oz10)], .r [] [.n ((↑k : Int) + 1)]]) (G := [.any (rg [(44, 34)]), .weak 6 (i64 (↑(k + 1) : Int)), .blk 900 (Blk.slc 47 19 (List.map nodC (thrK P (k + 1)))), .sort]) (by kernel_rfl) (.c oz0 <| .c oz1 <| .c oz2 <| .c oz3 <| .c oz4 <| .c oz1 <| .c oz2 <| .c oz3 <| .c oz1 <| .c oz9 <| .c oz10 <| .c hc0 <| .c oz1 <| .c oz9 <| .c oz10 <| .c (show WeakL [AV.sl 19 ((List.map nodC (thrK P k)).set (↑k : Int).toNat [i64 ((thrK P k).getD k default).kd, i64 (pastV (thrK P k) ((thrK P k).getD k default).na), i64 ((thrK P k).getD k default).nb, i64 ((thrK P k).getD k default).nk, i64 ((thrK P k).getD k default).ns, i64 ((thrK P k).getD k default).np, i64 ((thrK P k).getD k default).no, i8 ((thrK P k).getD k default).za, i8 ((thrK P k).getD k default).zb, AV.sl 1 (List.map (row1 IntKind.i8) ((thrK P k).getD k default).w), AV.sl 1 (List.map (row1 IntKind.i32) ((thrK P k).getD k default).b), i32 ((thrK P k).getD k default).qm, i64 ((thrK P k).getD k default).qs, i8 ((thrK P k).getD k default).qz, i32 ((thrK P k).getD k default).rm, i64 ((thrK P k).getD k default).rs, i8 ((thrK P k).getD k default).rz, i8 ((thrK P k).getD k default).lo, i8 ((thrK P k).getD k default).hi]), i64 ((thrK P k).getD k default).nb] [AV.sl 19 (List.map nodC ((thrK P k).set (↑k : Int).toNat (Nod.mk ((thrK P k).getD k default).kd (pastV (thrK P k) ((thrK P k).getD k default).na) ((thrK P k).getD k default).nb ((thrK P k).getD k default).nk ((thrK P k).getD k default).ns ((thrK P k).getD k default).np ((thrK P k).getD k default).no ((thrK P k).getD k default).za ((thrK P k).getD k default).zb ((thrK P k).getD k default).w ((thrK P k).getD k default).b ((thrK P k).getD k default).qm ((thrK P k).getD k default).qs ((thrK P k).getD k default).qz ((thrK P k).getD k default).rm ((thrK P k).getD k default).rs ((thrK P k).getD k default).rz ((thrK P k).getD k default).lo ((thrK P k).getD k default).hi))), i64 ((thrK P k).getD k default).nb] from (.cons (Weak.rows (rows_to (nodC) (r := (List.map nodC (thrK P k)).set (↑k : Int).toNat [i64 ((thrK P k).getD k default).kd, i64 (pastV (thrK P k) ((thrK P k).getD k default).na), i64 ((thrK P k).getD k default).nb, i64 ((thrK P k).getD k default).nk, i64 ((thrK P k).getD k default).ns, i64 ((thrK P k).getD k default).np, i64 ((thrK P k).getD k default).no, i8 ((thrK P k).getD k default).za, i8 ((thrK P k).getD k default).zb, AV.sl 1 (List.map (row1 IntKind.i8) ((thrK P k).getD k default).w), AV.sl 1 (List.map (row1 IntKind.i32) ((thrK P k).getD k default).b), i32 ((thrK P k).getD k default).qm, i64 ((thrK P k).getD k default).qs, i8 ((thrK P k).getD k default).qz, i32 ((thrK P k).getD k default).rm, i64 ((thrK P k).getD k default).rs, i8 ((thrK P k).getD k default).rz, i8 ((thrK P k).getD k default).lo, i8 ((thrK P k).getD k default).hi]) (l := (thrK P k).set (↑k : Int).toNat (Nod.mk ((thrK P k).getD k default).kd (pastV (thrK P k) ((thrK P k).getD k default).na) ((thrK P k).getD k default).nb ((thrK P k).getD k default).nk ((thrK P k).getD k default).ns ((thrK P k).getD k default).np ((thrK P k).getD k default).no ((thrK P k).getD k default).za ((thrK P k).getD k default).zb ((thrK P k).getD k default).w ((thrK P k).getD k default).b ((thrK P k).getD k default).qm ((thrK P k).getD k default).qs ((thrK P k).getD k default).qz ((thrK P k).getD k default).rm ((thrK P k).getD k default).rs ((thrK P k).getD k default).rz ((thrK P k).getD k default).lo ((thrK P k).getD k default).hi)) (m := (thrK P k).set (↑k : Int).toNat (Nod.mk ((thrK P k).getD k default).kd (pastV (thrK P k) ((thrK P k).getD k default).na) ((thrK P k).getD k default).nb ((thrK P k).getD k default).nk ((thrK P k).getD k default).ns ((thrK P k).getD k default).np ((thrK P k).getD k default).no ((thrK P k).getD k default).za ((thrK P k).getD k default).zb ((thrK P k).getD k default).w ((thrK P k).getD k default).b ((thrK P k).getD k default).qm ((thrK P k).getD k default).qs ((thrK P k).getD k default).qz ((thrK P k).getD k default).rm ((thrK P k).getD k default).rs ((thrK P k).getD k default).rz ((thrK P k).getD k default).lo ((thrK P k).getD k default).hi)) (by first | (simp only [List.map_append, List.map_cons, List.map_nil, List.map_set, List.map_replicate, List.map_take, List.map_drop]; done) | rfl | (simp only [List.map_append, List.map_cons, List.map_nil, List.map_set, List.map_replicate, List.map_take, List.map_drop]; rfl) | (simp only [List.map_append, List.map_cons, List.map_nil, List.map_set, List.map_replicate, List.map_take, List.map_drop, nodC, ints]; done)) rfl)) (.cons (.refl _) .nil))) <| .c oz16 <| .c oz1 <| .c oz9 <| .c oz10 <| .c (IntWalk.i64_in ((↑k : Int) + 1) (by omega)) <| .c (Weak.int (k := .i64) (show (((↑k : Int) + 1) : Int) = ((↑(k + 1) : Int)) from (by omega))) <| .c (show BlkW (Blk.slc 47 19 (((List.map nodC (thrK P k)).set (↑k : Int).toNat [i64 ((thrK P k).getD k default).kd, i64 (pastV (thrK P k) ((thrK P k).getD k default).na), i64 ((thrK P k).getD k default).nb, i64 ((thrK P k).getD k default).nk, i64 ((thrK P k).getD k default).ns, i64 ((thrK P k).getD k default).np, i64 ((thrK P k).getD k default).no, i8 ((thrK P k).getD k default).za, i8 ((thrK P k).getD k default).zb, AV.sl 1 (List.map (row1 IntKind.i8) ((thrK P k).getD k default).w), AV.sl 1 (List.map (row1 IntKind.i32) ((thrK P k).getD k default).b), i32 ((thrK P k).getD k default).qm, i64 ((thrK P k).getD k default).qs, i8 ((thrK P k).getD k default).qz, i32 ((thrK P k).getD k default).rm, i64 ((thrK P k).getD k default).rs, i8 ((thrK P k).getD k default).rz, i8 ((thrK P k).getD k default).lo, i8 ((thrK P k).getD k default).hi]).set (↑k : Int).toNat [i64 ((thrK P k).getD k default).kd, i64 (pastV (thrK P k) ((thrK P k).getD k default).na), i64 (pastV ((thrK P k).set (↑k : Int).toNat (Nod.mk ((thrK P k).getD k default).kd (pastV (thrK P k) ((thrK P k).getD k default).na) ((thrK P k).getD k default).nb ((thrK P k).getD k default).nk ((thrK P k).getD k default).ns ((thrK P k).getD k default).np ((thrK P k).getD k default).no ((thrK P k).getD k default).za ((thrK P k).getD k default).zb ((thrK P k).getD k default).w ((thrK P k).getD k default).b ((thrK P k).getD k default).qm ((thrK P k).getD k default).qs ((thrK P k).getD k default).qz ((thrK P k).getD k default).rm ((thrK P k).getD k default).rs ((thrK P k).getD k default).rz ((thrK P k).getD k default).lo ((thrK P k).getD k default).hi)) ((thrK P k).getD k default).nb), i64 ((thrK P k).getD k default).nk, i64 ((thrK P k).getD k default).ns, i64 ((thrK P k).getD k default).np, i64 ((thrK P k).getD k default).no, i8 ((thrK P k).getD k default).za, i8 ((thrK P k).getD k default).zb, AV.sl 1 (List.map (row1 IntKind.i8) ((thrK P k).getD k default).w), AV.sl 1 (List.map (row1 IntKind.i32) ((thrK P k).getD k default).b), i32 ((thrK P k).getD k default).qm, i64 ((thrK P k).getD k default).qs, i8 ((thrK P k).getD k default).qz, i32 ((thrK P k).getD k default).rm, i64 ((thrK P k).getD k default).rs, i8 ((thrK P k).getD k default).rz, i8 ((thrK P k).getD k default).lo, i8 ((thrK P k).getD k default).hi])) (Blk.slc 47 19 (List.map nodC (thrK P (k + 1)))) from (BlkW.rows (rows_to (nodC) (r := ((List.map nodC (thrK P k)).set (↑k : Int).toNat [i64 ((thrK P k).getD k default).kd, i64 (pastV (thrK P k) ((thrK P k).getD k default).na), i64 ((thrK P k).getD k default).nb, i64 ((thrK P k).getD k default).nk, i64 ((thrK P k).getD k default).ns, i64 ((thrK P k).getD k default).np, i64 ((thrK P k).getD k default).no, i8 ((thrK P k).getD k default).za, i8 ((thrK P k).getD k default).zb, AV.sl 1 (List.map (row1 IntKind.i8) ((thrK P k).getD k default).w), AV.sl 1 (List.map (row1 IntKind.i32) ((thrK P k).getD k default).b), i32 ((thrK P k).getD k default).qm, i64 ((thrK P k).getD k default).qs, i8 ((thrK P k).getD k default).qz, i32 ((thrK P k).getD k default).rm, i64 ((thrK P k).getD k default).rs, i8 ((thrK P k).getD k default).rz, i8 ((thrK P k).getD k default).lo, i8 ((thrK P k).getD k default).hi]).set (↑k : Int).toNat [i64 ((thrK P k).getD k default).kd, i64 (pastV (thrK P k) ((thrK P k).getD k default).na), i64 (pastV ((thrK P k).set (↑k : Int).toNat (Nod.mk ((thrK P k).getD k default).kd (pastV (thrK P k) ((thrK P k).getD k default).na) ((thrK P k).getD k default).nb ((thrK P k).getD k default).nk ((thrK P k).getD k default).ns ((thrK P k).getD k default).np ((thrK P k).getD k default).no ((thrK P k).getD k default).za ((thrK P k).getD k default).zb ((thrK P k).getD k default).w ((thrK P k).getD k default).b ((thrK P k).getD k default).qm ((thrK P k).getD k default).qs ((thrK P k).getD k default).qz ((thrK P k).getD k default).rm ((thrK P k).getD k default).rs ((thrK P k).getD k default).rz ((thrK P k).getD k default).lo ((thrK P k).getD k default).hi)) ((thrK P k).getD k default).nb), i64 ((thrK P k).getD k default).nk, i64 ((thrK P k).getD k default).ns, i64 ((thrK P k).getD k default).np, i64 ((thrK P k).getD k default).no, i8 ((thrK P k).getD k default).za, i8 ((thrK P k).getD k default).zb, AV.sl 1 (List.map (row1 IntKind.i8) ((thrK P k).getD k default).w), AV.sl 1 (List.map (row1 IntKind.i32) ((thrK P k).getD k default).b), i32 ((thrK P k).getD k default).qm, i64 ((thrK P k).getD k default).qs, i8 ((thrK P k).getD k default).qz, i32 ((thrK P k).getD k default).rm, i64 ((thrK P k).getD k default).rs, i8 ((thrK P k).getD k default).rz, i8 ((thrK P k).getD k default).lo, i8 ((thrK P k).getD k default).hi]) (l := ((thrK P k).set (↑k : Int).toNat (Nod.mk ((thrK P k).getD k default).kd (pastV (thrK P k) ((thrK P k).getD k default).na) ((thrK P k).getD k default).nb ((thrK P k).getD k default).nk ((thrK P k).getD k default).ns ((thrK P k).getD k default).np ((thrK P k).getD k default).no ((thrK P k).getD k default).za ((thrK P k).getD k default).zb ((thrK P k).getD k default).w ((thrK P k).getD k default).b ((thrK P k).getD k default).qm ((thrK P k).getD k default).qs ((thrK P k).getD k default).qz ((thrK P k).getD k default).rm ((thrK P k).getD k default).rs ((thrK P k).getD k default).rz ((thrK P k).getD k default).lo ((thrK P k).getD k default).hi)).set (↑k : Int).toNat (Nod.mk ((thrK P k).getD k default).kd (pastV (thrK P k) ((thrK P k).getD k default).na) (pastV ((thrK P k).set (↑k : Int).toNat (Nod.mk ((thrK P k).getD k default).kd (pastV (thrK P k) ((thrK P k).getD k default).na) ((thrK P k).getD k default).nb ((thrK P k).getD k default).nk ((thrK P k).getD k default).ns ((thrK P k).getD k default).np ((thrK P k).getD k default).no ((thrK P k).getD k default).za ((thrK P k).getD k default).zb ((thrK P k).getD k default).w ((thrK P k).getD k default).b ((thrK P k).getD k default).qm ((thrK P k).getD k default).qs ((thrK P k).getD k default).qz ((thrK P k).getD k default).rm ((thrK P k).getD k default).rs ((thrK P k).getD k default).rz ((thrK P k).getD k default).lo ((thrK P k).getD k default).hi)) ((thrK P k).getD k default).nb) ((thrK P k).getD k default).nk ((thrK P k).getD k default).ns ((thrK P k).getD k default).np ((thrK P k).getD k default).no ((thrK P k).getD k default).za ((thrK P k).getD k default).zb ((thrK P k).getD k default).w ((thrK P k).getD k default).b ((thrK P k).getD k default).qm ((thrK P k).getD k default).qs ((thrK P k).getD k default).qz ((thrK P k).getD k default).rm ((thrK P k).getD k default).rs ((thrK P k).getD k default).rz ((thrK P k).getD k default).lo ((thrK P k).getD k default).hi)) (m := thrK P (k + 1)) (by first | (simp only [List.map_append, List.map_cons, List.map_nil, List.map_set, List.map_replicate, List.map_take, List.map_drop]; done) | rfl | (simp only [List.map_append, List.map_cons, List.map_nil, List.map_set, List.map_replicate, List.map_take, List.map_drop]; rfl) | (simp only [List.map_append, List.map_cons, List.map_nil, List.map_set, List.map_replicate, List.map_take, List.map_drop, nodC, ints]; done)) (show (((thrK P k).set (↑k : Int).toNat (Nod.mk ((thrK P k).getD k default).kd (pastV (thrK P k) ((thrK P k).getD k default).na) ((thrK P k).getD k default).nb ((thrK P k).getD k default).nk ((thrK P k).getD k default).ns ((thrK P k).getD k default).np ((thrK P k).getD k default).no ((thrK P k).getD k default).za ((thrK P k).getD k default).zb ((thrK P k).getD k default).w ((thrK P k).getD k default).b ((thrK P k).getD k default).qm ((thrK P k).getD k default).qs ((thrK P k).getD k default).qz ((thrK P k).getD k default).rm ((thrK P k).getD k default).rs ((thrK P k).getD k default).rz ((thrK P k).getD k default).lo ((thrK P k).getD k default).hi)).set (↑k : Int).toNat (Nod.mk ((thrK P k).getD k default).kd (pastV (thrK P k) ((thrK P k).getD k default).na) (pastV ((thrK P k).set (↑k : Int).toNat (Nod.mk ((thrK P k).getD k default).kd (pastV (thrK P k) ((thrK P k).getD k default).na) ((thrK P k).getD k default).nb ((thrK P k).getD k default).nk ((thrK P k).getD k default).ns ((thrK P k).getD k default).np ((thrK P k).getD k default).no ((thrK P k).getD k default).za ((thrK P k).getD k default).zb ((thrK P k).getD k default).w ((thrK P k).getD k default).b ((thrK P k).getD k default).qm ((thrK P k).getD k default).qs ((thrK P k).getD k default).qz ((thrK P k).getD k default).rm ((thrK P k).getD k default).rs ((thrK P k).getD k default).rz ((thrK P k).getD k default).lo ((thrK P k).getD k default).hi)) ((thrK P k).getD k default).nb) ((thrK P k).getD k default).nk ((thrK P k).getD k default).ns ((thrK P k).getD k default).np ((thrK P k).getD k default).no ((thrK P k).getD k default).za ((thrK P k).getD k default).zb ((thrK P k).getD k default).w ((thrK P k).getD k default).b ((thrK P k).getD k default).qm ((thrK P k).getD k default).qs ((thrK P k).getD k default).qz ((thrK P k).getD k default).rm ((thrK P k).getD k default).rs ((thrK P k).getD k default).rz ((thrK P k).getD k default).lo ((thrK P k).getD k default).hi)) = (thrK P (k + 1)) from (by (exact (qc (by omega)).symm)))))) <| .n)
  · have gc0 : ¬((thrK P k).getD k default).kd = 6 := bef hc0
    exact VT.run (W := [.r [] [], .br true, .r [] [.row (sO oz3), .callr (rO oz4), .row (sO oz3)], .r [] [.row (sO oz10)], .br false, .r [] [.n ((↑k : Int) + 1)]]) (G := [.any (rg [(44, 23)]), .weak 6 (i64 (↑(k + 1) : Int)), .blk 900 (Blk.slc 47 19 (List.map nodC (thrK P (k + 1)))), .sort]) (by kernel_rfl) (.c oz0 <| .c oz1 <| .c oz2 <| .c oz3 <| .c oz4 <| .c oz1 <| .c oz2 <| .c oz3 <| .c oz1 <| .c oz9 <| .c oz10 <| .c hc0 <| .c (IntWalk.i64_in ((↑k : Int) + 1) (by omega)) <| .c (Weak.int (k := .i64) (show (((↑k : Int) + 1) : Int) = ((↑(k + 1) : Int)) from (by omega))) <| .c (show BlkW (Blk.slc 47 19 ((List.map nodC (thrK P k)).set (↑k : Int).toNat [i64 ((thrK P k).getD k default).kd, i64 (pastV (thrK P k) ((thrK P k).getD k default).na), i64 ((thrK P k).getD k default).nb, i64 ((thrK P k).getD k default).nk, i64 ((thrK P k).getD k default).ns, i64 ((thrK P k).getD k default).np, i64 ((thrK P k).getD k default).no, i8 ((thrK P k).getD k default).za, i8 ((thrK P k).getD k default).zb, AV.sl 1 (List.map (row1 IntKind.i8) ((thrK P k).getD k default).w), AV.sl 1 (List.map (row1 IntKind.i32) ((thrK P k).getD k default).b), i32 ((thrK P k).getD k default).qm, i64 ((thrK P k).getD k default).qs, i8 ((thrK P k).getD k default).qz, i32 ((thrK P k).getD k default).rm, i64 ((thrK P k).getD k default).rs, i8 ((thrK P k).getD k default).rz, i8 ((thrK P k).getD k default).lo, i8 ((thrK P k).getD k default).hi])) (Blk.slc 47 19 (List.map nodC (thrK P (k + 1)))) from (BlkW.rows (rows_to (nodC) (r := (List.map nodC (thrK P k)).set (↑k : Int).toNat [i64 ((thrK P k).getD k default).kd, i64 (pastV (thrK P k) ((thrK P k).getD k default).na), i64 ((thrK P k).getD k default).nb, i64 ((thrK P k).getD k default).nk, i64 ((thrK P k).getD k default).ns, i64 ((thrK P k).getD k default).np, i64 ((thrK P k).getD k default).no, i8 ((thrK P k).getD k default).za, i8 ((thrK P k).getD k default).zb, AV.sl 1 (List.map (row1 IntKind.i8) ((thrK P k).getD k default).w), AV.sl 1 (List.map (row1 IntKind.i32) ((thrK P k).getD k default).b), i32 ((thrK P k).getD k default).qm, i64 ((thrK P k).getD k default).qs, i8 ((thrK P k).getD k default).qz, i32 ((thrK P k).getD k default).rm, i64 ((thrK P k).getD k default).rs, i8 ((thrK P k).getD k default).rz, i8 ((thrK P k).getD k default).lo, i8 ((thrK P k).getD k default).hi]) (l := (thrK P k).set (↑k : Int).toNat (Nod.mk ((thrK P k).getD k default).kd (pastV (thrK P k) ((thrK P k).getD k default).na) ((thrK P k).getD k default).nb ((thrK P k).getD k default).nk ((thrK P k).getD k default).ns ((thrK P k).getD k default).np ((thrK P k).getD k default).no ((thrK P k).getD k default).za ((thrK P k).getD k default).zb ((thrK P k).getD k default).w ((thrK P k).getD k default).b ((thrK P k).getD k default).qm ((thrK P k).getD k default).qs ((thrK P k).getD k default).qz ((thrK P k).getD k default).rm ((thrK P k).getD k default).rs ((thrK P k).getD k default).rz ((thrK P k).getD k default).lo ((thrK P k).getD k default).hi)) (m := thrK P (k + 1)) (by first | (simp only [List.map_append, List.map_cons, List.map_nil, List.map_set, List.map_replicate, List.map_take, List.map_drop]; done) | rfl | (simp only [List.map_append, List.map_cons, List.map_nil, List.map_set, List.map_replicate, List.map_take, List.map_drop]; rfl) | (simp only [List.map_append, List.map_cons, List.map_nil, List.map_set, List.map_replicate, List.map_take, List.map_drop, nodC, ints]; done)) (show ((thrK P k).set (↑k : Int).toNat (Nod.mk ((thrK P k).getD k default).kd (pastV (thrK P k) ((thrK P k).getD k default).na) ((thrK P k).getD k default).nb ((thrK P k).getD k default).nk ((thrK P k).getD k default).ns ((thrK P k).getD k default).np ((thrK P k).getD k default).no ((thrK P k).getD k default).za ((thrK P k).getD k default).zb ((thrK P k).getD k default).w ((thrK P k).getD k default).b ((thrK P k).getD k default).qm ((thrK P k).getD k default).qs ((thrK P k).getD k default).qz ((thrK P k).getD k default).rm ((thrK P k).getD k default).rs ((thrK P k).getD k default).rz ((thrK P k).getD k default).lo ((thrK P k).getD k default).hi)) = (thrK P (k + 1)) from (by (exact (qd (by omega)).symm)))))) <| .n)
set_option maxRecDepth 100000 in
set_option maxHeartbeats 2000000 in
theorem ronce_t_e (P : List Nod) (o : orderedB P = true) (hl : P.length ≤ 1000) (okl : ∀ n ∈ P, n.Ok) (wl : ∀ n ∈ P, n.w.length ≤ 100000 ∧ n.b.length ≤ 100000) : VT Try.prog (fnC Try.f94 [1, 1, 1, 0, 1, 0, 0]) (ronce_t_I P (P.length)) (.exit 2) (ronce_t_Z P) := by
  have qb : (List.map nodC (thrK P P.length)).length = P.length := by rw [List.length_map, thrK_len]
  exact VT.run (W := [.r [] [], .br false]) (G := [.any (rg [(44, 4)]), .sort]) (by kernel_rfl) (.c (decide_eq_false (p := ((↑P.length : Int) < (↑(List.map nodC (thrK P P.length)).length : Int))) (by omega)) <| .n)
theorem ronce_t (P : List Nod) (o : orderedB P = true) (hl : P.length ≤ 1000) (okl : ∀ n ∈ P, n.Ok) (wl : ∀ n ∈ P, n.w.length ≤ 100000 ∧ n.b.length ≤ 100000) : VT Try.prog (fnC Try.f94 [1, 1, 1, 0, 1, 0]) (ronce_t_I P 0) (.exit 2) (ronce_t_Z P) :=
  VT.loop (fun k => ronce_t_I P k) (P.length) (fun k hk => ronce_t_s P o hl okl wl k hk) (ronce_t_e P o hl okl wl) (by intro h; cases h)

set_option maxRecDepth 100000 in
set_option maxHeartbeats 2000000 in
theorem ronce_v (l : List Nod) (o : orderedB l = true) (hl : l.length ≤ 1000) (okl : ∀ n ∈ l, n.Ok) (wl : ∀ n ∈ l, n.w.length ≤ 100000 ∧ n.b.length ≤ 100000) : VC Try.prog 94 ([.sl 19 (l.map nodC)]) (.sl 19 ((onceL l).map nodC)) := by
  have q1 := padK_len l l.length
  have q2 : orderedB (padK l l.length) = true := padL_ordered o
  have q3 := padK_mem o okl (fun a c ha hc hf => ha.took hc hf) l.length (Nat.le_refl _)
  have q4 := padK_mem o wl (fun a c ha hc hf => hc) l.length (Nat.le_refl _)
  have q5 := thrK_len (padK l l.length) (padK l l.length).length
  have q6 : orderedB (thrK (padK l l.length) (padK l l.length).length) = true := thrL_ordered q2
  have oz2 := (Weak.int (k := .i64) (show ((0) : Int) = ((↑0 : Int)) from (by omega)))
  have oz4 := @ronce_p ([] ++ l) (by (simp; omega)) (by (simp; omega)) (by (simp; omega)) (by (simp; omega))
  have oz7 := @ronce_t (padK ([] ++ l) ([] ++ l).length) (by (simp; omega)) (by (simp; omega)) (by (simp; omega)) (by (simp; omega))
  have oz8 := @rblock51_v (thrK (padK ([] ++ l) ([] ++ l).length) (padK ([] ++ l) ([] ++ l).length).length) (by (simp; omega))
  exact (VC.run (fn := Try.f94) (W := [.r [] [], .r [] [], .r [] [], .code [.any [0, 2, 7, 8, 9], .ren 9 900, .weak 4 (wO oz2), .blk 900 (Blk.slc 47 19 (List.map nodC (padK ([] ++ l) 0))), .sort] (Exit.exit 0) (zO oz4), .r [] [], .code [.any [4], .weak 6 (wO oz2), .blk 900 (Blk.slc 47 19 (List.map nodC (thrK (padK ([] ++ l) ([] ++ l).length) 0))), .sort] (Exit.exit 2) (zO oz7), .r [.frz 900] [.callr (rO oz8)]]) (r := AV.sl 19 (List.map nodC (pruneL (thrK (padK ([] ++ l) ([] ++ l).length) (padK ([] ++ l) ([] ++ l).length).length)))) Try.func94 (by kernel_rfl) (.c (show (0 + (List.map nodC l).length) * 168 ≤ 140737488355328 by (simp; omega)) <| .c (show 0 + (List.map nodC l).length ≤ 9223372036854775807 by (simp; omega)) <| .c oz2 <| .c (show BlkW (Blk.slc 47 19 ([] ++ List.map nodC l)) (Blk.slc 47 19 (List.map nodC (padK ([] ++ l) 0))) from (BlkW.rows (rows_to (nodC) (r := [] ++ List.map nodC l) (l := [] ++ l) (m := padK ([] ++ l) 0) (by first | (simp only [List.map_append, List.map_cons, List.map_nil, List.map_set, List.map_replicate, List.map_take, List.map_drop]; done) | rfl | (simp only [List.map_append, List.map_cons, List.map_nil, List.map_set, List.map_replicate, List.map_take, List.map_drop]; rfl) | (simp only [List.map_append, List.map_cons, List.map_nil, List.map_set, List.map_replicate, List.map_take, List.map_drop, nodC, ints]; done)) (show ([] ++ l) = (padK ([] ++ l) 0) from (by rfl))))) <| .c oz4 <| .c oz2 <| .c (show BlkW (Blk.slc 47 19 (List.map nodC (padK ([] ++ l) ([] ++ l).length))) (Blk.slc 47 19 (List.map nodC (thrK (padK ([] ++ l) ([] ++ l).length) 0))) from (BlkW.rows (rows_to (nodC) (r := List.map nodC (padK ([] ++ l) ([] ++ l).length)) (l := padK ([] ++ l) ([] ++ l).length) (m := thrK (padK ([] ++ l) ([] ++ l).length) 0) rfl (show (padK ([] ++ l) ([] ++ l).length) = (thrK (padK ([] ++ l) ([] ++ l).length) 0) from (by rfl))))) <| .c oz7 <| .c oz8 <| .n)).weak (WeakL.refl _) (Weak.rows (rows_to (nodC) (r := List.map nodC (pruneL (thrK (padK ([] ++ l) ([] ++ l).length) (padK ([] ++ l) ([] ++ l).length).length))) (l := pruneL (thrK (padK ([] ++ l) ([] ++ l).length) (padK ([] ++ l) ([] ++ l).length).length)) (m := onceL l) rfl (show (pruneL (thrK (padK ([] ++ l) ([] ++ l).length) (padK ([] ++ l) ([] ++ l).length).length)) = (onceL l) from (by rfl))))
theorem itL_w {l : List Nod} (wl : ∀ n ∈ l, n.w.length ≤ 100000 ∧ n.b.length ≤ 100000) (k : Nat) : ∀ n ∈ itL l k, n.w.length ≤ 100000 ∧ n.b.length ≤ 100000 := itL_mem wl (fun n u v _ h => h) (fun a c _ hc _ => hc) k
noncomputable def rfblk_l_I (l : List Nod) (m : Nat) (k : Nat) : VS := stt 32 [(0, .sl 19 ((itL l k).map nodC)), (8, i64 k)] []
noncomputable def rfblk_l_Z (l : List Nod) (m : Nat) : VS := stt 32 [(4, .sl 19 ((itL l m).map nodC))] []
set_option maxRecDepth 100000 in
set_option maxHeartbeats 2000000 in
theorem rfblk_l_s (l : List Nod) (m : Nat) (o : orderedB l = true) (h8 : l.length ≤ 8) (okl : ∀ n ∈ l, n.Ok) (wl : ∀ n ∈ l, n.w.length ≤ 100000 ∧ n.b.length ≤ 100000) (m40 : m < 40) (me : onceL (itL l m) = itL l m) (mk : ∀ k, k < m → onceL (itL l k) ≠ itL l k) (k : Nat) (hk : k < m) : VT Try.prog (fnC Try.f29 [1, 1, 0, 1, 0, 0]) (rfblk_l_I l m k) .normal (rfblk_l_I l m (k + 1)) := by
  have q4 := mk k hk
  have q5 := itL_le l k
  have q6 := itL_ordered o k
  have q7 := itL_ok o (by omega) okl k
  have q8 := itL_w wl k
  have q9 := onceL_le (itL l k)
  have qa := itL_w wl (k + 1)
  have oz1 := @ronce_v (itL l k) q6 (by omega) q7 q8
  have oz2 := @ralike_n (onceL (itL l k)) (itL l k) (by omega) (by omega) (by (exact qa)) q4
  exact VT.run (W := [.r [] [], .br true, .r [] [.callr (rO oz1)], .r [] [.callr (rO oz2)], .br false, .r [] [], .r [] [.n ((↑k : Int) + 1)]]) (G := [.any (rg [(9, 1), (20, 9), (30, 1)]), .weak 0 (AV.sl 19 (List.map nodC (itL l (k + 1)))), .weak 8 (i64 (↑(k + 1) : Int)), .sort]) (by kernel_rfl) (.c (decide_eq_true (p := ((↑k : Int) < 40)) (by omega)) <| .c oz1 <| .c oz2 <| .c (show false = false by with_reducible rfl) <| .c (IntWalk.i64_in ((↑k : Int) + 1) (by omega)) <| .c (show Weak (AV.sl 19 (List.map nodC (onceL (itL l k)))) (AV.sl 19 (List.map nodC (itL l (k + 1)))) from (Weak.rows (rows_to (nodC) (r := List.map nodC (onceL (itL l k))) (l := onceL (itL l k)) (m := itL l (k + 1)) rfl (show (onceL (itL l k)) = (itL l (k + 1)) from (by rfl))))) <| .c (Weak.int (k := .i64) (show (((↑k : Int) + 1) : Int) = ((↑(k + 1) : Int)) from (by omega))) <| .n)
set_option maxRecDepth 100000 in
set_option maxHeartbeats 2000000 in
theorem rfblk_l_e (l : List Nod) (m : Nat) (o : orderedB l = true) (h8 : l.length ≤ 8) (okl : ∀ n ∈ l, n.Ok) (wl : ∀ n ∈ l, n.w.length ≤ 100000 ∧ n.b.length ≤ 100000) (m40 : m < 40) (me : onceL (itL l m) = itL l m) (mk : ∀ k, k < m → onceL (itL l k) ≠ itL l k) : VT Try.prog (fnC Try.f29 [1, 1, 0, 1, 0, 0]) (rfblk_l_I l m (m)) (.ret) (rfblk_l_Z l m) := by
  have q5 := itL_le l m
  have q6 := itL_ordered o m
  have q7 := itL_ok o (by omega) okl m
  have q8 := itL_w wl m
  have qb : VC Try.prog 95 [.sl 19 ((onceL (itL l m)).map nodC), .sl 19 ((itL l m).map nodC)] (bv true) := by rw [me]; exact ralike_y _ (by omega) q8
  have oz1 := @ronce_v (itL l m) q6 (by omega) q7 q8
  have oz2 := @qb
  exact VT.run (W := [.r [] [], .br true, .r [] [.callr (rO oz1)], .r [] [.callr (rO oz2)], .br true, .r [] []]) (G := [.any (rg [(0, 1), (8, 2), (20, 2), (24, 6)]), .sort]) (by kernel_rfl) (.c (decide_eq_true (p := ((↑m : Int) < 40)) (by omega)) <| .c oz1 <| .c oz2 <| .c (show true = true by with_reducible rfl) <| .n)
theorem rfblk_l (l : List Nod) (m : Nat) (o : orderedB l = true) (h8 : l.length ≤ 8) (okl : ∀ n ∈ l, n.Ok) (wl : ∀ n ∈ l, n.w.length ≤ 100000 ∧ n.b.length ≤ 100000) (m40 : m < 40) (me : onceL (itL l m) = itL l m) (mk : ∀ k, k < m → onceL (itL l k) ≠ itL l k) : VT Try.prog (fnC Try.f29 [1, 1, 0, 1, 0]) (rfblk_l_I l m 0) (.ret) (rfblk_l_Z l m) :=
  VT.loop (fun k => rfblk_l_I l m k) (m) (fun k hk => rfblk_l_s l m o h8 okl wl m40 me mk k hk) (rfblk_l_e l m o h8 okl wl m40 me mk) (by intro h; cases h)

set_option maxRecDepth 100000 in
set_option maxHeartbeats 2000000 in
theorem rfblk_m (l : List Nod) (a : Shp) (m : Nat) (h : SOK l a) (okl : ∀ n ∈ l, n.Ok) (wl : ∀ n ∈ l, n.w.length ≤ 100000 ∧ n.b.length ≤ 100000) (m40 : m < 40) (me : onceL (itL l m) = itL l m) (mk : ∀ k, k < m → onceL (itL l k) ≠ itL l k) : VC Try.prog 29 ([.sl 19 (l.map nodC), shp a]) (.sl 19 ((itL l m).map nodC)) := by
  have q1 := h.o
  have q2 := h.f
  have q3 := h.i.ok
  have oz0 := @rshapes_y (l) (a) okl wl h
  have oz4 := @rfblk_l (l) (m) q1 q2 okl wl m40 me mk
  exact VC.run (fn := Try.f29) (W := [.r [] [], .r [] [.callr (rO oz0)], .r [] [], .br false, .r [] [], .code [.any (rg [(1, 1), (3, 5), (10, 9)]), .drop [3], .weak 0 (AV.sl 19 (List.map nodC (itL l 0))), .weak 8 (i64 (↑0 : Int)), .sort] (Exit.ret) (zO oz4)]) Try.func29 (by kernel_rfl) (.c oz0 <| .c (show false = false by with_reducible rfl) <| .c (show Weak (AV.sl 19 (List.map nodC l)) (AV.sl 19 (List.map nodC (itL l 0))) from (Weak.rows (rows_to (nodC) (r := List.map nodC l) (l := l) (m := itL l 0) rfl (show (l) = (itL l 0) from (by rfl))))) <| .c (Weak.int (k := .i64) (show ((0) : Int) = ((↑0 : Int)) from (by omega))) <| .c oz4 <| .n)
theorem rfblk_y (l : List Nod) (a : Shp) (h : SOK l a) (okl : ∀ n ∈ l, n.Ok) (wl : ∀ n ∈ l, n.w.length ≤ 100000 ∧ n.b.length ≤ 100000) : VC Try.prog 29 [.sl 19 (l.map nodC), shp a] (.sl 19 ((fuseL l).map nodC)) := by
  obtain ⟨q1, q2, q3⟩ := stop_at h.o h.f
  rw [fuseL_eq]; exact rfblk_m l a (stopK l) h okl wl q1 q2 q3
set_option maxRecDepth 100000 in
set_option maxHeartbeats 2000000 in
theorem rfblk_n (l : List Nod) (a : Shp) (hn : ¬ SOK l a) (hl : l.length ≤ 1000) (ok : a.Ok) (okl : ∀ n ∈ l, n.Ok) (wl : ∀ n ∈ l, n.w.length ≤ 100000 ∧ n.b.length ≤ 100000) : VC Try.prog 29 ([.sl 19 (l.map nodC), shp a]) (.sl 19 (l.map nodC)) := by
  have q := shapesE_n hn
  have q2 : ((shapesE l a).2 != 0) = true := by simpa using q
  have oz0 := @rshapes_n (l) (a) okl wl ok hl hn
  exact VC.run (fn := Try.f29) (W := [.r [] [], .r [] [.callr (rO oz0)], .r [] [], .br true, .r [] []]) Try.func29 (by kernel_rfl) (.c oz0 <| .c q2 <| .n)
end Go.Proofs.Ytgecmooedhnenaa

/- Several nodes as one, one time, by the program. No condition. -/
namespace Go.Proofs.Ytgecmooedhnenaa
open Go.RowKit
set_option linter.unusedSimpArgs false
set_option linter.unusedVariables false
set_option linter.unnecessarySimpa false

noncomputable def fpads_l_I (l : List Nod) (k : Nat) : VS := stt 39 [(0, .own 100000), (3, bv (padB l k)), (6, .own 100000), (7, i64 l.length), (8, i64 k)] [(100000, .slc 47 19 ((padK l k).map nodC))]
noncomputable def fpads_l_Z (l : List Nod) : VS := fpads_l_I l (l.length)
set_option maxRecDepth 100000 in
set_option maxHeartbeats 2000000 in
theorem fpads_l_s (l : List Nod) (o : orderedB l = true) (hl : l.length ≤ 1000) (okl : ∀ n ∈ l, n.Ok) (wl : ∀ n ∈ l, n.w.length ≤ 100000 ∧ n.b.length ≤ 100000) (k : Nat) (hk : k < l.length) : VT Try.prog (fnC Try.f92 [1, 1, 0, 1, 0, 0]) (fpads_l_I l k) .normal (fpads_l_I l (k + 1)) := by
  have q1 := padK_len l k
  have q2 := padK_mem o okl (fun a c ha hc hf => ha.took hc hf) k (by omega)
  have q3 := padK_mem o wl (fun a c ha hc hf => hc) k (by omega)
  have q4 := padK_get o k (by omega) k hk
  rw [if_neg (Nat.lt_irrefl k)] at q4
  have q5 := (ord_iff.1 o) k hk
  have q6 : 0 ≤ ((padK l k).getD k default).na ∧ ((padK l k).getD k default).na ≤ k := by rw [q4]; exact ⟨q5.1, q5.2.1⟩
  have q7 := getD_in q2 (i := k) (by omega)
  have q8 := getD_in q3 (i := k) (by omega)
  have q9 := fun (h : ((padK l k).getD k default).na > 0) => getD_in q2 (i := (((padK l k).getD k default).na - 1).toNat) (by omega)
  have qa := fun (h : ((padK l k).getD k default).na > 0) => getD_in q3 (i := (((padK l k).getD k default).na - 1).toNat) (by omega)
  have qb : (List.map nodC (padK l k)).length = l.length := by rw [List.length_map, q1]
  have qc : ((padK l k).getD k default).na > 0 → fitsN ((padK l k).getD (((padK l k).getD k default).na - 1).toNat default) ((padK l k).getD k default) = true → padK l (k + 1) = (padK l k).set k (tookN ((padK l k).getD (((padK l k).getD k default).na - 1).toNat default) ((padK l k).getD k default)) ∧ padB l (k + 1) = true := fun h1 h2 => by rw [padK, padN, if_pos ⟨h1, h2⟩, padB, hitP, decide_eq_true (show 0 < ((padK l k).getD k default).na from h1), h2]; simp
  have qd : ¬ (((padK l k).getD k default).na > 0 ∧ fitsN ((padK l k).getD (((padK l k).getD k default).na - 1).toNat default) ((padK l k).getD k default) = true) → padK l (k + 1) = padK l k ∧ padB l (k + 1) = padB l k := fun h1 => by
    rw [padK, padN, if_neg h1, set_self _ _ (by omega), padB]
    have : hitP (padK l k) ((padK l k).getD k default) = false := by
      cases e : hitP (padK l k) ((padK l k).getD k default) with
      | false => rfl
      | true => unfold hitP at e; simp only [Bool.and_eq_true, decide_eq_true_eq] at e; exact absurd e h1
    rw [this, Bool.or_false]; exact ⟨rfl, rfl⟩
  have oz0 := (decide_eq_true (p := ((↑k : Int) < (↑l.length : Int))) (by omega))
  have oz1 := (show 0 ≤ (↑k : Int) by omega)
  have oz2 := (show (↑k : Int) < (↑(List.map nodC (padK l k)).length : Int) by omega)
  have oz3 := (map_at (nodC) (default) (l := padK l k) (i := k) (by omega))
  have oz4 := (IntWalk.i64_in (((padK l k).getD k default).na - 1) (by omega))
  have oz5 := (show decide (((padK l k).getD k default).na > 0) = true → 0 ≤ ((padK l k).getD k default).na - 1 from (fun hc0 => have gc0 : ((padK l k).getD k default).na > 0 := (by first | exact hc0 | exact of_decide_eq_true hc0 | exact of_decide_eq_false hc0 | simpa [eqNums] using hc0 | (simp [eqNums] at hc0 ⊢; first | done | assumption | omega)); (by omega)))
  have oz6 := (show decide (((padK l k).getD k default).na > 0) = true → ((padK l k).getD k default).na - 1 < (↑(List.map nodC (padK l k)).length : Int) from (fun hc0 => have gc0 : ((padK l k).getD k default).na > 0 := (by first | exact hc0 | exact of_decide_eq_true hc0 | exact of_decide_eq_false hc0 | simpa [eqNums] using hc0 | (simp [eqNums] at hc0 ⊢; first | done | assumption | omega)); (by omega)))
  have oz7 := (map_at (nodC) (default) (l := padK l k) (i := (((padK l k).getD k default).na - 1).toNat) (by omega))
  have oz8 := (show decide (((padK l k).getD k default).na > 0) = true → VC Try.prog 151 (List.map (fun (x : Operand) => (evV (VS.mk [AV.own 100000, AV.any, AV.any, bv (padB l k), i64 (↑k : Int), AV.ptr 5 0 0, AV.own 100000, i64 (↑l.length : Int), i64 (↑k : Int), bv (decide ((↑k : Int) < (↑l.length : Int))), i64 (↑k : Int), AV.ptr 100000 (↑k : Int).toNat 0, AV.agg [i64 ((padK l k).getD k default).kd, i64 ((padK l k).getD k default).na, i64 ((padK l k).getD k default).nb, i64 ((padK l k).getD k default).nk, i64 ((padK l k).getD k default).ns, i64 ((padK l k).getD k default).np, i64 ((padK l k).getD k default).no, i8 ((padK l k).getD k default).za, i8 ((padK l k).getD k default).zb, AV.sl 1 (List.map (row1 IntKind.i8) ((padK l k).getD k default).w), AV.sl 1 (List.map (row1 IntKind.i32) ((padK l k).getD k default).b), i32 ((padK l k).getD k default).qm, i64 ((padK l k).getD k default).qs, i8 ((padK l k).getD k default).qz, i32 ((padK l k).getD k default).rm, i64 ((padK l k).getD k default).rs, i8 ((padK l k).getD k default).rz, i8 ((padK l k).getD k default).lo, i8 ((padK l k).getD k default).hi], AV.ptr 5 0 1, i64 ((padK l k).getD k default).na, bv (decide (((padK l k).getD k default).na > 0)), bv (decide (((padK l k).getD k default).na > 0)), AV.opt (decide (((padK l k).getD k default).na > 0)) 16 true (AV.own 100000), AV.opt (decide (((padK l k).getD k default).na > 0)) 16 true (AV.ptr 5 0 1), AV.opt (decide (((padK l k).getD k default).na > 0)) 16 true (i64 ((padK l k).getD k default).na), AV.opt (decide (((padK l k).getD k default).na > 0)) 16 true (i64 (((padK l k).getD k default).na - 1)), AV.opt (decide (((padK l k).getD k default).na > 0)) 16 true (AV.ptr 100000 (((padK l k).getD k default).na - 1).toNat 0), AV.opt (decide (((padK l k).getD k default).na > 0)) 16 true (AV.agg [i64 ((padK l k).getD (((padK l k).getD k default).na - 1).toNat default).kd, i64 ((padK l k).getD (((padK l k).getD k default).na - 1).toNat default).na, i64 ((padK l k).getD (((padK l k).getD k default).na - 1).toNat default).nb, i64 ((padK l k).getD (((padK l k).getD k default).na - 1).toNat default).nk, i64 ((padK l k).getD (((padK l k).getD k default).na - 1).toNat default).ns, i64 ((padK l k).getD (((padK l k).getD k default).na - 1).toNat default).np, i64 ((padK l k).getD (((padK l k).getD k default).na - 1).toNat default).no, i8 ((padK l k).getD (((padK l k).getD k default).na - 1).toNat default).za, i8 ((padK l k).getD (((padK l k).getD k default).na - 1).toNat default).zb, AV.sl 1 (List.map (row1 IntKind.i8) ((padK l k).getD (((padK l k).getD k default).na - 1).toNat default).w), AV.sl 1 (List.map (row1 IntKind.i32) ((padK l k).getD (((padK l k).getD k default).na - 1).toNat default).b), i32 ((padK l k).getD (((padK l k).getD k default).na - 1).toNat default).qm, i64 ((padK l k).getD (((padK l k).getD k default).na - 1).toNat default).qs, i8 ((padK l k).getD (((padK l k).getD k default).na - 1).toNat default).qz, i32 ((padK l k).getD (((padK l k).getD k default).na - 1).toNat default).rm, i64 ((padK l k).getD (((padK l k).getD k default).na - 1).toNat default).rs, i8 ((padK l k).getD (((padK l k).getD k default).na - 1).toNat default).rz, i8 ((padK l k).getD (((padK l k).getD k default).na - 1).toNat default).lo, i8 ((padK l k).getD (((padK l k).getD k default).na - 1).toNat default).hi]), AV.opt (decide (((padK l k).getD k default).na > 0)) 16 true (AV.agg [i64 ((padK l k).getD k default).kd, i64 ((padK l k).getD k default).na, i64 ((padK l k).getD k default).nb, i64 ((padK l k).getD k default).nk, i64 ((padK l k).getD k default).ns, i64 ((padK l k).getD k default).np, i64 ((padK l k).getD k default).no, i8 ((padK l k).getD k default).za, i8 ((padK l k).getD k default).zb, AV.sl 1 (List.map (row1 IntKind.i8) ((padK l k).getD k default).w), AV.sl 1 (List.map (row1 IntKind.i32) ((padK l k).getD k default).b), i32 ((padK l k).getD k default).qm, i64 ((padK l k).getD k default).qs, i8 ((padK l k).getD k default).qz, i32 ((padK l k).getD k default).rm, i64 ((padK l k).getD k default).rs, i8 ((padK l k).getD k default).rz, i8 ((padK l k).getD k default).lo, i8 ((padK l k).getD k default).hi]), AV.any, AV.any, AV.any, AV.any, AV.any, AV.any, AV.any, AV.any, AV.any, AV.any, AV.any, AV.any, AV.any, AV.any, AV.any] [(100000, Blk.slc 47 19 (List.map nodC (padK l k))), (5, Blk.var [i64 ((padK l k).getD k default).kd, i64 ((padK l k).getD k default).na, i64 ((padK l k).getD k default).nb, i64 ((padK l k).getD k default).nk, i64 ((padK l k).getD k default).ns, i64 ((padK l k).getD k default).np, i64 ((padK l k).getD k default).no, i8 ((padK l k).getD k default).za, i8 ((padK l k).getD k default).zb, AV.sl 1 (List.map (row1 IntKind.i8) ((padK l k).getD k default).w), AV.sl 1 (List.map (row1 IntKind.i32) ((padK l k).getD k default).b), i32 ((padK l k).getD k default).qm, i64 ((padK l k).getD k default).qs, i8 ((padK l k).getD k default).qz, i32 ((padK l k).getD k default).rm, i64 ((padK l k).getD k default).rs, i8 ((padK l k).getD k default).rz, i8 ((padK l k).getD k default).lo, i8 ((padK l k).getD k default).hi])]).t x).strip) #[Operand.tmp 22, Operand.tmp 23].toList ++ []) (bv (fitsN ((padK l k).getD (((padK l k).getD k default).na - 1).toNat default) ((padK l k).getD k default))) from (fun hc0 => have gc0 : ((padK l k).getD k default).na > 0 := (by first | exact hc0 | exact of_decide_eq_true hc0 | exact of_decide_eq_false hc0 | simpa [eqNums] using hc0 | (simp [eqNums] at hc0 ⊢; first | done | assumption | omega)); (@fits_v ((padK l k).getD (((padK l k).getD k default).na - 1).toNat default) ((padK l k).getD k default) (by (exact q9 (by omega))) q7 (by omega) (by omega) (by omega) (by omega))))
  rcases Bool.eq_false_or_eq_true (decide (((padK l k).getD k default).na > 0) && fitsN ((padK l k).getD (((padK l k).getD k default).na - 1).toNat default) ((padK l k).getD k default)) with hc0 | hc0
  · have gc0 : ((padK l k).getD k default).na > 0 ∧ fitsN ((padK l k).getD (((padK l k).getD k default).na - 1).toNat default) ((padK l k).getD k default) = true := by first | (simp only [Bool.or_eq_true, Bool.or_eq_false_iff, Bool.and_eq_true, Bool.and_eq_false_iff, Bool.not_eq_true', Bool.not_eq_false', decide_eq_true_eq, decide_eq_false_iff_not, beq_iff_eq, bne_iff_ne, ne_eq, beq_eq_false_iff_ne, bne_eq_false_iff_eq, eqNums, Bool.and_true] at hc0; first | exact hc0 | omega) | simpa using hc0 | (simp at hc0 ⊢; omega) | (apply Classical.byContradiction; intro hn; simp_all [eqNums]; done) | (apply Classical.byContradiction; intro hn; simp [eqNums] at hc0 hn; omega)
    have oz14 := @fpadded_v ((padK l k).getD (((padK l k).getD k default).na - 1).toNat default) ((padK l k).getD k default) (by (exact q9 (by omega))) q7 (by omega) (by omega) (by omega) (by omega) (by (exact (Bool.and_eq_true_iff.1 (by assumption)).2))
    exact VT.run (W := [.r [] [], .br true, .r [] [.row (sO oz3)], .r [] [.op false, .op false, .op false, .op false, .n (nO oz4), .op true, .op false, .row (sO oz7), .op false, .op true, .callr (bv (fitsN ((padK l k).getD (((padK l k).getD k default).na - 1).toNat default) ((padK l k).getD k default))), .sel 2], .br true, .r [] [.n (nO oz4), .row (sO oz7), .callr (rO oz14), .nat 0], .r [] [.n ((↑k : Int) + 1)]]) (G := [.any (rg [(4, 2), (9, 8), (25, 13)]), .drop [5], .weak 3 (bv (padB l (k + 1))), .weak 8 (i64 (↑(k + 1) : Int)), .blk 100000 (Blk.slc 47 19 (List.map nodC (padK l (k + 1)))), .sort]) (by kernel_rfl) (.c oz0 <| .c oz1 <| .c oz2 <| .c oz3 <| .c oz4 <| .c oz5 <| .c oz6 <| .c oz7 <| .c oz8 <| .c hc0 <| .c oz4 <| .c (show 0 ≤ ((padK l k).getD k default).na - 1 by omega) <| .c (show ((padK l k).getD k default).na - 1 < (↑(List.map nodC (padK l k)).length : Int) by omega) <| .c oz7 <| .c oz14 <| .c oz1 <| .c oz2 <| .c (show (↑k : Int).toNat < (List.map nodC (padK l k)).length by omega) <| .c (IntWalk.i64_in ((↑k : Int) + 1) (by omega)) <| .c (show Weak (bv true) (bv (padB l (k + 1))) from (Weak.bool (show ((true) : Bool) = (padB l (k + 1)) from (by (rw [(qc (by omega) (Bool.and_eq_true_iff.1 (by assumption)).2).2]))))) <| .c (Weak.int (k := .i64) (show (((↑k : Int) + 1) : Int) = ((↑(k + 1) : Int)) from (by omega))) <| .c (show BlkW (Blk.slc 47 19 ((List.map nodC (padK l k)).set (↑k : Int).toNat [i64 (tookN ((padK l k).getD (((padK l k).getD k default).na - 1).toNat default) ((padK l k).getD k default)).kd, i64 (tookN ((padK l k).getD (((padK l k).getD k default).na - 1).toNat default) ((padK l k).getD k default)).na, i64 (tookN ((padK l k).getD (((padK l k).getD k default).na - 1).toNat default) ((padK l k).getD k default)).nb, i64 (tookN ((padK l k).getD (((padK l k).getD k default).na - 1).toNat default) ((padK l k).getD k default)).nk, i64 (tookN ((padK l k).getD (((padK l k).getD k default).na - 1).toNat default) ((padK l k).getD k default)).ns, i64 (tookN ((padK l k).getD (((padK l k).getD k default).na - 1).toNat default) ((padK l k).getD k default)).np, i64 (tookN ((padK l k).getD (((padK l k).getD k default).na - 1).toNat default) ((padK l k).getD k default)).no, i8 (tookN ((padK l k).getD (((padK l k).getD k default).na - 1).toNat default) ((padK l k).getD k default)).za, i8 (tookN ((padK l k).getD (((padK l k).getD k default).na - 1).toNat default) ((padK l k).getD k default)).zb, AV.sl 1 (List.map (row1 IntKind.i8) (tookN ((padK l k).getD (((padK l k).getD k default).na - 1).toNat default) ((padK l k).getD k default)).w), AV.sl 1 (List.map (row1 IntKind.i32) (tookN ((padK l k).getD (((padK l k).getD k default).na - 1).toNat default) ((padK l k).getD k default)).b), i32 (tookN ((padK l k).getD (((padK l k).getD k default).na - 1).toNat default) ((padK l k).getD k default)).qm, i64 (tookN ((padK l k).getD (((padK l k).getD k default).na - 1).toNat default) ((padK l k).getD k default)).qs, i8 (tookN ((padK l k).getD (((padK l k).getD k default).na - 1).toNat default) ((padK l k).getD k default)).qz, i32 (tookN ((padK l k).getD (((padK l k).getD k default).na - 1).toNat default) ((padK l k).getD k default)).rm, i64 (tookN ((padK l k).getD (((padK l k).getD k default).na - 1).toNat default) ((padK l k).getD k default)).rs, i8 (tookN ((padK l k).getD (((padK l k).getD k default).na - 1).toNat default) ((padK l k).getD k default)).rz, i8 (tookN ((padK l k).getD (((padK l k).getD k default).na - 1).toNat default) ((padK l k).getD k default)).lo, i8 (tookN ((padK l k).getD (((padK l k).getD k default).na - 1).toNat default) ((padK l k).getD k default)).hi])) (Blk.slc 47 19 (List.map nodC (padK l (k + 1)))) from (BlkW.rows (rows_to (nodC) (r := (List.map nodC (padK l k)).set (↑k : Int).toNat [i64 (tookN ((padK l k).getD (((padK l k).getD k default).na - 1).toNat default) ((padK l k).getD k default)).kd, i64 (tookN ((padK l k).getD (((padK l k).getD k default).na - 1).toNat default) ((padK l k).getD k default)).na, i64 (tookN ((padK l k).getD (((padK l k).getD k default).na - 1).toNat default) ((padK l k).getD k default)).nb, i64 (tookN ((padK l k).getD (((padK l k).getD k default).na - 1).toNat default) ((padK l k).getD k default)).nk, i64 (tookN ((padK l k).getD (((padK l k).getD k default).na - 1).toNat default) ((padK l k).getD k default)).ns, i64 (tookN ((padK l k).getD (((padK l k).getD k default).na - 1).toNat default) ((padK l k).getD k default)).np, i64 (tookN ((padK l k).getD (((padK l k).getD k default).na - 1).toNat default) ((padK l k).getD k default)).no, i8 (tookN ((padK l k).getD (((padK l k).getD k default).na - 1).toNat default) ((padK l k).getD k default)).za, i8 (tookN ((padK l k).getD (((padK l k).getD k default).na - 1).toNat default) ((padK l k).getD k default)).zb, AV.sl 1 (List.map (row1 IntKind.i8) (tookN ((padK l k).getD (((padK l k).getD k default).na - 1).toNat default) ((padK l k).getD k default)).w), AV.sl 1 (List.map (row1 IntKind.i32) (tookN ((padK l k).getD (((padK l k).getD k default).na - 1).toNat default) ((padK l k).getD k default)).b), i32 (tookN ((padK l k).getD (((padK l k).getD k default).na - 1).toNat default) ((padK l k).getD k default)).qm, i64 (tookN ((padK l k).getD (((padK l k).getD k default).na - 1).toNat default) ((padK l k).getD k default)).qs, i8 (tookN ((padK l k).getD (((padK l k).getD k default).na - 1).toNat default) ((padK l k).getD k default)).qz, i32 (tookN ((padK l k).getD (((padK l k).getD k default).na - 1).toNat default) ((padK l k).getD k default)).rm, i64 (tookN ((padK l k).getD (((padK l k).getD k default).na - 1).toNat default) ((padK l k).getD k default)).rs, i8 (tookN ((padK l k).getD (((padK l k).getD k default).na - 1).toNat default) ((padK l k).getD k default)).rz, i8 (tookN ((padK l k).getD (((padK l k).getD k default).na - 1).toNat default) ((padK l k).getD k default)).lo, i8 (tookN ((padK l k).getD (((padK l k).getD k default).na - 1).toNat default) ((padK l k).getD k default)).hi]) (l := (padK l k).set (↑k : Int).toNat (Nod.mk (tookN ((padK l k).getD (((padK l k).getD k default).na - 1).toNat default) ((padK l k).getD k default)).kd (tookN ((padK l k).getD (((padK l k).getD k default).na - 1).toNat default) ((padK l k).getD k default)).na (tookN ((padK l k).getD (((padK l k).getD k default).na - 1).toNat default) ((padK l k).getD k default)).nb (tookN ((padK l k).getD (((padK l k).getD k default).na - 1).toNat default) ((padK l k).getD k default)).nk (tookN ((padK l k).getD (((padK l k).getD k default).na - 1).toNat default) ((padK l k).getD k default)).ns (tookN ((padK l k).getD (((padK l k).getD k default).na - 1).toNat default) ((padK l k).getD k default)).np (tookN ((padK l k).getD (((padK l k).getD k default).na - 1).toNat default) ((padK l k).getD k default)).no (tookN ((padK l k).getD (((padK l k).getD k default).na - 1).toNat default) ((padK l k).getD k default)).za (tookN ((padK l k).getD (((padK l k).getD k default).na - 1).toNat default) ((padK l k).getD k default)).zb (tookN ((padK l k).getD (((padK l k).getD k default).na - 1).toNat default) ((padK l k).getD k default)).w (tookN ((padK l k).getD (((padK l k).getD k default).na - 1).toNat default) ((padK l k).getD k default)).b (tookN ((padK l k).getD (((padK l k).getD k default).na - 1).toNat default) ((padK l k).getD k default)).qm (tookN ((padK l k).getD (((padK l k).getD k default).na - 1).toNat default) ((padK l k).getD k default)).qs (tookN ((padK l k).getD (((padK l k).getD k default).na - 1).toNat default) ((padK l k).getD k default)).qz (tookN ((padK l k).getD (((padK l k).getD k default).na - 1).toNat default) ((padK l k).getD k default)).rm (tookN ((padK l k).getD (((padK l k).getD k default).na - 1).toNat default) ((padK l k).getD k default)).rs (tookN ((padK l k).getD (((padK l k).getD k default).na - 1).toNat default) ((padK l k).getD k default)).rz (tookN ((padK l k).getD (((padK l k).getD k default).na - 1).toNat default) ((padK l k).getD k default)).lo (tookN ((padK l k).getD (((padK l k).getD k default).na - 1).toNat default) ((padK l k).getD k default)).hi)) (m := padK l (k + 1)) (by first | (simp only [List.map_append, List.map_cons, List.map_nil, List.map_set, List.map_replicate, List.map_take, List.map_drop]; done) | rfl | (simp only [List.map_append, List.map_cons, List.map_nil, List.map_set, List.map_replicate, List.map_take, List.map_drop]; rfl) | (simp only [List.map_append, List.map_cons, List.map_nil, List.map_set, List.map_replicate, List.map_take, List.map_drop, nodC, ints]; done)) (show ((padK l k).set (↑k : Int).toNat (Nod.mk (tookN ((padK l k).getD (((padK l k).getD k default).na - 1).toNat default) ((padK l k).getD k default)).kd (tookN ((padK l k).getD (((padK l k).getD k default).na - 1).toNat default) ((padK l k).getD k default)).na (tookN ((padK l k).getD (((padK l k).getD k default).na - 1).toNat default) ((padK l k).getD k default)).nb (tookN ((padK l k).getD (((padK l k).getD k default).na - 1).toNat default) ((padK l k).getD k default)).nk (tookN ((padK l k).getD (((padK l k).getD k default).na - 1).toNat default) ((padK l k).getD k default)).ns (tookN ((padK l k).getD (((padK l k).getD k default).na - 1).toNat default) ((padK l k).getD k default)).np (tookN ((padK l k).getD (((padK l k).getD k default).na - 1).toNat default) ((padK l k).getD k default)).no (tookN ((padK l k).getD (((padK l k).getD k default).na - 1).toNat default) ((padK l k).getD k default)).za (tookN ((padK l k).getD (((padK l k).getD k default).na - 1).toNat default) ((padK l k).getD k default)).zb (tookN ((padK l k).getD (((padK l k).getD k default).na - 1).toNat default) ((padK l k).getD k default)).w (tookN ((padK l k).getD (((padK l k).getD k default).na - 1).toNat default) ((padK l k).getD k default)).b (tookN ((padK l k).getD (((padK l k).getD k default).na - 1).toNat default) ((padK l k).getD k default)).qm (tookN ((padK l k).getD (((padK l k).getD k default).na - 1).toNat default) ((padK l k).getD k default)).qs (tookN ((padK l k).getD (((padK l k).getD k default).na - 1).toNat default) ((padK l k).getD k default)).qz (tookN ((padK l k).getD (((padK l k).getD k default).na - 1).toNat default) ((padK l k).getD k default)).rm (tookN ((padK l k).getD (((padK l k).getD k default).na - 1).toNat default) ((padK l k).getD k default)).rs (tookN ((padK l k).getD (((padK l k).getD k default).na - 1).toNat default) ((padK l k).getD k default)).rz (tookN ((padK l k).getD (((padK l k).getD k default).na - 1).toNat default) ((padK l k).getD k default)).lo (tookN ((padK l k).getD (((padK l k).getD k default).na - 1).toNat default) ((padK l k).getD k default)).hi)) = (padK l (k + 1)) from (by (simp_all; done)))))) <| .n)
  · have gc0 : ¬((padK l k).getD k default).na > 0 ∨ fitsN ((padK l k).getD (((padK l k).getD k default).na - 1).toNat default) ((padK l k).getD k default) = false := by first | (simp only [Bool.or_eq_true, Bool.or_eq_false_iff, Bool.and_eq_true, Bool.and_eq_false_iff, Bool.not_eq_true', Bool.not_eq_false', decide_eq_true_eq, decide_eq_false_iff_not, beq_iff_eq, bne_iff_ne, ne_eq, beq_eq_false_iff_ne, bne_eq_false_iff_eq, eqNums, Bool.and_true] at hc0; first | exact hc0 | omega) | simpa using hc0 | (simp at hc0 ⊢; omega) | (apply Classical.byContradiction; intro hn; simp_all [eqNums]; done) | (apply Classical.byContradiction; intro hn; simp [eqNums] at hc0 hn; omega)
    exact VT.run (W := [.r [] [], .br true, .r [] [.row (sO oz3)], .r [] [.op false, .op false, .op false, .op false, .n (nO oz4), .op true, .op false, .row (sO oz7), .op false, .op true, .callr (bv (fitsN ((padK l k).getD (((padK l k).getD k default).na - 1).toNat default) ((padK l k).getD k default))), .sel 2], .br false, .r [] [.n ((↑k : Int) + 1)]]) (G := [.any (rg [(4, 2), (9, 8), (25, 1), (37, 1)]), .drop [5], .weak 3 (bv (padB l (k + 1))), .weak 8 (i64 (↑(k + 1) : Int)), .blk 100000 (Blk.slc 47 19 (List.map nodC (padK l (k + 1)))), .sort]) (by kernel_rfl) (.c oz0 <| .c oz1 <| .c oz2 <| .c oz3 <| .c oz4 <| .c oz5 <| .c oz6 <| .c oz7 <| .c oz8 <| .c hc0 <| .c (IntWalk.i64_in ((↑k : Int) + 1) (by omega)) <| .c (show Weak (bv (padB l k)) (bv (padB l (k + 1))) from (Weak.bool (show ((padB l k) : Bool) = (padB l (k + 1)) from (by (rw [(qd (by rintro ⟨h1, h2⟩; simp_all)).2]))))) <| .c (Weak.int (k := .i64) (show (((↑k : Int) + 1) : Int) = ((↑(k + 1) : Int)) from (by omega))) <| .c (show BlkW (Blk.slc 47 19 (List.map nodC (padK l k))) (Blk.slc 47 19 (List.map nodC (padK l (k + 1)))) from (BlkW.rows (rows_to (nodC) (r := List.map nodC (padK l k)) (l := padK l k) (m := padK l (k + 1)) rfl (show (padK l k) = (padK l (k + 1)) from (by (rw [(qd (by rintro ⟨h1, h2⟩; simp_all)).1])))))) <| .n)
set_option maxRecDepth 100000 in
set_option maxHeartbeats 2000000 in
theorem fpads_l_e (l : List Nod) (o : orderedB l = true) (hl : l.length ≤ 1000) (okl : ∀ n ∈ l, n.Ok) (wl : ∀ n ∈ l, n.w.length ≤ 100000 ∧ n.b.length ≤ 100000) : VT Try.prog (fnC Try.f92 [1, 1, 0, 1, 0, 0]) (fpads_l_I l (l.length)) (.exit 0) (fpads_l_Z l) := by
  have qb : (List.map nodC (padK l l.length)).length = l.length := by rw [List.length_map, padK_len]
  exact VT.run (W := [.r [] [], .br false]) (G := [.any [9], .sort]) (by kernel_rfl) (.c (decide_eq_false (p := ((↑l.length : Int) < (↑l.length : Int))) (by omega)) <| .n)
theorem fpads_l (l : List Nod) (o : orderedB l = true) (hl : l.length ≤ 1000) (okl : ∀ n ∈ l, n.Ok) (wl : ∀ n ∈ l, n.w.length ≤ 100000 ∧ n.b.length ≤ 100000) : VT Try.prog (fnC Try.f92 [1, 1, 0, 1, 0]) (fpads_l_I l 0) (.exit 0) (fpads_l_Z l) :=
  VT.loop (fun k => fpads_l_I l k) (l.length) (fun k hk => fpads_l_s l o hl okl wl k hk) (fpads_l_e l o hl okl wl) (by intro h; cases h)

set_option maxRecDepth 100000 in
set_option maxHeartbeats 2000000 in
theorem fpads_v (l : List Nod) (o : orderedB l = true) (hl : l.length ≤ 1000) (okl : ∀ n ∈ l, n.Ok) (wl : ∀ n ∈ l, n.w.length ≤ 100000 ∧ n.b.length ≤ 100000) : VM Try.prog 92 ([.own 100000]) ([(100000, .slc 47 19 (l.map nodC))]) (bv (padB l l.length)) ([(100000, .slc 47 19 ((padK l l.length).map nodC))]) := by
  have qb : (List.map nodC l).length = l.length := List.length_map _
  have oz4 := @fpads_l (l) o hl okl wl
  exact VM.run (fn := Try.f92) (W := [.r [] [], .r [] [], .r [] [], .code [.any [2], .weak 3 (bv (padB l 0)), .weak 7 (i64 (↑l.length : Int)), .weak 8 (i64 (↑0 : Int)), .blk 100000 (Blk.slc 47 19 (List.map nodC (padK l 0))), .sort] (Exit.exit 0) (zO oz4), .r [] []]) (G := [.sort]) Try.func92 (by kernel_rfl) (.c (show Weak (bv false) (bv (padB l 0)) from (Weak.bool (show ((false) : Bool) = (padB l 0) from (by rfl)))) <| .c (Weak.int (k := .i64) (show (((↑(List.map nodC l).length : Int)) : Int) = ((↑l.length : Int)) from (by omega))) <| .c (Weak.int (k := .i64) (show ((0) : Int) = ((↑0 : Int)) from (by omega))) <| .c (show BlkW (Blk.slc 47 19 (List.map nodC l)) (Blk.slc 47 19 (List.map nodC (padK l 0))) from (BlkW.rows (rows_to (nodC) (r := List.map nodC l) (l := l) (m := padK l 0) rfl (show (l) = (padK l 0) from (by rfl))))) <| .c oz4 <| .n)
end Go.Proofs.Ytgecmooedhnenaa

/- What changes nothing is passed by, by the program. No condition. -/
namespace Go.Proofs.Ytgecmooedhnenaa
open Go.RowKit
set_option linter.unusedSimpArgs false
set_option linter.unusedVariables false
set_option linter.unnecessarySimpa false

theorem setA_self {L : List Nod} {i : Nat} (hi : i < L.length) : setA L i (L.getD i default).na = L := set_self L i hi
theorem setB_self {L : List Nod} {i : Nat} (hi : i < L.length) : setB L i (L.getD i default).nb = L := set_self L i hi
theorem setB_at {L : List Nod} {i : Nat} (hi : i < L.length) (u : Int) : (setB L i u).getD i default = { L.getD i default with nb := u } := by rw [getD_setN _ _ _ _ hi, if_pos rfl]
theorem setB_o {L : List Nod} {i j : Nat} (hi : i < L.length) (u : Int) (h : i ≠ j) : (setB L i u).getD j default = L.getD j default := by rw [getD_setN _ _ _ _ hi, if_neg h]
theorem skipA_step {L : List Nod} {i : Nat} (hi : i < L.length) {u : Int} (h0 : 0 < u) (h1 : u ≤ i) :
    (setA L i u).set i { (setA L i u).getD i default with na := ((setA L i u).getD (((setA L i u).getD i default).na - 1).toNat default).na } = setA L i (L.getD (u - 1).toNat default).na := by
  rw [setA_at hi]
  dsimp only
  rw [setA_o hi u (by omega), List.set_set]
theorem skipB_step {L : List Nod} {i : Nat} (hi : i < L.length) {u : Int} (h0 : 0 < u) (h1 : u ≤ i) :
    (setB L i u).set i { (setB L i u).getD i default with nb := ((setB L i u).getD (((setB L i u).getD i default).nb - 1).toNat default).na } = setB L i (L.getD (u - 1).toNat default).na := by
  rw [setB_at hi]
  dsimp only
  rw [setB_o hi u (by omega), List.set_set]
theorem setB_len (L : List Nod) (i : Nat) (u : Int) : (setB L i u).length = L.length := List.length_set
/-- k steps behind: the list, and whether something has changed. -/
def setAK (L : List Nod) (i : Nat) : Nat → List Nod
  | 0 => L
  | k + 1 => setA L i (itV L (L.getD i default).na (k + 1))
def setBK (L : List Nod) (i : Nat) : Nat → List Nod
  | 0 => L
  | k + 1 => setB L i (itV L (L.getD i default).nb (k + 1))
def flagK (c : Bool) : Nat → Bool
  | 0 => c
  | _ + 1 => true
theorem setAK_eq {L : List Nod} {i : Nat} (hi : i < L.length) : ∀ k, setAK L i k = setA L i (itV L (L.getD i default).na k)
  | 0 => (setA_self hi).symm
  | _ + 1 => rfl
theorem setBK_eq {L : List Nod} {i : Nat} (hi : i < L.length) : ∀ k, setBK L i k = setB L i (itV L (L.getD i default).nb k)
  | 0 => (setB_self hi).symm
  | _ + 1 => rfl
theorem flagK_eq (c : Bool) : ∀ k, flagK c k = (c || decide (0 < k))
  | 0 => by simp [flagK]
  | k + 1 => by simp [flagK]
structure SkOk (L : List Nod) (i : Nat) (v : Int) (m : Nat) : Prop where
  hi : i < L.length
  hl : L.length ≤ 1000
  p : PastRun L v m
  v1 : v ≤ i
  ok : ∀ n ∈ L, n.Ok
  wl : ∀ n ∈ L, n.w.length ≤ 100000 ∧ n.b.length ≤ 100000
noncomputable def skipA_l_I (L : List Nod) (i m : Nat) (c : Bool) (k : Nat) : VS := stt 28 [(0, .ptr 100000 i 1), (1, .ptr 100001 0 0), (2, .ptr 100002 0 0)] [(100000, .slc 47 19 ((setAK L i k).map nodC)), (100001, .var [.own 100000]), (100002, .var [bv (flagK c k)])]
noncomputable def skipA_l_Z (L : List Nod) (i m : Nat) (c : Bool) : VS := skipA_l_I L i m c (m)
set_option maxRecDepth 100000 in
set_option maxHeartbeats 2000000 in
theorem skipA_l_s (L : List Nod) (i m : Nat) (c : Bool) (h : SkOk L i (L.getD i default).na m) (k : Nat) (hk : k < m) : VT Try.prog (fnC Try.f153 [0, 0]) (skipA_l_I L i m c k) .normal (skipA_l_I L i m c (k + 1)) := by
  obtain ⟨h1, h2, h3, h4, h5, h6⟩ := id h
  have b1 := h3.b k (by omega)
  have y1 := h3.y k hk
  simp only [Bool.and_eq_true, decide_eq_true_eq] at y1
  have e0 := setAK_eq h1 k
  have e1 : ((setAK L i k).getD i default).na = itV L (L.getD i default).na k := by rw [e0, setA_at h1]
  have e2 : (setAK L i k).getD (((setAK L i k).getD i default).na - 1).toNat default = L.getD (itV L (L.getD i default).na k - 1).toNat default := by rw [e1, e0, setA_o h1 _ (by omega)]
  have e3 : sameN ((setAK L i k).getD (((setAK L i k).getD i default).na - 1).toNat default) = true := by rw [e2]; exact y1.2
  have e4 : ((setAK L i k).getD (((setAK L i k).getD i default).na - 1).toNat default).Ok := by rw [e2]; exact getD_in h5 (by omega)
  have e5 : ((setAK L i k).getD (((setAK L i k).getD i default).na - 1).toNat default).w.length ≤ 100000 := by rw [e2]; exact (getD_in h6 (by omega)).1
  have e6 : ((setAK L i k).getD (((setAK L i k).getD i default).na - 1).toNat default).b.length ≤ 100000 := by rw [e2]; exact (getD_in h6 (by omega)).2
  have e7 : (setAK L i k).length = L.length := by rw [e0, setA_len]
  have e8 : (setAK L i k).set i { (setAK L i k).getD i default with na := ((setAK L i k).getD (((setAK L i k).getD i default).na - 1).toNat default).na } = setAK L i (k + 1) := by rw [e0]; exact skipA_step h1 y1.1 (show itV L (L.getD i default).na k ≤ i by omega)
  have e9 : (List.map nodC (setAK L i k)).length = L.length := by rw [List.length_map, e7]
  have oz0 := (map_at (nodC) (default) (l := setAK L i k) (i := i) (by omega))
  have oz1 := (decide_eq_true (p := (((setAK L i k).getD i default).na > 0)) (by omega))
  have oz7 := (IntWalk.i64_in (((setAK L i k).getD i default).na - 1) (by omega))
  have oz9 := (show 0 ≤ ((setAK L i k).getD i default).na - 1 by omega)
  have oz10 := (show ((setAK L i k).getD i default).na - 1 < (↑(List.map nodC (setAK L i k)).length : Int) by omega)
  have oz12 := (map_at (nodC) (default) (l := setAK L i k) (i := (((setAK L i k).getD i default).na - 1).toNat) (by omega))
  have oz14 := @fsame_v ((setAK L i k).getD (((setAK L i k).getD i default).na - 1).toNat default) e4 e5 e6
  exact VT.run (W := [.r [] [.row (sO oz0), .br true, .br true, .br true, .br true, .row (sO oz0), .br true, .n (nO oz7), .br true, .br true, .row (sO oz12), .br true, .callr (rO oz14), .br true], .br true, .r [] [.row (sO oz0), .n (nO oz7), .row (sO oz12), .row (sO oz0)]]) (G := [.any (rg [(4, 24)]), .blk 100000 (Blk.slc 47 19 (List.map nodC (setAK L i (k + 1)))), .blk 100002 (Blk.var [bv (flagK c (k + 1))]), .sort]) (by kernel_rfl) (.c oz0 <| .c oz1 <| .c oz1 <| .c oz1 <| .c oz1 <| .c oz0 <| .c oz1 <| .c oz7 <| .c oz1 <| .c oz9 <| .c oz10 <| .c oz1 <| .c oz12 <| .c oz1 <| .c oz14 <| .c oz1 <| .c e3 <| .c oz0 <| .c oz7 <| .c oz9 <| .c oz10 <| .c oz12 <| .c oz0 <| .c (show BlkW (Blk.slc 47 19 ((List.map nodC (setAK L i k)).set i [i64 ((setAK L i k).getD i default).kd, i64 ((setAK L i k).getD (((setAK L i k).getD i default).na - 1).toNat default).na, i64 ((setAK L i k).getD i default).nb, i64 ((setAK L i k).getD i default).nk, i64 ((setAK L i k).getD i default).ns, i64 ((setAK L i k).getD i default).np, i64 ((setAK L i k).getD i default).no, i8 ((setAK L i k).getD i default).za, i8 ((setAK L i k).getD i default).zb, AV.sl 1 (List.map (row1 IntKind.i8) ((setAK L i k).getD i default).w), AV.sl 1 (List.map (row1 IntKind.i32) ((setAK L i k).getD i default).b), i32 ((setAK L i k).getD i default).qm, i64 ((setAK L i k).getD i default).qs, i8 ((setAK L i k).getD i default).qz, i32 ((setAK L i k).getD i default).rm, i64 ((setAK L i k).getD i default).rs, i8 ((setAK L i k).getD i default).rz, i8 ((setAK L i k).getD i default).lo, i8 ((setAK L i k).getD i default).hi])) (Blk.slc 47 19 (List.map nodC (setAK L i (k + 1)))) from (BlkW.rows (rows_to (nodC) (r := (List.map nodC (setAK L i k)).set i [i64 ((setAK L i k).getD i default).kd, i64 ((setAK L i k).getD (((setAK L i k).getD i default).na - 1).toNat default).na, i64 ((setAK L i k).getD i default).nb, i64 ((setAK L i k).getD i default).nk, i64 ((setAK L i k).getD i default).ns, i64 ((setAK L i k).getD i default).np, i64 ((setAK L i k).getD i default).no, i8 ((setAK L i k).getD i default).za, i8 ((setAK L i k).getD i default).zb, AV.sl 1 (List.map (row1 IntKind.i8) ((setAK L i k).getD i default).w), AV.sl 1 (List.map (row1 IntKind.i32) ((setAK L i k).getD i default).b), i32 ((setAK L i k).getD i default).qm, i64 ((setAK L i k).getD i default).qs, i8 ((setAK L i k).getD i default).qz, i32 ((setAK L i k).getD i default).rm, i64 ((setAK L i k).getD i default).rs, i8 ((setAK L i k).getD i default).rz, i8 ((setAK L i k).getD i default).lo, i8 ((setAK L i k).getD i default).hi]) (l := (setAK L i k).set i (Nod.mk ((setAK L i k).getD i default).kd ((setAK L i k).getD (((setAK L i k).getD i default).na - 1).toNat default).na ((setAK L i k).getD i default).nb ((setAK L i k).getD i default).nk ((setAK L i k).getD i default).ns ((setAK L i k).getD i default).np ((setAK L i k).getD i default).no ((setAK L i k).getD i default).za ((setAK L i k).getD i default).zb ((setAK L i k).getD i default).w ((setAK L i k).getD i default).b ((setAK L i k).getD i default).qm ((setAK L i k).getD i default).qs ((setAK L i k).getD i default).qz ((setAK L i k).getD i default).rm ((setAK L i k).getD i default).rs ((setAK L i k).getD i default).rz ((setAK L i k).getD i default).lo ((setAK L i k).getD i default).hi)) (m := setAK L i (k + 1)) (by first | (simp only [List.map_append, List.map_cons, List.map_nil, List.map_set, List.map_replicate, List.map_take, List.map_drop]; done) | rfl | (simp only [List.map_append, List.map_cons, List.map_nil, List.map_set, List.map_replicate, List.map_take, List.map_drop]; rfl) | (simp only [List.map_append, List.map_cons, List.map_nil, List.map_set, List.map_replicate, List.map_take, List.map_drop, nodC, ints]; done)) (show ((setAK L i k).set i (Nod.mk ((setAK L i k).getD i default).kd ((setAK L i k).getD (((setAK L i k).getD i default).na - 1).toNat default).na ((setAK L i k).getD i default).nb ((setAK L i k).getD i default).nk ((setAK L i k).getD i default).ns ((setAK L i k).getD i default).np ((setAK L i k).getD i default).no ((setAK L i k).getD i default).za ((setAK L i k).getD i default).zb ((setAK L i k).getD i default).w ((setAK L i k).getD i default).b ((setAK L i k).getD i default).qm ((setAK L i k).getD i default).qs ((setAK L i k).getD i default).qz ((setAK L i k).getD i default).rm ((setAK L i k).getD i default).rs ((setAK L i k).getD i default).rz ((setAK L i k).getD i default).lo ((setAK L i k).getD i default).hi)) = (setAK L i (k + 1)) from e8)))) <| .c (show BlkW (Blk.var [bv true]) (Blk.var [bv (flagK c (k + 1))]) from (BlkW.var (.cons (Weak.bool (show ((true) : Bool) = (flagK c (k + 1)) from (by rfl))) .nil))) <| .n)
set_option maxRecDepth 100000 in
set_option maxHeartbeats 2000000 in
theorem skipA_l_e (L : List Nod) (i m : Nat) (c : Bool) (h : SkOk L i (L.getD i default).na m) : VT Try.prog (fnC Try.f153 [0, 0]) (skipA_l_I L i m c (m)) (.exit 0) (skipA_l_Z L i m c) := by
  obtain ⟨h1, h2, h3, h4, h5, h6⟩ := id h
  have b1 := h3.b m (Nat.le_refl _)
  have y1 := h3.n
  have e0 := setAK_eq h1 m
  have e1 : ((setAK L i m).getD i default).na = itV L (L.getD i default).na m := by rw [e0, setA_at h1]
  have e2 : ((setAK L i m).getD i default).na > 0 → (setAK L i m).getD (((setAK L i m).getD i default).na - 1).toNat default = L.getD (itV L (L.getD i default).na m - 1).toNat default := fun h => by rw [e1, e0, setA_o h1 _ (by omega)]
  have e3 : ((setAK L i m).getD i default).na > 0 → sameN ((setAK L i m).getD (((setAK L i m).getD i default).na - 1).toNat default) = false := fun h => by rw [e2 h]; rw [e1] at h; rw [decide_eq_true h, Bool.true_and] at y1; exact y1
  have e4 : ((setAK L i m).getD i default).na > 0 → ((setAK L i m).getD (((setAK L i m).getD i default).na - 1).toNat default).Ok := fun h => by rw [e2 h]; exact getD_in h5 (by omega)
  have e5 : ((setAK L i m).getD i default).na > 0 → ((setAK L i m).getD (((setAK L i m).getD i default).na - 1).toNat default).w.length ≤ 100000 := fun h => by rw [e2 h]; exact (getD_in h6 (by omega)).1
  have e6 : ((setAK L i m).getD i default).na > 0 → ((setAK L i m).getD (((setAK L i m).getD i default).na - 1).toNat default).b.length ≤ 100000 := fun h => by rw [e2 h]; exact (getD_in h6 (by omega)).2
  have e7 : (setAK L i m).length = L.length := by rw [e0, setA_len]
  have e9 : (List.map nodC (setAK L i m)).length = L.length := by rw [List.length_map, e7]
  have oz0 := (map_at (nodC) (default) (l := setAK L i m) (i := i) (by omega))
  have oz2 := (IntWalk.i64_in (((setAK L i m).getD i default).na - 1) (by omega))
  have oz5 := (map_at (nodC) (default) (l := setAK L i m) (i := (((setAK L i m).getD i default).na - 1).toNat) (by omega))
  exact VT.run (W := [.r [] [.row (sO oz0), .op false, .op false, .op false, .op false, .row (sO oz0), .op false, .n (nO oz2), .op true, .op false, .row (sO oz5), .op true, .callr (bv (sameN ((setAK L i m).getD (((setAK L i m).getD i default).na - 1).toNat default))), .sel 2], .br false]) (G := [.any (rg [(4, 14)]), .sort]) (by kernel_rfl) (.c oz0 <| .c oz0 <| .c oz2 <| .c (show decide (((setAK L i m).getD i default).na > 0) = true → 0 ≤ ((setAK L i m).getD i default).na - 1 from (fun hc0 => have gc0 : ((setAK L i m).getD i default).na > 0 := (by first | exact hc0 | exact of_decide_eq_true hc0 | exact of_decide_eq_false hc0 | simpa [eqNums] using hc0 | (simp [eqNums] at hc0 ⊢; first | done | assumption | omega)); (by omega))) <| .c (show decide (((setAK L i m).getD i default).na > 0) = true → ((setAK L i m).getD i default).na - 1 < (↑(List.map nodC (setAK L i m)).length : Int) from (fun hc0 => have gc0 : ((setAK L i m).getD i default).na > 0 := (by first | exact hc0 | exact of_decide_eq_true hc0 | exact of_decide_eq_false hc0 | simpa [eqNums] using hc0 | (simp [eqNums] at hc0 ⊢; first | done | assumption | omega)); (by omega))) <| .c oz5 <| .c (show decide (((setAK L i m).getD i default).na > 0) = true → VC Try.prog 89 (List.map (fun (x : Operand) => (evV (VS.mk [AV.ptr 100000 i 1, AV.ptr 100001 0 0, AV.ptr 100002 0 0, AV.any, AV.ptr 100000 i 1, AV.ptr 100000 i 1, i64 ((setAK L i m).getD i default).na, bv (decide (((setAK L i m).getD i default).na > 0)), bv (decide (((setAK L i m).getD i default).na > 0)), AV.opt (decide (((setAK L i m).getD i default).na > 0)) 8 true (AV.own 100000), AV.opt (decide (((setAK L i m).getD i default).na > 0)) 8 true (AV.ptr 100000 i 1), AV.opt (decide (((setAK L i m).getD i default).na > 0)) 8 true (AV.ptr 100000 i 1), AV.opt (decide (((setAK L i m).getD i default).na > 0)) 8 true (i64 ((setAK L i m).getD i default).na), AV.opt (decide (((setAK L i m).getD i default).na > 0)) 8 true (i64 (((setAK L i m).getD i default).na - 1)), AV.opt (decide (((setAK L i m).getD i default).na > 0)) 8 true (AV.ptr 100000 (((setAK L i m).getD i default).na - 1).toNat 0), AV.opt (decide (((setAK L i m).getD i default).na > 0)) 8 true (AV.agg [i64 ((setAK L i m).getD (((setAK L i m).getD i default).na - 1).toNat default).kd, i64 ((setAK L i m).getD (((setAK L i m).getD i default).na - 1).toNat default).na, i64 ((setAK L i m).getD (((setAK L i m).getD i default).na - 1).toNat default).nb, i64 ((setAK L i m).getD (((setAK L i m).getD i default).na - 1).toNat default).nk, i64 ((setAK L i m).getD (((setAK L i m).getD i default).na - 1).toNat default).ns, i64 ((setAK L i m).getD (((setAK L i m).getD i default).na - 1).toNat default).np, i64 ((setAK L i m).getD (((setAK L i m).getD i default).na - 1).toNat default).no, i8 ((setAK L i m).getD (((setAK L i m).getD i default).na - 1).toNat default).za, i8 ((setAK L i m).getD (((setAK L i m).getD i default).na - 1).toNat default).zb, AV.sl 1 (List.map (row1 IntKind.i8) ((setAK L i m).getD (((setAK L i m).getD i default).na - 1).toNat default).w), AV.sl 1 (List.map (row1 IntKind.i32) ((setAK L i m).getD (((setAK L i m).getD i default).na - 1).toNat default).b), i32 ((setAK L i m).getD (((setAK L i m).getD i default).na - 1).toNat default).qm, i64 ((setAK L i m).getD (((setAK L i m).getD i default).na - 1).toNat default).qs, i8 ((setAK L i m).getD (((setAK L i m).getD i default).na - 1).toNat default).qz, i32 ((setAK L i m).getD (((setAK L i m).getD i default).na - 1).toNat default).rm, i64 ((setAK L i m).getD (((setAK L i m).getD i default).na - 1).toNat default).rs, i8 ((setAK L i m).getD (((setAK L i m).getD i default).na - 1).toNat default).rz, i8 ((setAK L i m).getD (((setAK L i m).getD i default).na - 1).toNat default).lo, i8 ((setAK L i m).getD (((setAK L i m).getD i default).na - 1).toNat default).hi]), AV.any, AV.any, AV.any, AV.any, AV.any, AV.any, AV.any, AV.any, AV.any, AV.any, AV.any, AV.any] [(100000, Blk.slc 47 19 (List.map nodC (setAK L i m))), (100001, Blk.var [AV.own 100000]), (100002, Blk.var [bv (flagK c m)])]).t x).strip) #[Operand.tmp 15].toList ++ []) (bv (sameN ((setAK L i m).getD (((setAK L i m).getD i default).na - 1).toNat default))) from (fun hc0 => have gc0 : ((setAK L i m).getD i default).na > 0 := (by first | exact hc0 | exact of_decide_eq_true hc0 | exact of_decide_eq_false hc0 | simpa [eqNums] using hc0 | (simp [eqNums] at hc0 ⊢; first | done | assumption | omega)); (@fsame_v ((setAK L i m).getD (((setAK L i m).getD i default).na - 1).toNat default) (by (exact e4 (by omega))) (by omega) (by omega)))) <| .c (show (decide (((setAK L i m).getD i default).na > 0) && sameN ((setAK L i m).getD (((setAK L i m).getD i default).na - 1).toNat default)) = false by (simp at *; omega)) <| .n)
theorem skipA_l (L : List Nod) (i m : Nat) (c : Bool) (h : SkOk L i (L.getD i default).na m) : VT Try.prog (fnC Try.f153 [0]) (skipA_l_I L i m c 0) (.exit 0) (skipA_l_Z L i m c) :=
  VT.loop (fun k => skipA_l_I L i m c k) (m) (fun k hk => skipA_l_s L i m c h k hk) (skipA_l_e L i m c h) (by intro h; cases h)

set_option maxRecDepth 100000 in
set_option maxHeartbeats 2000000 in
theorem skipA_w (L : List Nod) (i m : Nat) (c : Bool) (h : SkOk L i (L.getD i default).na m) : VM Try.prog 153 ([.ptr 100000 i 1, .ptr 100001 0 0, .ptr 100002 0 0]) ([(100000, .slc 47 19 (L.map nodC)), (100001, .var [.own 100000]), (100002, .var [bv c])]) (.tup []) ([(100000, .slc 47 19 ((setAK L i m).map nodC)), (100001, .var [.own 100000]), (100002, .var [bv (flagK c m)])]) := by
  have oz1 := @skipA_l (L) (i) (m) (c) h
  exact VM.run (fn := Try.f153) (W := [.code [.blk 100000 (Blk.slc 47 19 (List.map nodC (setAK L i 0))), .sort] (Exit.exit 0) (zO oz1)]) (G := [.sort]) Try.func153 (by kernel_rfl) (.c (show BlkW (Blk.slc 47 19 (List.map nodC L)) (Blk.slc 47 19 (List.map nodC (setAK L i 0))) from (BlkW.rows (rows_to (nodC) (r := List.map nodC L) (l := L) (m := setAK L i 0) rfl (show (L) = (setAK L i 0) from (by rfl))))) <| .c oz1 <| .n)
theorem skipA_v (L : List Nod) (i : Nat) (c : Bool) (hi : i < L.length) (hl : L.length ≤ 1000) (d : Desc L L.length) (v0 : 0 ≤ (L.getD i default).na) (v1 : (L.getD i default).na ≤ i) (ok : ∀ n ∈ L, n.Ok) (wl : ∀ n ∈ L, n.w.length ≤ 100000 ∧ n.b.length ≤ 100000) :
    VM Try.prog 153 [.ptr 100000 i 1, .ptr 100001 0 0, .ptr 100002 0 0] [(100000, .slc 47 19 (L.map nodC)), (100001, .var [.own 100000]), (100002, .var [bv c])] (.tup [])
      [(100000, .slc 47 19 ((setA L i (pastV L (L.getD i default).na)).map nodC)), (100001, .var [.own 100000]), (100002, .var [bv (c || hitT L (L.getD i default).na)])] := by
  obtain ⟨m, p⟩ := past_run d v0 (by omega)
  have := skipA_w L i m c ⟨hi, hl, p, v1, ok, wl⟩
  rw [setAK_eq hi, p.e, flagK_eq, ← p.h] at this
  exact this
noncomputable def skipB_l_I (L : List Nod) (i m : Nat) (c : Bool) (k : Nat) : VS := stt 28 [(0, .ptr 100000 i 2), (1, .ptr 100001 0 0), (2, .ptr 100002 0 0)] [(100000, .slc 47 19 ((setBK L i k).map nodC)), (100001, .var [.own 100000]), (100002, .var [bv (flagK c k)])]
noncomputable def skipB_l_Z (L : List Nod) (i m : Nat) (c : Bool) : VS := skipB_l_I L i m c (m)
set_option maxRecDepth 100000 in
set_option maxHeartbeats 2000000 in
theorem skipB_l_s (L : List Nod) (i m : Nat) (c : Bool) (h : SkOk L i (L.getD i default).nb m) (k : Nat) (hk : k < m) : VT Try.prog (fnC Try.f153 [0, 0]) (skipB_l_I L i m c k) .normal (skipB_l_I L i m c (k + 1)) := by
  obtain ⟨h1, h2, h3, h4, h5, h6⟩ := id h
  have b1 := h3.b k (by omega)
  have y1 := h3.y k hk
  simp only [Bool.and_eq_true, decide_eq_true_eq] at y1
  have e0 := setBK_eq h1 k
  have e1 : ((setBK L i k).getD i default).nb = itV L (L.getD i default).nb k := by rw [e0, setB_at h1]
  have e2 : (setBK L i k).getD (((setBK L i k).getD i default).nb - 1).toNat default = L.getD (itV L (L.getD i default).nb k - 1).toNat default := by rw [e1, e0, setB_o h1 _ (by omega)]
  have e3 : sameN ((setBK L i k).getD (((setBK L i k).getD i default).nb - 1).toNat default) = true := by rw [e2]; exact y1.2
  have e4 : ((setBK L i k).getD (((setBK L i k).getD i default).nb - 1).toNat default).Ok := by rw [e2]; exact getD_in h5 (by omega)
  have e5 : ((setBK L i k).getD (((setBK L i k).getD i default).nb - 1).toNat default).w.length ≤ 100000 := by rw [e2]; exact (getD_in h6 (by omega)).1
  have e6 : ((setBK L i k).getD (((setBK L i k).getD i default).nb - 1).toNat default).b.length ≤ 100000 := by rw [e2]; exact (getD_in h6 (by omega)).2
  have e7 : (setBK L i k).length = L.length := by rw [e0, setB_len]
  have e8 : (setBK L i k).set i { (setBK L i k).getD i default with nb := ((setBK L i k).getD (((setBK L i k).getD i default).nb - 1).toNat default).na } = setBK L i (k + 1) := by rw [e0]; exact skipB_step h1 y1.1 (show itV L (L.getD i default).nb k ≤ i by omega)
  have e9 : (List.map nodC (setBK L i k)).length = L.length := by rw [List.length_map, e7]
  have oz0 := (map_at (nodC) (default) (l := setBK L i k) (i := i) (by omega))
  have oz1 := (decide_eq_true (p := (((setBK L i k).getD i default).nb > 0)) (by omega))
  have oz7 := (IntWalk.i64_in (((setBK L i k).getD i default).nb - 1) (by omega))
  have oz9 := (show 0 ≤ ((setBK L i k).getD i default).nb - 1 by omega)
  have oz10 := (show ((setBK L i k).getD i default).nb - 1 < (↑(List.map nodC (setBK L i k)).length : Int) by omega)
  have oz12 := (map_at (nodC) (default) (l := setBK L i k) (i := (((setBK L i k).getD i default).nb - 1).toNat) (by omega))
  have oz14 := @fsame_v ((setBK L i k).getD (((setBK L i k).getD i default).nb - 1).toNat default) e4 e5 e6
  exact VT.run (W := [.r [] [.row (sO oz0), .br true, .br true, .br true, .br true, .row (sO oz0), .br true, .n (nO oz7), .br true, .br true, .row (sO oz12), .br true, .callr (rO oz14), .br true], .br true, .r [] [.row (sO oz0), .n (nO oz7), .row (sO oz12), .row (sO oz0)]]) (G := [.any (rg [(4, 24)]), .blk 100000 (Blk.slc 47 19 (List.map nodC (setBK L i (k + 1)))), .blk 100002 (Blk.var [bv (flagK c (k + 1))]), .sort]) (by kernel_rfl) (.c oz0 <| .c oz1 <| .c oz1 <| .c oz1 <| .c oz1 <| .c oz0 <| .c oz1 <| .c oz7 <| .c oz1 <| .c oz9 <| .c oz10 <| .c oz1 <| .c oz12 <| .c oz1 <| .c oz14 <| .c oz1 <| .c e3 <| .c oz0 <| .c oz7 <| .c oz9 <| .c oz10 <| .c oz12 <| .c oz0 <| .c (show BlkW (Blk.slc 47 19 ((List.map nodC (setBK L i k)).set i [i64 ((setBK L i k).getD i default).kd, i64 ((setBK L i k).getD i default).na, i64 ((setBK L i k).getD (((setBK L i k).getD i default).nb - 1).toNat default).na, i64 ((setBK L i k).getD i default).nk, i64 ((setBK L i k).getD i default).ns, i64 ((setBK L i k).getD i default).np, i64 ((setBK L i k).getD i default).no, i8 ((setBK L i k).getD i default).za, i8 ((setBK L i k).getD i default).zb, AV.sl 1 (List.map (row1 IntKind.i8) ((setBK L i k).getD i default).w), AV.sl 1 (List.map (row1 IntKind.i32) ((setBK L i k).getD i default).b), i32 ((setBK L i k).getD i default).qm, i64 ((setBK L i k).getD i default).qs, i8 ((setBK L i k).getD i default).qz, i32 ((setBK L i k).getD i default).rm, i64 ((setBK L i k).getD i default).rs, i8 ((setBK L i k).getD i default).rz, i8 ((setBK L i k).getD i default).lo, i8 ((setBK L i k).getD i default).hi])) (Blk.slc 47 19 (List.map nodC (setBK L i (k + 1)))) from (BlkW.rows (rows_to (nodC) (r := (List.map nodC (setBK L i k)).set i [i64 ((setBK L i k).getD i default).kd, i64 ((setBK L i k).getD i default).na, i64 ((setBK L i k).getD (((setBK L i k).getD i default).nb - 1).toNat default).na, i64 ((setBK L i k).getD i default).nk, i64 ((setBK L i k).getD i default).ns, i64 ((setBK L i k).getD i default).np, i64 ((setBK L i k).getD i default).no, i8 ((setBK L i k).getD i default).za, i8 ((setBK L i k).getD i default).zb, AV.sl 1 (List.map (row1 IntKind.i8) ((setBK L i k).getD i default).w), AV.sl 1 (List.map (row1 IntKind.i32) ((setBK L i k).getD i default).b), i32 ((setBK L i k).getD i default).qm, i64 ((setBK L i k).getD i default).qs, i8 ((setBK L i k).getD i default).qz, i32 ((setBK L i k).getD i default).rm, i64 ((setBK L i k).getD i default).rs, i8 ((setBK L i k).getD i default).rz, i8 ((setBK L i k).getD i default).lo, i8 ((setBK L i k).getD i default).hi]) (l := (setBK L i k).set i (Nod.mk ((setBK L i k).getD i default).kd ((setBK L i k).getD i default).na ((setBK L i k).getD (((setBK L i k).getD i default).nb - 1).toNat default).na ((setBK L i k).getD i default).nk ((setBK L i k).getD i default).ns ((setBK L i k).getD i default).np ((setBK L i k).getD i default).no ((setBK L i k).getD i default).za ((setBK L i k).getD i default).zb ((setBK L i k).getD i default).w ((setBK L i k).getD i default).b ((setBK L i k).getD i default).qm ((setBK L i k).getD i default).qs ((setBK L i k).getD i default).qz ((setBK L i k).getD i default).rm ((setBK L i k).getD i default).rs ((setBK L i k).getD i default).rz ((setBK L i k).getD i default).lo ((setBK L i k).getD i default).hi)) (m := setBK L i (k + 1)) (by first | (simp only [List.map_append, List.map_cons, List.map_nil, List.map_set, List.map_replicate, List.map_take, List.map_drop]; done) | rfl | (simp only [List.map_append, List.map_cons, List.map_nil, List.map_set, List.map_replicate, List.map_take, List.map_drop]; rfl) | (simp only [List.map_append, List.map_cons, List.map_nil, List.map_set, List.map_replicate, List.map_take, List.map_drop, nodC, ints]; done)) (show ((setBK L i k).set i (Nod.mk ((setBK L i k).getD i default).kd ((setBK L i k).getD i default).na ((setBK L i k).getD (((setBK L i k).getD i default).nb - 1).toNat default).na ((setBK L i k).getD i default).nk ((setBK L i k).getD i default).ns ((setBK L i k).getD i default).np ((setBK L i k).getD i default).no ((setBK L i k).getD i default).za ((setBK L i k).getD i default).zb ((setBK L i k).getD i default).w ((setBK L i k).getD i default).b ((setBK L i k).getD i default).qm ((setBK L i k).getD i default).qs ((setBK L i k).getD i default).qz ((setBK L i k).getD i default).rm ((setBK L i k).getD i default).rs ((setBK L i k).getD i default).rz ((setBK L i k).getD i default).lo ((setBK L i k).getD i default).hi)) = (setBK L i (k + 1)) from e8)))) <| .c (show BlkW (Blk.var [bv true]) (Blk.var [bv (flagK c (k + 1))]) from (BlkW.var (.cons (Weak.bool (show ((true) : Bool) = (flagK c (k + 1)) from (by rfl))) .nil))) <| .n)
set_option maxRecDepth 100000 in
set_option maxHeartbeats 2000000 in
theorem skipB_l_e (L : List Nod) (i m : Nat) (c : Bool) (h : SkOk L i (L.getD i default).nb m) : VT Try.prog (fnC Try.f153 [0, 0]) (skipB_l_I L i m c (m)) (.exit 0) (skipB_l_Z L i m c) := by
  obtain ⟨h1, h2, h3, h4, h5, h6⟩ := id h
  have b1 := h3.b m (Nat.le_refl _)
  have y1 := h3.n
  have e0 := setBK_eq h1 m
  have e1 : ((setBK L i m).getD i default).nb = itV L (L.getD i default).nb m := by rw [e0, setB_at h1]
  have e2 : ((setBK L i m).getD i default).nb > 0 → (setBK L i m).getD (((setBK L i m).getD i default).nb - 1).toNat default = L.getD (itV L (L.getD i default).nb m - 1).toNat default := fun h => by rw [e1, e0, setB_o h1 _ (by omega)]
  have e3 : ((setBK L i m).getD i default).nb > 0 → sameN ((setBK L i m).getD (((setBK L i m).getD i default).nb - 1).toNat default) = false := fun h => by rw [e2 h]; rw [e1] at h; rw [decide_eq_true h, Bool.true_and] at y1; exact y1
  have e4 : ((setBK L i m).getD i default).nb > 0 → ((setBK L i m).getD (((setBK L i m).getD i default).nb - 1).toNat default).Ok := fun h => by rw [e2 h]; exact getD_in h5 (by omega)
  have e5 : ((setBK L i m).getD i default).nb > 0 → ((setBK L i m).getD (((setBK L i m).getD i default).nb - 1).toNat default).w.length ≤ 100000 := fun h => by rw [e2 h]; exact (getD_in h6 (by omega)).1
  have e6 : ((setBK L i m).getD i default).nb > 0 → ((setBK L i m).getD (((setBK L i m).getD i default).nb - 1).toNat default).b.length ≤ 100000 := fun h => by rw [e2 h]; exact (getD_in h6 (by omega)).2
  have e7 : (setBK L i m).length = L.length := by rw [e0, setB_len]
  have e9 : (List.map nodC (setBK L i m)).length = L.length := by rw [List.length_map, e7]
  have oz0 := (map_at (nodC) (default) (l := setBK L i m) (i := i) (by omega))
  have oz2 := (IntWalk.i64_in (((setBK L i m).getD i default).nb - 1) (by omega))
  have oz5 := (map_at (nodC) (default) (l := setBK L i m) (i := (((setBK L i m).getD i default).nb - 1).toNat) (by omega))
  exact VT.run (W := [.r [] [.row (sO oz0), .op false, .op false, .op false, .op false, .row (sO oz0), .op false, .n (nO oz2), .op true, .op false, .row (sO oz5), .op true, .callr (bv (sameN ((setBK L i m).getD (((setBK L i m).getD i default).nb - 1).toNat default))), .sel 2], .br false]) (G := [.any (rg [(4, 14)]), .sort]) (by kernel_rfl) (.c oz0 <| .c oz0 <| .c oz2 <| .c (show decide (((setBK L i m).getD i default).nb > 0) = true → 0 ≤ ((setBK L i m).getD i default).nb - 1 from (fun hc0 => have gc0 : ((setBK L i m).getD i default).nb > 0 := (by first | exact hc0 | exact of_decide_eq_true hc0 | exact of_decide_eq_false hc0 | simpa [eqNums] using hc0 | (simp [eqNums] at hc0 ⊢; first | done | assumption | omega)); (by omega))) <| .c (show decide (((setBK L i m).getD i default).nb > 0) = true → ((setBK L i m).getD i default).nb - 1 < (↑(List.map nodC (setBK L i m)).length : Int) from (fun hc0 => have gc0 : ((setBK L i m).getD i default).nb > 0 := (by first | exact hc0 | exact of_decide_eq_true hc0 | exact of_decide_eq_false hc0 | simpa [eqNums] using hc0 | (simp [eqNums] at hc0 ⊢; first | done | assumption | omega)); (by omega))) <| .c oz5 <| .c (show decide (((setBK L i m).getD i default).nb > 0) = true → VC Try.prog 89 (List.map (fun (x : Operand) => (evV (VS.mk [AV.ptr 100000 i 2, AV.ptr 100001 0 0, AV.ptr 100002 0 0, AV.any, AV.ptr 100000 i 2, AV.ptr 100000 i 2, i64 ((setBK L i m).getD i default).nb, bv (decide (((setBK L i m).getD i default).nb > 0)), bv (decide (((setBK L i m).getD i default).nb > 0)), AV.opt (decide (((setBK L i m).getD i default).nb > 0)) 8 true (AV.own 100000), AV.opt (decide (((setBK L i m).getD i default).nb > 0)) 8 true (AV.ptr 100000 i 2), AV.opt (decide (((setBK L i m).getD i default).nb > 0)) 8 true (AV.ptr 100000 i 2), AV.opt (decide (((setBK L i m).getD i default).nb > 0)) 8 true (i64 ((setBK L i m).getD i default).nb), AV.opt (decide (((setBK L i m).getD i default).nb > 0)) 8 true (i64 (((setBK L i m).getD i default).nb - 1)), AV.opt (decide (((setBK L i m).getD i default).nb > 0)) 8 true (AV.ptr 100000 (((setBK L i m).getD i default).nb - 1).toNat 0), AV.opt (decide (((setBK L i m).getD i default).nb > 0)) 8 true (AV.agg [i64 ((setBK L i m).getD (((setBK L i m).getD i default).nb - 1).toNat default).kd, i64 ((setBK L i m).getD (((setBK L i m).getD i default).nb - 1).toNat default).na, i64 ((setBK L i m).getD (((setBK L i m).getD i default).nb - 1).toNat default).nb, i64 ((setBK L i m).getD (((setBK L i m).getD i default).nb - 1).toNat default).nk, i64 ((setBK L i m).getD (((setBK L i m).getD i default).nb - 1).toNat default).ns, i64 ((setBK L i m).getD (((setBK L i m).getD i default).nb - 1).toNat default).np, i64 ((setBK L i m).getD (((setBK L i m).getD i default).nb - 1).toNat default).no, i8 ((setBK L i m).getD (((setBK L i m).getD i default).nb - 1).toNat default).za, i8 ((setBK L i m).getD (((setBK L i m).getD i default).nb - 1).toNat default).zb, AV.sl 1 (List.map (row1 IntKind.i8) ((setBK L i m).getD (((setBK L i m).getD i default).nb - 1).toNat default).w), AV.sl 1 (List.map (row1 IntKind.i32) ((setBK L i m).getD (((setBK L i m).getD i default).nb - 1).toNat default).b), i32 ((setBK L i m).getD (((setBK L i m).getD i default).nb - 1).toNat default).qm, i64 ((setBK L i m).getD (((setBK L i m).getD i default).nb - 1).toNat default).qs, i8 ((setBK L i m).getD (((setBK L i m).getD i default).nb - 1).toNat default).qz, i32 ((setBK L i m).getD (((setBK L i m).getD i default).nb - 1).toNat default).rm, i64 ((setBK L i m).getD (((setBK L i m).getD i default).nb - 1).toNat default).rs, i8 ((setBK L i m).getD (((setBK L i m).getD i default).nb - 1).toNat default).rz, i8 ((setBK L i m).getD (((setBK L i m).getD i default).nb - 1).toNat default).lo, i8 ((setBK L i m).getD (((setBK L i m).getD i default).nb - 1).toNat default).hi]), AV.any, AV.any, AV.any, AV.any, AV.any, AV.any, AV.any, AV.any, AV.any, AV.any, AV.any, AV.any] [(100000, Blk.slc 47 19 (List.map nodC (setBK L i m))), (100001, Blk.var [AV.own 100000]), (100002, Blk.var [bv (flagK c m)])]).t x).strip) #[Operand.tmp 15].toList ++ []) (bv (sameN ((setBK L i m).getD (((setBK L i m).getD i default).nb - 1).toNat default))) from (fun hc0 => have gc0 : ((setBK L i m).getD i default).nb > 0 := (by first | exact hc0 | exact of_decide_eq_true hc0 | exact of_decide_eq_false hc0 | simpa [eqNums] using hc0 | (simp [eqNums] at hc0 ⊢; first | done | assumption | omega)); (@fsame_v ((setBK L i m).getD (((setBK L i m).getD i default).nb - 1).toNat default) (by (exact e4 (by omega))) (by omega) (by omega)))) <| .c (show (decide (((setBK L i m).getD i default).nb > 0) && sameN ((setBK L i m).getD (((setBK L i m).getD i default).nb - 1).toNat default)) = false by (simp at *; omega)) <| .n)
theorem skipB_l (L : List Nod) (i m : Nat) (c : Bool) (h : SkOk L i (L.getD i default).nb m) : VT Try.prog (fnC Try.f153 [0]) (skipB_l_I L i m c 0) (.exit 0) (skipB_l_Z L i m c) :=
  VT.loop (fun k => skipB_l_I L i m c k) (m) (fun k hk => skipB_l_s L i m c h k hk) (skipB_l_e L i m c h) (by intro h; cases h)

set_option maxRecDepth 100000 in
set_option maxHeartbeats 2000000 in
theorem skipB_w (L : List Nod) (i m : Nat) (c : Bool) (h : SkOk L i (L.getD i default).nb m) : VM Try.prog 153 ([.ptr 100000 i 2, .ptr 100001 0 0, .ptr 100002 0 0]) ([(100000, .slc 47 19 (L.map nodC)), (100001, .var [.own 100000]), (100002, .var [bv c])]) (.tup []) ([(100000, .slc 47 19 ((setBK L i m).map nodC)), (100001, .var [.own 100000]), (100002, .var [bv (flagK c m)])]) := by
  have oz1 := @skipB_l (L) (i) (m) (c) h
  exact VM.run (fn := Try.f153) (W := [.code [.blk 100000 (Blk.slc 47 19 (List.map nodC (setBK L i 0))), .sort] (Exit.exit 0) (zO oz1)]) (G := [.sort]) Try.func153 (by kernel_rfl) (.c (show BlkW (Blk.slc 47 19 (List.map nodC L)) (Blk.slc 47 19 (List.map nodC (setBK L i 0))) from (BlkW.rows (rows_to (nodC) (r := List.map nodC L) (l := L) (m := setBK L i 0) rfl (show (L) = (setBK L i 0) from (by rfl))))) <| .c oz1 <| .n)
theorem skipB_v (L : List Nod) (i : Nat) (c : Bool) (hi : i < L.length) (hl : L.length ≤ 1000) (d : Desc L L.length) (v0 : 0 ≤ (L.getD i default).nb) (v1 : (L.getD i default).nb ≤ i) (ok : ∀ n ∈ L, n.Ok) (wl : ∀ n ∈ L, n.w.length ≤ 100000 ∧ n.b.length ≤ 100000) :
    VM Try.prog 153 [.ptr 100000 i 2, .ptr 100001 0 0, .ptr 100002 0 0] [(100000, .slc 47 19 (L.map nodC)), (100001, .var [.own 100000]), (100002, .var [bv c])] (.tup [])
      [(100000, .slc 47 19 ((setB L i (pastV L (L.getD i default).nb)).map nodC)), (100001, .var [.own 100000]), (100002, .var [bv (c || hitT L (L.getD i default).nb)])] := by
  obtain ⟨m, p⟩ := past_run d v0 (by omega)
  have := skipB_w L i m c ⟨hi, hl, p, v1, ok, wl⟩
  rw [setBK_eq hi, p.e, flagK_eq, ← p.h] at this
  exact this
end Go.Proofs.Ytgecmooedhnenaa

/- Several nodes as one, again and again, by the program. No condition. -/
namespace Go.Proofs.Ytgecmooedhnenaa
open Go.RowKit
set_option linter.unusedSimpArgs false
set_option linter.unusedVariables false
set_option linter.unnecessarySimpa false

theorem hitT_set {L : List Nod} {i : Nat} (hi : i < L.length) (u : Int) {v : Int} (hv : v ≤ i) : hitT (setA L i u) v = hitT L v := by
  unfold hitT
  by_cases q : 0 < v
  · rw [setA_o hi u (by omega)]
  · rw [decide_eq_false q, Bool.false_and, Bool.false_and]
theorem thrK_6c {P : List Nod} {k : Nat} (hk : k < P.length) (d : Desc (thrK P k) P.length) (h6 : ((thrK P k).getD k default).kd = 6) (hb : ((thrK P k).getD k default).nb ≤ k) :
    setB (setA (thrK P k) k (pastV (thrK P k) ((thrK P k).getD k default).na)) k (pastV (setA (thrK P k) k (pastV (thrK P k) ((thrK P k).getD k default).na)) ((setA (thrK P k) k (pastV (thrK P k) ((thrK P k).getD k default).na)).getD k default).nb) = thrK P (k + 1) ∧
    ((thrB P k || hitT (thrK P k) ((thrK P k).getD k default).na) || hitT (setA (thrK P k) k (pastV (thrK P k) ((thrK P k).getD k default).na)) ((setA (thrK P k) k (pastV (thrK P k) ((thrK P k).getD k default).na)).getD k default).nb) = thrB P (k + 1) := by
  have hl : k < (thrK P k).length := by rw [thrK_len]; exact hk
  constructor
  · rw [thrK_6 hk d h6 hb]
    unfold setB
    rw [setA_at hl]
  · rw [setA_at hl]
    dsimp only
    rw [hitT_set hl _ hb, thrB, decide_eq_true h6, Bool.true_and, Bool.or_assoc]
theorem thrB_o {P : List Nod} {k : Nat} (h6 : ((thrK P k).getD k default).kd ≠ 6) : (thrB P k || hitT (thrK P k) ((thrK P k).getD k default).na) = thrB P (k + 1) := by
  rw [thrB, decide_eq_false h6, Bool.false_and, Bool.or_false]
noncomputable def fthr_l_I (P : List Nod) (k : Nat) : VS := stt 32 [(1, .ptr 1 0 0), (3, .ptr 3 0 0), (4, .clo 153 [.ptr 1 0 0, .ptr 3 0 0]), (8, i64 P.length), (9, i64 k)] [(1, .var [.own 100000]), (3, .var [bv (thrB P k)]), (100000, .slc 47 19 ((thrK P k).map nodC))]
noncomputable def fthr_l_Z (P : List Nod) : VS := fthr_l_I P (P.length)
set_option maxRecDepth 100000 in
set_option maxHeartbeats 2000000 in
theorem fthr_l_s (P : List Nod) (o : orderedB P = true) (hl : P.length ≤ 1000) (okl : ∀ n ∈ P, n.Ok) (wl : ∀ n ∈ P, n.w.length ≤ 100000 ∧ n.b.length ≤ 100000) (k : Nat) (hk : k < P.length) : VT Try.prog (fnC Try.f93 [1, 1, 1, 0, 1, 0, 0]) (fthr_l_I P k) .normal (fthr_l_I P (k + 1)) := by
  have q1 := thrK_len P k
  obtain ⟨q2, q3⟩ := thrK_ok o hl okl wl k (by omega)
  have q4 := thrK_get (l := P) k (by omega) k hk
  rw [if_neg (Nat.lt_irrefl k)] at q4
  have q5 := (ord_iff.1 o) k hk
  rw [← q4] at q5
  obtain ⟨q6, q7, q8⟩ := q5
  have q9 := thrK_desc o k (by omega)
  have qa : Desc (thrK P k) (thrK P k).length := by rw [q1]; exact q9
  have qb : (List.map nodC (thrK P k)).length = P.length := by rw [List.length_map, q1]
  have qe := pastV_le q9 q6 (by omega)
  have qf : Desc (setA (thrK P k) k (pastV (thrK P k) ((thrK P k).getD k default).na)) (setA (thrK P k) k (pastV (thrK P k) ((thrK P k).getD k default).na)).length := by rw [setA_len]; exact setA_desc (by omega) qa qe.1 (by omega)
  have qo := getD_in q2 (i := k) (by omega)
  have qg : ∀ n ∈ setA (thrK P k) k (pastV (thrK P k) ((thrK P k).getD k default).na), n.Ok := setA_mem q2 (OkN.ok (OkN.ren qo.n _ ((thrK P k).getD k default).nb (.inr rfl)) (by show In64 (pastV (thrK P k) ((thrK P k).getD k default).na); unfold In64; omega) fun _ => qo.nb)
  have qh : ∀ n ∈ setA (thrK P k) k (pastV (thrK P k) ((thrK P k).getD k default).na), n.w.length ≤ 100000 ∧ n.b.length ≤ 100000 := setA_mem q3 (getD_in q3 (i := k) (by omega))
  have qi : (setA (thrK P k) k (pastV (thrK P k) ((thrK P k).getD k default).na)).length = P.length := by rw [setA_len, q1]
  have qj : ((setA (thrK P k) k (pastV (thrK P k) ((thrK P k).getD k default).na)).getD k default).nb = ((thrK P k).getD k default).nb := by rw [setA_at (by omega)]
  have qk : ((setA (thrK P k) k (pastV (thrK P k) ((thrK P k).getD k default).na)).getD k default).kd = ((thrK P k).getD k default).kd := by rw [setA_at (by omega)]
  have ql : (List.map nodC (setA (thrK P k) k (pastV (thrK P k) ((thrK P k).getD k default).na))).length = P.length := by rw [List.length_map, qi]
  have qm := fun h => thrK_6c hk q9 h (q8 h).2
  have qn := fun h => thrK_o (P := P) (k := k) h
  have qp := fun h => thrB_o (P := P) (k := k) h
  have oz0 := (decide_eq_true (p := ((↑k : Int) < (↑P.length : Int))) (by omega))
  have oz1 := (show 0 ≤ (↑k : Int) by omega)
  have oz2 := (show (↑k : Int) < (↑(List.map nodC (thrK P k)).length : Int) by omega)
  have oz3 := @skipA_v (thrK P k) ((↑k : Int).toNat) (thrB P k) (by omega) (by omega) qa (by (simp at *; omega)) (by (simp at *; omega)) q2 q3
  have oz5 := (show (↑k : Int) < (↑(List.map nodC (setA (thrK P k) (↑k : Int).toNat (pastV (thrK P k) ((thrK P k).getD (↑k : Int).toNat default).na))).length : Int) by (simp; omega))
  have oz6 := (map_at (nodC) (default) (l := setA (thrK P k) (↑k : Int).toNat (pastV (thrK P k) ((thrK P k).getD (↑k : Int).toNat default).na)) (i := k) (by (simp; omega)))
  rcases Bool.eq_false_or_eq_true (((setA (thrK P k) (↑k : Int).toNat (pastV (thrK P k) ((thrK P k).getD (↑k : Int).toNat default).na)).getD k default).kd == 6) with hc0 | hc0
  · have gc0 : ((setA (thrK P k) (↑k : Int).toNat (pastV (thrK P k) ((thrK P k).getD (↑k : Int).toNat default).na)).getD k default).kd = 6 := bet hc0
    have oz10 := @skipB_v (setA (thrK P k) (↑k : Int).toNat (pastV (thrK P k) ((thrK P k).getD (↑k : Int).toNat default).na)) ((↑k : Int).toNat) (thrB P k || hitT (thrK P k) ((thrK P k).getD (↑k : Int).toNat default).na) (by (simp; omega)) (by (simp; omega)) (by (exact qf)) (by (simp at *; omega)) (by (simp at *; omega)) (by (exact qg)) (by (exact qh))
    exact VT.run (W := [.r [] [], .br true, .r [] [], .r [] [.callm [(100000, 100000), (1, 100001), (3, 100002)] [] (rM oz3) (oM oz3)], .r [] [.row (sO oz6)], .br true, .r [] [.callm [(100000, 100000), (1, 100001), (3, 100002)] [] (rM oz10) (oM oz10)], .r [] [.n ((↑k : Int) + 1)]]) (G := [.any (rg [(5, 1), (10, 21)]), .weak 9 (i64 (↑(k + 1) : Int)), .blk 3 (Blk.var [bv (thrB P (k + 1))]), .blk 100000 (Blk.slc 47 19 (List.map nodC (thrK P (k + 1)))), .sort]) (by kernel_rfl) (.c oz0 <| .c oz1 <| .c oz2 <| .c oz3 <| .c oz1 <| .c oz5 <| .c oz6 <| .c hc0 <| .c oz1 <| .c oz5 <| .c oz10 <| .c (IntWalk.i64_in ((↑k : Int) + 1) (by omega)) <| .c (Weak.int (k := .i64) (show (((↑k : Int) + 1) : Int) = ((↑(k + 1) : Int)) from (by omega))) <| .c (show BlkW (Blk.var [bv (thrB P k || hitT (thrK P k) ((thrK P k).getD (↑k : Int).toNat default).na || hitT (setA (thrK P k) (↑k : Int).toNat (pastV (thrK P k) ((thrK P k).getD (↑k : Int).toNat default).na)) ((setA (thrK P k) (↑k : Int).toNat (pastV (thrK P k) ((thrK P k).getD (↑k : Int).toNat default).na)).getD (↑k : Int).toNat default).nb)]) (Blk.var [bv (thrB P (k + 1))]) from (BlkW.var (.cons (Weak.bool (show ((thrB P k || hitT (thrK P k) ((thrK P k).getD (↑k : Int).toNat default).na || hitT (setA (thrK P k) (↑k : Int).toNat (pastV (thrK P k) ((thrK P k).getD (↑k : Int).toNat default).na)) ((setA (thrK P k) (↑k : Int).toNat (pastV (thrK P k) ((thrK P k).getD (↑k : Int).toNat default).na)).getD (↑k : Int).toNat default).nb) : Bool) = (thrB P (k + 1)) from (by (simp_all; done)))) .nil))) <| .c (show BlkW (Blk.slc 47 19 (List.map nodC (setB (setA (thrK P k) (↑k : Int).toNat (pastV (thrK P k) ((thrK P k).getD (↑k : Int).toNat default).na)) (↑k : Int).toNat (pastV (setA (thrK P k) (↑k : Int).toNat (pastV (thrK P k) ((thrK P k).getD (↑k : Int).toNat default).na)) ((setA (thrK P k) (↑k : Int).toNat (pastV (thrK P k) ((thrK P k).getD (↑k : Int).toNat default).na)).getD (↑k : Int).toNat default).nb)))) (Blk.slc 47 19 (List.map nodC (thrK P (k + 1)))) from (BlkW.rows (rows_to (nodC) (r := List.map nodC (setB (setA (thrK P k) (↑k : Int).toNat (pastV (thrK P k) ((thrK P k).getD (↑k : Int).toNat default).na)) (↑k : Int).toNat (pastV (setA (thrK P k) (↑k : Int).toNat (pastV (thrK P k) ((thrK P k).getD (↑k : Int).toNat default).na)) ((setA (thrK P k) (↑k : Int).toNat (pastV (thrK P k) ((thrK P k).getD (↑k : Int).toNat default).na)).getD (↑k : Int).toNat default).nb))) (l := setB (setA (thrK P k) (↑k : Int).toNat (pastV (thrK P k) ((thrK P k).getD (↑k : Int).toNat default).na)) (↑k : Int).toNat (pastV (setA (thrK P k) (↑k : Int).toNat (pastV (thrK P k) ((thrK P k).getD (↑k : Int).toNat default).na)) ((setA (thrK P k) (↑k : Int).toNat (pastV (thrK P k) ((thrK P k).getD (↑k : Int).toNat default).na)).getD (↑k : Int).toNat default).nb)) (m := thrK P (k + 1)) rfl (show (setB (setA (thrK P k) (↑k : Int).toNat (pastV (thrK P k) ((thrK P k).getD (↑k : Int).toNat default).na)) (↑k : Int).toNat (pastV (setA (thrK P k) (↑k : Int).toNat (pastV (thrK P k) ((thrK P k).getD (↑k : Int).toNat default).na)) ((setA (thrK P k) (↑k : Int).toNat (pastV (thrK P k) ((thrK P k).getD (↑k : Int).toNat default).na)).getD (↑k : Int).toNat default).nb)) = (thrK P (k + 1)) from (by (simp_all; done)))))) <| .n)
  · have gc0 : ¬((setA (thrK P k) (↑k : Int).toNat (pastV (thrK P k) ((thrK P k).getD (↑k : Int).toNat default).na)).getD k default).kd = 6 := bef hc0
    exact VT.run (W := [.r [] [], .br true, .r [] [], .r [] [.callm [(100000, 100000), (1, 100001), (3, 100002)] [] (rM oz3) (oM oz3)], .r [] [.row (sO oz6)], .br false, .r [] [.n ((↑k : Int) + 1)]]) (G := [.any (rg [(5, 1), (10, 14), (30, 1)]), .weak 9 (i64 (↑(k + 1) : Int)), .blk 3 (Blk.var [bv (thrB P (k + 1))]), .blk 100000 (Blk.slc 47 19 (List.map nodC (thrK P (k + 1)))), .sort]) (by kernel_rfl) (.c oz0 <| .c oz1 <| .c oz2 <| .c oz3 <| .c oz1 <| .c oz5 <| .c oz6 <| .c hc0 <| .c (IntWalk.i64_in ((↑k : Int) + 1) (by omega)) <| .c (Weak.int (k := .i64) (show (((↑k : Int) + 1) : Int) = ((↑(k + 1) : Int)) from (by omega))) <| .c (show BlkW (Blk.var [bv (thrB P k || hitT (thrK P k) ((thrK P k).getD (↑k : Int).toNat default).na)]) (Blk.var [bv (thrB P (k + 1))]) from (BlkW.var (.cons (Weak.bool (show ((thrB P k || hitT (thrK P k) ((thrK P k).getD (↑k : Int).toNat default).na) : Bool) = (thrB P (k + 1)) from (by (simp_all; done)))) .nil))) <| .c (show BlkW (Blk.slc 47 19 (List.map nodC (setA (thrK P k) (↑k : Int).toNat (pastV (thrK P k) ((thrK P k).getD (↑k : Int).toNat default).na)))) (Blk.slc 47 19 (List.map nodC (thrK P (k + 1)))) from (BlkW.rows (rows_to (nodC) (r := List.map nodC (setA (thrK P k) (↑k : Int).toNat (pastV (thrK P k) ((thrK P k).getD (↑k : Int).toNat default).na))) (l := setA (thrK P k) (↑k : Int).toNat (pastV (thrK P k) ((thrK P k).getD (↑k : Int).toNat default).na)) (m := thrK P (k + 1)) rfl (show (setA (thrK P k) (↑k : Int).toNat (pastV (thrK P k) ((thrK P k).getD (↑k : Int).toNat default).na)) = (thrK P (k + 1)) from (by (simp_all; done)))))) <| .n)
set_option maxRecDepth 100000 in
set_option maxHeartbeats 2000000 in
theorem fthr_l_e (P : List Nod) (o : orderedB P = true) (hl : P.length ≤ 1000) (okl : ∀ n ∈ P, n.Ok) (wl : ∀ n ∈ P, n.w.length ≤ 100000 ∧ n.b.length ≤ 100000) : VT Try.prog (fnC Try.f93 [1, 1, 1, 0, 1, 0, 0]) (fthr_l_I P (P.length)) (.exit 0) (fthr_l_Z P) := by
  exact VT.run (W := [.r [] [], .br false]) (G := [.any [10], .sort]) (by kernel_rfl) (.c (decide_eq_false (p := ((↑P.length : Int) < (↑P.length : Int))) (by omega)) <| .n)
theorem fthr_l (P : List Nod) (o : orderedB P = true) (hl : P.length ≤ 1000) (okl : ∀ n ∈ P, n.Ok) (wl : ∀ n ∈ P, n.w.length ≤ 100000 ∧ n.b.length ≤ 100000) : VT Try.prog (fnC Try.f93 [1, 1, 1, 0, 1, 0]) (fthr_l_I P 0) (.exit 0) (fthr_l_Z P) :=
  VT.loop (fun k => fthr_l_I P k) (P.length) (fun k hk => fthr_l_s P o hl okl wl k hk) (fthr_l_e P o hl okl wl) (by intro h; cases h)

set_option maxRecDepth 100000 in
set_option maxHeartbeats 2000000 in
theorem fthr_v (P : List Nod) (o : orderedB P = true) (hl : P.length ≤ 1000) (okl : ∀ n ∈ P, n.Ok) (wl : ∀ n ∈ P, n.w.length ≤ 100000 ∧ n.b.length ≤ 100000) : VM Try.prog 93 ([.own 100000]) ([(100000, .slc 47 19 (P.map nodC))]) (bv (thrB P P.length)) ([(100000, .slc 47 19 ((thrK P P.length).map nodC))]) := by
  have qb : (List.map nodC P).length = P.length := List.length_map _
  have oz4 := @fthr_l (P) o hl okl wl
  exact VM.run (fn := Try.f93) (W := [.r [] [], .r [] [], .r [] [], .r [] [], .code [.any [0, 2, 6, 7], .weak 8 (i64 (↑P.length : Int)), .weak 9 (i64 (↑0 : Int)), .blk 3 (Blk.var [bv (thrB P 0)]), .blk 100000 (Blk.slc 47 19 (List.map nodC (thrK P 0))), .sort] (Exit.exit 0) (zO oz4), .r [] []]) (G := [.drop [1, 3], .sort]) Try.func93 (by kernel_rfl) (.c (Weak.int (k := .i64) (show (((↑(List.map nodC P).length : Int)) : Int) = ((↑P.length : Int)) from (by omega))) <| .c (Weak.int (k := .i64) (show ((0) : Int) = ((↑0 : Int)) from (by omega))) <| .c (show BlkW (Blk.var [bv false]) (Blk.var [bv (thrB P 0)]) from (BlkW.var (.cons (Weak.bool (show ((false) : Bool) = (thrB P 0) from (by rfl))) .nil))) <| .c (show BlkW (Blk.slc 47 19 (List.map nodC P)) (Blk.slc 47 19 (List.map nodC (thrK P 0))) from (BlkW.rows (rows_to (nodC) (r := List.map nodC P) (l := P) (m := thrK P 0) rfl (show (P) = (thrK P 0) from (by rfl))))) <| .c oz4 <| .n)
end Go.Proofs.Ytgecmooedhnenaa

/- Which nodes a block has when several are one, by the program. No condition. -/
namespace Go.Proofs.Ytgecmooedhnenaa
open Go.RowKit
set_option linter.unusedSimpArgs false
set_option linter.unusedVariables false
set_option linter.unnecessarySimpa false

set_option maxRecDepth 100000 in
set_option maxHeartbeats 2000000 in
theorem pblock_o (l : List Nod) (hl : l.length ≤ 1000) (hw : ∀ n ∈ l, n.w.length ≤ 100000 ∧ n.b.length ≤ 100000) (ho : orderedB l = true) : VM Try.prog 20 ([.sl 19 (l.map nodC)]) ([]) (.own 950) ([(950, .slc 47 19 ((pruneL l).map nodC))]) := by
  have q1 : (List.map (row1 .i64) (usedE l)).length = (usedL l).length := by rw [List.length_map]; unfold usedE; rw [if_pos ho]; exact List.length_map _
  have oz0 := @pord_v (l) hl
  have oz3 := @pused_v (l) hl
  have oz5 := (Weak.int (k := .i64) (show (((↑(List.map (row1 IntKind.i64) (usedE l)).length : Int)) : Int) = ((↑(usedL l).length : Int)) from (by omega)))
  have oz8 := @pblock_m (l) hl hw ho
  exact VM.run (fn := Try.f20) (W := [.r [] [], .r [] [], .r [] [.callr (rO oz0)], .br false, .r [] [.mapl []], .r [] [.callr (rO oz3)], .code [.any [2, 10, 11, 12, 26, 27, 28], .ren 26 902, .weak 29 (AV.sl 1 (List.map (row1 IntKind.i64) (usI (usedL l)))), .weak 30 (wO oz5), .weak 31 (i64 (↑0 : Int)), .nils 3 900 47 19, .blk 902 (Blk.obj (mobj (nowL (usedL l) 0))), .sort] (Exit.exit 2) (zO oz8), .r [] []]) (G := [.drop [902], .ren 900 950, .blk 950 (Blk.slc 47 19 (List.map nodC (pruneL l))), .sort]) Try.func20 (by kernel_rfl) (.c oz0 <| .c (show (!orderedB l) = false by (simp; omega)) <| .c (show mobj [] = mobj [] from rfl) <| .c oz3 <| .c (show Weak (AV.sl 1 (List.map (row1 IntKind.i64) (usedE l))) (AV.sl 1 (List.map (row1 IntKind.i64) (usI (usedL l)))) from (Weak.rows (rows_to (row1 IntKind.i64) (r := List.map (row1 IntKind.i64) (usedE l)) (l := usedE l) (m := usI (usedL l)) rfl (show (usedE l) = (usI (usedL l)) from (by (unfold usedE; rw [if_pos ho])))))) <| .c oz5 <| .c (Weak.int (k := .i64) (show ((0) : Int) = ((↑0 : Int)) from (by omega))) <| .c (show BlkW (Blk.obj (mobj (putI [] 0 0))) (Blk.obj (mobj (nowL (usedL l) 0))) from (BlkW.map (show putI [] 0 0 = nowL (usedL l) 0 from (by rfl)))) <| .c oz8 <| .c (show BlkW (Blk.slc 47 19 (List.map nodC (prunK l (usedL l).length))) (Blk.slc 47 19 (List.map nodC (pruneL l))) from (BlkW.rows (rows_to (nodC) (r := List.map nodC (prunK l (usedL l).length)) (l := prunK l (usedL l).length) (m := pruneL l) rfl (show (prunK l (usedL l).length) = (pruneL l) from (by (rw [← prunK_all ho])))))) <| .n)

noncomputable def fblk_c_I (l : List Nod) (a : Shp) (k : Nat) : VS := stt 54 [(0, .sl 19 (l.map nodC)), (3, .ptr 3 0 0), (5, .own 900), (13, .sl 19 (l.map nodC)), (14, i64 l.length), (15, i64 k)] [(3, .var (shpC a)), (900, .slc 47 19 ((l.take k).map nodC))]
noncomputable def fblk_c_Z (l : List Nod) (a : Shp) : VS := stt 54 [(0, .sl 19 (l.map nodC)), (3, .ptr 3 0 0), (5, .own 900)] [(3, .var (shpC a)), (900, .slc 47 19 (l.map nodC))]
set_option maxRecDepth 100000 in
set_option maxHeartbeats 2000000 in
theorem fblk_c_s (l : List Nod) (a : Shp) (hl : l.length ≤ 1000) (hw : ∀ n ∈ l, n.w.length ≤ 100000 ∧ n.b.length ≤ 100000) (k : Nat) (hk : k < l.length) : VT Try.prog (fnC Try.f28 [1, 1, 0, 1, 0, 0]) (fblk_c_I l a k) .normal (fblk_c_I l a (k + 1)) := by
  have q := getD_in hw hk
  obtain ⟨q1, q2⟩ := q
  have q3 : (List.map nodC (l.take k)).length = k := by rw [List.length_map, List.length_take]; omega
  have q4 : l.take (k + 1) = l.take k ++ [l.getD k default] := by
    rw [List.take_add_one, List.getD_eq_getElem?_getD, List.getElem?_eq_getElem hk]; rfl
  have oz2 := (map_at (nodC) (default) (l := l) (i := k) hk)
  have oz3 := @fcopied_v (l.getD k default) q1 q2
  exact VT.run (W := [.r [] [], .br true, .r [] [.row (sO oz2)], .r [] [.callr (rO oz3)], .r [] [.n ((↑k : Int) + 1)]]) (G := [.any (rg [(7, 1), (16, 9)]), .drop [7, 22], .ren 23 900, .weak 15 (i64 (↑(k + 1) : Int)), .blk 900 (Blk.slc 47 19 (List.map nodC (List.take (k + 1) l))), .sort]) (by kernel_rfl) (.c (decide_eq_true (p := ((↑k : Int) < (↑l.length : Int))) (by omega)) <| .c (show 0 ≤ (↑k : Int) by omega) <| .c oz2 <| .c oz3 <| .c (show ((List.map nodC (List.take k l)).length + 1) * 168 ≤ 140737488355328 by omega) <| .c (show (List.map nodC (List.take k l)).length + 1 ≤ 9223372036854775807 by omega) <| .c (IntWalk.i64_in ((↑k : Int) + 1) (by omega)) <| .c (Weak.int (k := .i64) (show (((↑k : Int) + 1) : Int) = ((↑(k + 1) : Int)) from (by omega))) <| .c (show BlkW (Blk.slc 47 19 (List.map nodC (List.take k l) ++ [[i64 (l.getD k default).kd, i64 (l.getD k default).na, i64 (l.getD k default).nb, i64 (l.getD k default).nk, i64 (l.getD k default).ns, i64 (l.getD k default).np, i64 (l.getD k default).no, i8 (l.getD k default).za, i8 (l.getD k default).zb, AV.sl 1 (List.map (row1 IntKind.i8) (l.getD k default).w), AV.sl 1 (List.map (row1 IntKind.i32) (l.getD k default).b), i32 (l.getD k default).qm, i64 (l.getD k default).qs, i8 (l.getD k default).qz, i32 (l.getD k default).rm, i64 (l.getD k default).rs, i8 (l.getD k default).rz, i8 (l.getD k default).lo, i8 (l.getD k default).hi]])) (Blk.slc 47 19 (List.map nodC (List.take (k + 1) l))) from (BlkW.rows (rows_to (nodC) (r := List.map nodC (List.take k l) ++ [[i64 (l.getD k default).kd, i64 (l.getD k default).na, i64 (l.getD k default).nb, i64 (l.getD k default).nk, i64 (l.getD k default).ns, i64 (l.getD k default).np, i64 (l.getD k default).no, i8 (l.getD k default).za, i8 (l.getD k default).zb, AV.sl 1 (List.map (row1 IntKind.i8) (l.getD k default).w), AV.sl 1 (List.map (row1 IntKind.i32) (l.getD k default).b), i32 (l.getD k default).qm, i64 (l.getD k default).qs, i8 (l.getD k default).qz, i32 (l.getD k default).rm, i64 (l.getD k default).rs, i8 (l.getD k default).rz, i8 (l.getD k default).lo, i8 (l.getD k default).hi]]) (l := List.take k l ++ [Nod.mk (l.getD k default).kd (l.getD k default).na (l.getD k default).nb (l.getD k default).nk (l.getD k default).ns (l.getD k default).np (l.getD k default).no (l.getD k default).za (l.getD k default).zb (l.getD k default).w (l.getD k default).b (l.getD k default).qm (l.getD k default).qs (l.getD k default).qz (l.getD k default).rm (l.getD k default).rs (l.getD k default).rz (l.getD k default).lo (l.getD k default).hi]) (m := List.take (k + 1) l) (by first | (simp only [List.map_append, List.map_cons, List.map_nil, List.map_set, List.map_replicate, List.map_take, List.map_drop]; done) | rfl | (simp only [List.map_append, List.map_cons, List.map_nil, List.map_set, List.map_replicate, List.map_take, List.map_drop]; rfl) | (simp only [List.map_append, List.map_cons, List.map_nil, List.map_set, List.map_replicate, List.map_take, List.map_drop, nodC, ints]; done)) (show (List.take k l ++ [Nod.mk (l.getD k default).kd (l.getD k default).na (l.getD k default).nb (l.getD k default).nk (l.getD k default).ns (l.getD k default).np (l.getD k default).no (l.getD k default).za (l.getD k default).zb (l.getD k default).w (l.getD k default).b (l.getD k default).qm (l.getD k default).qs (l.getD k default).qz (l.getD k default).rm (l.getD k default).rs (l.getD k default).rz (l.getD k default).lo (l.getD k default).hi]) = (List.take (k + 1) l) from (by (rw [q4])))))) <| .n)
set_option maxRecDepth 100000 in
set_option maxHeartbeats 2000000 in
theorem fblk_c_e (l : List Nod) (a : Shp) (hl : l.length ≤ 1000) (hw : ∀ n ∈ l, n.w.length ≤ 100000 ∧ n.b.length ≤ 100000) : VT Try.prog (fnC Try.f28 [1, 1, 0, 1, 0, 0]) (fblk_c_I l a (l.length)) (.exit 0) (fblk_c_Z l a) := by
  exact VT.run (W := [.r [] [], .br false]) (G := [.any (rg [(13, 4)]), .blk 900 (Blk.slc 47 19 (List.map nodC l)), .sort]) (by kernel_rfl) (.c (decide_eq_false (p := ((↑l.length : Int) < (↑l.length : Int))) (by omega)) <| .c (show BlkW (Blk.slc 47 19 (List.map nodC (List.take l.length l))) (Blk.slc 47 19 (List.map nodC l)) from (BlkW.rows (rows_to (nodC) (r := List.map nodC (List.take l.length l)) (l := List.take l.length l) (m := l) rfl (show (List.take l.length l) = (l) from (by (simp; done)))))) <| .n)
theorem fblk_c (l : List Nod) (a : Shp) (hl : l.length ≤ 1000) (hw : ∀ n ∈ l, n.w.length ≤ 100000 ∧ n.b.length ≤ 100000) : VT Try.prog (fnC Try.f28 [1, 1, 0, 1, 0]) (fblk_c_I l a 0) (.exit 0) (fblk_c_Z l a) :=
  VT.loop (fun k => fblk_c_I l a k) (l.length) (fun k hk => fblk_c_s l a hl hw k hk) (fblk_c_e l a hl hw) (by intro h; cases h)
theorem once_fix {l : List Nod} (o : orderedB l = true) (e : onceL l = l) : thrK (padK l l.length) (padK l l.length).length = l := by
  obtain ⟨h1, h2, h3⟩ := (once_iff o).2 e
  have e1 : padL l = l := padB_no _ (Nat.le_refl _) h1
  have e2 : thrL l = l := thrB_no o _ (Nat.le_refl _) (by rw [e1] at h2; exact h2)
  show thrL (padL l) = l
  rw [e1, e2]
/-- Whether it ends, in the program's words. -/
theorem once_told {l : List Nod} (o : orderedB l = true) : ((padB l l.length == false) && ((thrB (padK l l.length) (padK l l.length).length == false) && true) && (((List.map nodC (pruneL (thrK (padK l l.length) (padK l l.length).length))).length : Int) == ((List.map nodC (thrK (padK l l.length) (padK l l.length).length)).length : Int))) = decide (onceL l = l) := by
  rw [Bool.eq_iff_iff, decide_eq_true_iff, ← once_iff o]
  simp only [Bool.and_eq_true, beq_iff_eq, Bool.and_true, List.length_map, Int.natCast_inj, and_assoc]
  rw [thrK_len, padK_len]
  have e1 : (padL l).length = l.length := padL_len l
  have e2 : padL l = padK l l.length := rfl
  have e3 : onceL l = pruneL (thrK (padK l l.length) (padK l l.length).length) := rfl
  rw [e2, e3]
  have e4 : (padK l l.length).length = l.length := e1
  rw [e4]
noncomputable def fblk_l_I (l : List Nod) (m : Nat) (k : Nat) : VS := stt 54 [(5, .own 900)] [(900, .slc 47 19 ((itL l k).map nodC))]
noncomputable def fblk_l_Z (l : List Nod) (m : Nat) : VS := stt 54 [(4, .sl 19 ((itL l m).map nodC))] []
set_option maxRecDepth 100000 in
set_option maxHeartbeats 2000000 in
theorem fblk_l_s (l : List Nod) (m : Nat) (o : orderedB l = true) (h8 : l.length ≤ 8) (okl : ∀ n ∈ l, n.Ok) (wl : ∀ n ∈ l, n.w.length ≤ 100000 ∧ n.b.length ≤ 100000) (me : onceL (itL l m) = itL l m) (mk : ∀ k, k < m → onceL (itL l k) ≠ itL l k) (k : Nat) (hk : k < m) : VT Try.prog (fnC Try.f28 [1, 1, 1, 1, 0, 0]) (fblk_l_I l m k) .normal (fblk_l_I l m (k + 1)) := by
  have q4 := mk k hk
  have q5 := itL_le l k
  have q6 := itL_ordered o k
  have q7 := itL_ok o (by omega) okl k
  have q8 := itL_w wl k
  have p1 := padK_len (itL l k) (itL l k).length
  have p2 : orderedB (padK (itL l k) (itL l k).length) = true := padL_ordered q6
  have p3 := padK_mem q6 q7 (fun a c ha hc hf => ha.took hc hf) (itL l k).length (Nat.le_refl _)
  have p4 := padK_mem q6 q8 (fun a c ha hc hf => hc) (itL l k).length (Nat.le_refl _)
  have p5 := thrK_len (padK (itL l k) (itL l k).length) (padK (itL l k) (itL l k).length).length
  have p6 : orderedB (thrK (padK (itL l k) (itL l k).length) (padK (itL l k) (itL l k).length).length) = true := thrL_ordered p2
  have p7 := (thrK_ok p2 (by omega) p3 p4 (padK (itL l k) (itL l k).length).length (Nat.le_refl _)).2
  have p8 := once_told q6
  rw [decide_eq_false q4] at p8
  have oz0 := @fpads_v (itL l k) q6 (by omega) q7 q8
  have oz1 := @fthr_v (padK (itL l k) (itL l k).length) p2 (by omega) p3 p4
  have oz2 := @pblock_o (thrK (padK (itL l k) (itL l k).length) (padK (itL l k) (itL l k).length).length) (by omega) p7 p6
  exact VT.run (W := [.r [] [.callm [(900, 100000)] [] (rM oz0) (oM oz0), .callm [(900, 100000)] [] (rM oz1) (oM oz1)], .r [.frz 900] [.callm [] [(950, 20000)] (rM oz2) (oM oz2)], .r [] [.v (Value.bool (padB (itL l k) (itL l k).length == false && (thrB (padK (itL l k) (itL l k).length) (padK (itL l k) (itL l k).length).length == false && true))), .op false, .op false, .op false, .op false, .op false, .sel 2], .br false, .r [] []]) (G := [.any (rg [(11, 2), (35, 11), (51, 1), (53, 1)]), .drop [11], .ren 20000 900, .blk 900 (Blk.slc 47 19 (List.map nodC (itL l (k + 1)))), .sort]) (by kernel_rfl) (.c oz0 <| .c oz1 <| .c oz2 <| .c (show BinTo Try.prog BinOp.eql 149 (Operand.tmp 42) (Operand.tmp 43) (Value.agg #[Value.bool (padB (itL l k) (itL l k).length), Value.bool (thrB (padK (itL l k) (itL l k).length) (padK (itL l k) (itL l k).length).length)]) (Value.agg #[Value.bool false, Value.bool false]) (Value.bool (padB (itL l k) (itL l k).length == false && (thrB (padK (itL l k) (itL l k).length) (padK (itL l k) (itL l k).length).length == false && true))) from ((bin_arrB (l := [(padB (itL l k) (itL l k).length, false), (thrB (padK (itL l k) (itL l k).length) (padK (itL l k) (itL l k).length).length, false)]) (by kernel_rfl) (by kernel_rfl) _ _).1)) <| .c p8 <| .c (show BlkW (Blk.slc 47 19 (List.map nodC (pruneL (thrK (padK (itL l k) (itL l k).length) (padK (itL l k) (itL l k).length).length)))) (Blk.slc 47 19 (List.map nodC (itL l (k + 1)))) from (BlkW.rows (rows_to (nodC) (r := List.map nodC (pruneL (thrK (padK (itL l k) (itL l k).length) (padK (itL l k) (itL l k).length).length))) (l := pruneL (thrK (padK (itL l k) (itL l k).length) (padK (itL l k) (itL l k).length).length)) (m := itL l (k + 1)) rfl (show (pruneL (thrK (padK (itL l k) (itL l k).length) (padK (itL l k) (itL l k).length).length)) = (itL l (k + 1)) from (by rfl))))) <| .n)
set_option maxRecDepth 100000 in
set_option maxHeartbeats 2000000 in
theorem fblk_l_e (l : List Nod) (m : Nat) (o : orderedB l = true) (h8 : l.length ≤ 8) (okl : ∀ n ∈ l, n.Ok) (wl : ∀ n ∈ l, n.w.length ≤ 100000 ∧ n.b.length ≤ 100000) (me : onceL (itL l m) = itL l m) (mk : ∀ k, k < m → onceL (itL l k) ≠ itL l k) : VT Try.prog (fnC Try.f28 [1, 1, 1, 1, 0, 0]) (fblk_l_I l m (m)) (.ret) (fblk_l_Z l m) := by
  have q5 := itL_le l m
  have q6 := itL_ordered o m
  have q7 := itL_ok o (by omega) okl m
  have q8 := itL_w wl m
  have p1 := padK_len (itL l m) (itL l m).length
  have p2 : orderedB (padK (itL l m) (itL l m).length) = true := padL_ordered q6
  have p3 := padK_mem q6 q7 (fun a c ha hc hf => ha.took hc hf) (itL l m).length (Nat.le_refl _)
  have p4 := padK_mem q6 q8 (fun a c ha hc hf => hc) (itL l m).length (Nat.le_refl _)
  have p5 := thrK_len (padK (itL l m) (itL l m).length) (padK (itL l m) (itL l m).length).length
  have p6 : orderedB (thrK (padK (itL l m) (itL l m).length) (padK (itL l m) (itL l m).length).length) = true := thrL_ordered p2
  have p7 := (thrK_ok p2 (by omega) p3 p4 (padK (itL l m) (itL l m).length).length (Nat.le_refl _)).2
  have p8 := once_told q6
  rw [decide_eq_true me] at p8
  have p9 := once_fix q6 me
  have oz0 := @fpads_v (itL l m) q6 (by omega) q7 q8
  have oz1 := @fthr_v (padK (itL l m) (itL l m).length) p2 (by omega) p3 p4
  have oz2 := @pblock_o (thrK (padK (itL l m) (itL l m).length) (padK (itL l m) (itL l m).length).length) (by omega) p7 p6
  exact VT.run (W := [.r [] [.callm [(900, 100000)] [] (rM oz0) (oM oz0), .callm [(900, 100000)] [] (rM oz1) (oM oz1)], .r [.frz 900] [.callm [] [(950, 20000)] (rM oz2) (oM oz2)], .r [] [.v (Value.bool (padB (itL l m) (itL l m).length == false && (thrB (padK (itL l m) (itL l m).length) (padK (itL l m) (itL l m).length).length == false && true))), .op false, .op false, .op false, .op false, .op false, .sel 2], .br true, .r [] []]) (G := [.any (rg [(5, 1), (11, 2), (35, 11), (51, 2)]), .drop [11, 20000], .weak 4 (AV.sl 19 (List.map nodC (itL l m))), .sort]) (by kernel_rfl) (.c oz0 <| .c oz1 <| .c oz2 <| .c (show BinTo Try.prog BinOp.eql 149 (Operand.tmp 42) (Operand.tmp 43) (Value.agg #[Value.bool (padB (itL l m) (itL l m).length), Value.bool (thrB (padK (itL l m) (itL l m).length) (padK (itL l m) (itL l m).length).length)]) (Value.agg #[Value.bool false, Value.bool false]) (Value.bool (padB (itL l m) (itL l m).length == false && (thrB (padK (itL l m) (itL l m).length) (padK (itL l m) (itL l m).length).length == false && true))) from ((bin_arrB (l := [(padB (itL l m) (itL l m).length, false), (thrB (padK (itL l m) (itL l m).length) (padK (itL l m) (itL l m).length).length, false)]) (by kernel_rfl) (by kernel_rfl) _ _).1)) <| .c p8 <| .c (show Weak (AV.sl 19 (List.map nodC (thrK (padK (itL l m) (itL l m).length) (padK (itL l m) (itL l m).length).length))) (AV.sl 19 (List.map nodC (itL l m))) from (Weak.rows (rows_to (nodC) (r := List.map nodC (thrK (padK (itL l m) (itL l m).length) (padK (itL l m) (itL l m).length).length)) (l := thrK (padK (itL l m) (itL l m).length) (padK (itL l m) (itL l m).length).length) (m := itL l m) rfl (show (thrK (padK (itL l m) (itL l m).length) (padK (itL l m) (itL l m).length).length) = (itL l m) from p9)))) <| .n)
theorem fblk_l (l : List Nod) (m : Nat) (o : orderedB l = true) (h8 : l.length ≤ 8) (okl : ∀ n ∈ l, n.Ok) (wl : ∀ n ∈ l, n.w.length ≤ 100000 ∧ n.b.length ≤ 100000) (me : onceL (itL l m) = itL l m) (mk : ∀ k, k < m → onceL (itL l k) ≠ itL l k) : VT Try.prog (fnC Try.f28 [1, 1, 1, 1, 0]) (fblk_l_I l m 0) (.ret) (fblk_l_Z l m) :=
  VT.loop (fun k => fblk_l_I l m k) (m) (fun k hk => fblk_l_s l m o h8 okl wl me mk k hk) (fblk_l_e l m o h8 okl wl me mk) (by intro h; cases h)
end Go.Proofs.Ytgecmooedhnenaa

/- Which nodes a block has when several are one: the law. No condition. -/
namespace Go.Proofs.Ytgecmooedhnenaa
open Go.RowKit
set_option linter.unusedSimpArgs false
set_option linter.unusedVariables false
set_option linter.unnecessarySimpa false

set_option maxRecDepth 100000 in
set_option maxHeartbeats 2000000 in
theorem fblk_m (l : List Nod) (a : Shp) (m : Nat) (h : SOK l a) (okl : ∀ n ∈ l, n.Ok) (wl : ∀ n ∈ l, n.w.length ≤ 100000 ∧ n.b.length ≤ 100000) (me : onceL (itL l m) = itL l m) (mk : ∀ k, k < m → onceL (itL l k) ≠ itL l k) : VC Try.prog 28 ([.sl 19 (l.map nodC), shp a]) (.sl 19 ((itL l m).map nodC)) := by
  have q1 := h.o
  have q2 := h.f
  have q3 := h.i.ok
  have q4 : (List.map nodC l).length = l.length := List.length_map _
  have oz2 := @fblk_c (l) (a) (by omega) wl
  have oz3 := @shapes_y (l) (a) okl wl h
  have oz6 := @fblk_l (l) (m) q1 q2 okl wl me mk
  exact VC.run (fn := Try.f28) (W := [.r [] [], .r [] [], .r [] [], .code [.any [1, 4], .weak 14 (i64 (↑l.length : Int)), .weak 15 (i64 (↑0 : Int)), .nils 5 900 47 19, .sort] (Exit.exit 0) (zO oz2), .r [] [.callr (rO oz3)], .r [] [], .br false, .code [.any (rg [(0, 1), (3, 1), (8, 3), (25, 9)]), .drop [3], .blk 900 (Blk.slc 47 19 (List.map nodC (itL l 0))), .sort] (Exit.ret) (zO oz6)]) Try.func28 (by kernel_rfl) (.c (Weak.int (k := .i64) (show (((↑(List.map nodC l).length : Int)) : Int) = ((↑l.length : Int)) from (by omega))) <| .c (Weak.int (k := .i64) (show ((0) : Int) = ((↑0 : Int)) from (by omega))) <| .c oz2 <| .c oz3 <| .c (show false = false by with_reducible rfl) <| .c (show BlkW (Blk.slc 47 19 (List.map nodC l)) (Blk.slc 47 19 (List.map nodC (itL l 0))) from (BlkW.rows (rows_to (nodC) (r := List.map nodC l) (l := l) (m := itL l 0) rfl (show (l) = (itL l 0) from (by rfl))))) <| .c oz6 <| .n)

set_option maxRecDepth 100000 in
set_option maxHeartbeats 2000000 in
theorem fblk_n (l : List Nod) (a : Shp) (hn : ¬ SOK l a) (hl : l.length ≤ 1000) (ok : a.Ok) (okl : ∀ n ∈ l, n.Ok) (wl : ∀ n ∈ l, n.w.length ≤ 100000 ∧ n.b.length ≤ 100000) : VC Try.prog 28 ([.sl 19 (l.map nodC), shp a]) (.sl 19 (l.map nodC)) := by
  have q := shapesE_n hn
  have q2 : ((shapesE l a).2 != 0) = true := by simpa using q
  have q4 : (List.map nodC l).length = l.length := List.length_map _
  have oz2 := @fblk_c (l) (a) hl wl
  have oz3 := @shapes_n (l) (a) okl wl ok hl hn
  exact VC.run (fn := Try.f28) (W := [.r [] [], .r [] [], .r [] [], .code [.any [1, 4], .weak 14 (i64 (↑l.length : Int)), .weak 15 (i64 (↑0 : Int)), .nils 5 900 47 19, .sort] (Exit.exit 0) (zO oz2), .r [] [.callr (rO oz3)], .r [] [], .br true, .r [] []]) Try.func28 (by kernel_rfl) (.c (Weak.int (k := .i64) (show (((↑(List.map nodC l).length : Int)) : Int) = ((↑l.length : Int)) from (by omega))) <| .c (Weak.int (k := .i64) (show ((0) : Int) = ((↑0 : Int)) from (by omega))) <| .c oz2 <| .c oz3 <| .c q2 <| .n)
theorem fblk_y (l : List Nod) (a : Shp) (h : SOK l a) (okl : ∀ n ∈ l, n.Ok) (wl : ∀ n ∈ l, n.w.length ≤ 100000 ∧ n.b.length ≤ 100000) : VC Try.prog 28 [.sl 19 (l.map nodC), shp a] (.sl 19 ((fuseL l).map nodC)) := by
  obtain ⟨q1, q2, q3⟩ := stop_at h.o h.f
  rw [fuseL_eq]; exact fblk_m l a (stopK l) h okl wl q2 q3
theorem fuse_ok {l : List Nod} {a : Shp} (h : SOK l a) (okl : ∀ n ∈ l, n.Ok) : SOK (fuseL l) a ∧ (∀ n ∈ fuseL l, n.Ok) := by
  have f := (h.fine okl).fuse nextE_floc
  have hl : (fuseL l).length ≤ l.length := itL_le l _
  exact ⟨⟨h.i, List.length_pos_iff.2 f.1.ne, Nat.le_trans hl h.f, f.1.e⟩, f.1.ok⟩
abbrev kF1 : Nod := ⟨7, 0, 0, 0, 0, 0, 0, 0, 0, [], [], 1, 0, 0, 0, 0, 0, -128, 127⟩
abbrev kF2 : Nod := ⟨7, 0, 0, 0, 0, 0, 0, 1, 0, [], [], 1, 0, 0, 0, 0, 0, -128, 127⟩
theorem kF1_ok : Nod.Ok kF1 := by
  constructor <;> first | (constructor <;> decide) | (intro v hv; cases hv)
theorem kF2_ok : Nod.Ok kF2 := by
  constructor <;> first | (constructor <;> decide) | (intro v hv; cases hv)
theorem known52_a : VC Try.prog 89 [.agg [i64 7, i64 0, i64 0, i64 0, i64 0, i64 0, i64 0, i8 0, i8 0, .sl 1 [], .sl 1 [], i32 1, i64 0, i8 0, i32 0, i64 0, i8 0, i8 (-128), i8 127]] (bv true) :=
  VC.to (fsame_v kF1 kF1_ok (by decide) (by decide)) (by kernel_rfl)
theorem known52_b : VC Try.prog 89 [.agg [i64 7, i64 0, i64 0, i64 0, i64 0, i64 0, i64 0, i8 1, i8 0, .sl 1 [], .sl 1 [], i32 1, i64 0, i8 0, i32 0, i64 0, i8 0, i8 (-128), i8 127]] (bv false) :=
  VC.to (fsame_v kF2 kF2_ok (by decide) (by decide)) (by kernel_rfl)
set_option maxRecDepth 100000 in
set_option maxHeartbeats 2000000 in
theorem known52_v   : VC Try.prog 27 ([]) (bv true) := by
  have oz1 := @known52_a
  have oz2 := (show true = true by with_reducible rfl)
  have oz5 := @known52_b
  exact VC.run (fn := Try.f27) (W := [.r [] [], .r [] [], .r [] [], .r [] [], .r [] [.call (aO oz1) (rO oz1), .br true, .br true, .call (aO oz5) (rO oz5), .br true, .br true]]) Try.func27 (by kernel_rfl) (.c (show WeakL [AV.agg [i64 7, i64 0, i64 0, i64 0, i64 0, i64 0, i64 0, i8 0, i8 0, AV.lit (Value.slice none 0 0), AV.lit (Value.slice none 0 0), i32 1, i64 0, i8 0, i32 0, i64 0, i8 0, i8 (-128), i8 127]] [AV.agg [i64 7, i64 0, i64 0, i64 0, i64 0, i64 0, i64 0, i8 0, i8 0, AV.sl 1 [], AV.sl 1 [], i32 1, i64 0, i8 0, i32 0, i64 0, i8 0, i8 (-128), i8 127]] from (.cons (Weak.agg (.cons (.refl _) (.cons (.refl _) (.cons (.refl _) (.cons (.refl _) (.cons (.refl _) (.cons (.refl _) (.cons (.refl _) (.cons (.refl _) (.cons (.refl _) (.cons (Weak.nil _) (.cons (Weak.nil _) (.cons (.refl _) (.cons (.refl _) (.cons (.refl _) (.cons (.refl _) (.cons (.refl _) (.cons (.refl _) (.cons (.refl _) (.cons (.refl _) .nil)))))))))))))))))))) .nil)) <| .c oz1 <| .c oz2 <| .c oz2 <| .c (show WeakL [AV.agg [i64 7, i64 0, i64 0, i64 0, i64 0, i64 0, i64 0, i8 1, i8 0, AV.lit (Value.slice none 0 0), AV.lit (Value.slice none 0 0), i32 1, i64 0, i8 0, i32 0, i64 0, i8 0, i8 (-128), i8 127]] [AV.agg [i64 7, i64 0, i64 0, i64 0, i64 0, i64 0, i64 0, i8 1, i8 0, AV.sl 1 [], AV.sl 1 [], i32 1, i64 0, i8 0, i32 0, i64 0, i8 0, i8 (-128), i8 127]] from (.cons (Weak.agg (.cons (.refl _) (.cons (.refl _) (.cons (.refl _) (.cons (.refl _) (.cons (.refl _) (.cons (.refl _) (.cons (.refl _) (.cons (.refl _) (.cons (.refl _) (.cons (Weak.nil _) (.cons (Weak.nil _) (.cons (.refl _) (.cons (.refl _) (.cons (.refl _) (.cons (.refl _) (.cons (.refl _) (.cons (.refl _) (.cons (.refl _) (.cons (.refl _) .nil)))))))))))))))))))) .nil)) <| .c oz5 <| .c oz2 <| .c oz2 <| .n)

noncomputable def fuseBlocks_l_I (L : List Nod) (k : Nat) : VS := stt 71 [(5, .sl 19 (L.map nodC)), (6, .sl 19 (L.map nodC)), (7, .sl 19 (L.map nodC)), (8, i64 k)] []
noncomputable def fuseBlocks_l_Z (L : List Nod) : VS := fuseBlocks_l_I L (L.length)
set_option maxRecDepth 100000 in
set_option maxHeartbeats 2000000 in
theorem fuseBlocks_l_s (L : List Nod) (hl : L.length ≤ 1000) (hw : ∀ n ∈ L, n.w.length ≤ 100000 ∧ n.b.length ≤ 100000) (k : Nat) (hk : k < L.length) : VT Try.prog (fnC Try.f6 [1, 1, 1, 1, 1, 0, 1, 0, 0]) (fuseBlocks_l_I L k) .normal (fuseBlocks_l_I L (k + 1)) := by
  have q := getD_in hw hk
  obtain ⟨q1, q2⟩ := q
  have oz1 := (show 0 ≤ (↑k : Int) by omega)
  have oz2 := (map_at (nodC) (default) (l := L) (i := k) hk)
  have oz5 := @kindsSame_v (L.getD k default) q1 q2
  have oz6 := (show false = false by with_reducible rfl)
  exact VT.run (W := [.r [] [], .br true, .r [] [.row (sO oz2), .row (sO oz2), .callr (rO oz5), .br true, .br true, .br true, .row (sO oz2), .br true, .br true, .br true, .br true, .row (sO oz2), .br true, .br true, .callr (rO oz5), .br true, .br false], .br false, .r [] [.n ((↑k : Int) + 1)]]) (G := [.any (rg [(42, 28)]), .weak 8 (i64 (↑(k + 1) : Int)), .sort]) (by kernel_rfl) (.c (show decide ((↑k : Int) < (↑(List.map nodC L).length : Int)) = true by (simp; omega)) <| .c oz1 <| .c oz2 <| .c oz1 <| .c oz2 <| .c oz5 <| .c oz6 <| .c oz6 <| .c oz6 <| .c oz1 <| .c oz2 <| .c oz6 <| .c oz6 <| .c oz6 <| .c oz6 <| .c oz1 <| .c oz2 <| .c oz6 <| .c oz6 <| .c oz5 <| .c oz6 <| .c oz6 <| .c oz6 <| .c (IntWalk.i64_in ((↑k : Int) + 1) (by omega)) <| .c (Weak.int (k := .i64) (show (((↑k : Int) + 1) : Int) = ((↑(k + 1) : Int)) from (by omega))) <| .n)
set_option maxRecDepth 100000 in
set_option maxHeartbeats 2000000 in
theorem fuseBlocks_l_e (L : List Nod) (hl : L.length ≤ 1000) (hw : ∀ n ∈ L, n.w.length ≤ 100000 ∧ n.b.length ≤ 100000) : VT Try.prog (fnC Try.f6 [1, 1, 1, 1, 1, 0, 1, 0, 0]) (fuseBlocks_l_I L (L.length)) (.exit 0) (fuseBlocks_l_Z L) := by
  exact VT.run (W := [.r [] [], .br false]) (G := [.any (rg [(42, 4)]), .sort]) (by kernel_rfl) (.c (show decide ((↑L.length : Int) < (↑(List.map nodC L).length : Int)) = false by (simp; done)) <| .n)
theorem fuseBlocks_l (L : List Nod) (hl : L.length ≤ 1000) (hw : ∀ n ∈ L, n.w.length ≤ 100000 ∧ n.b.length ≤ 100000) : VT Try.prog (fnC Try.f6 [1, 1, 1, 1, 1, 0, 1, 0]) (fuseBlocks_l_I L 0) (.exit 0) (fuseBlocks_l_Z L) :=
  VT.loop (fun k => fuseBlocks_l_I L k) (L.length) (fun k hk => fuseBlocks_l_s L hl hw k hk) (fuseBlocks_l_e L hl hw) (by intro h; cases h)

set_option maxRecDepth 100000 in
set_option maxHeartbeats 2000000 in
theorem fuseBlocks_y (l F : List Nod) (a : Shp) (h : fewB l 0 = true) (hl : l.length ≤ 12) (hF : F.length ≤ l.length) (wF : ∀ n ∈ F, n.w.length ≤ 100000 ∧ n.b.length ≤ 100000) (h1 : VC Try.prog 28 [.sl 19 (l.map nodC), shp a] (.sl 19 (F.map nodC))) (h2 : VC Try.prog 28 [.sl 19 (F.map nodC), shp a] (.sl 19 (F.map nodC))) (h3 : VC Try.prog 29 [.sl 19 (l.map nodC), shp a] (.sl 19 (F.map nodC))) : VC Try.prog 6 ([.sl 19 (l.map nodC), shp a]) (bv true) := by
  have q4 : (List.map nodC l).length = l.length := List.length_map _
  have q5 : (List.map nodC F).length = F.length := List.length_map _
  have oz1 := @few_0 (l)
  have oz3 := @h1
  have oz4 := @h3
  have oz5 := @h2
  have oz8 := @fuseBlocks_l (F) (by omega) wF
  have oz9 := @known52_v
  exact VC.run (fn := Try.f6) (W := [.r [] [], .r [] [.call (aO oz1) (rO oz1)], .br false, .r [] [.callr (rO oz3), .callr (rO oz4)], .r [] [.callr (rO oz5)], .r [] [.op false, .op false, .op false, .op false, .op false, .sel 1, .op false, .op false, .op false, .op false, .op false, .sel 1], .br false, .r [] [], .code [.any (rg [(0, 2), (3, 2), (9, 4), (14, 15), (34, 2), (41, 1)]), .drop [3], .weak 8 (i64 (↑0 : Int)), .sort] (Exit.exit 0) (zO oz8), .r [] [.callr (rO oz9)]]) Try.func6 (by kernel_rfl) (.c (show WeakL [AV.sl 19 (List.map nodC l), AV.agg [i64 0, i64 0, i64 0, AV.lit (Value.slice none 0 0)]] [AV.sl 19 (List.map nodC l), AV.agg [i64 0, i64 0, i64 0, AV.sl 1 []]] from (.cons (.refl _) (.cons (Weak.agg (.cons (.refl _) (.cons (.refl _) (.cons (.refl _) (.cons (Weak.nil _) .nil))))) .nil))) <| .c oz1 <| .c (show (!fewB l 0) = false by (simp; omega)) <| .c oz3 <| .c oz4 <| .c oz5 <| .c (show ((↑(List.map nodC F).length : Int) != (↑(List.map nodC F).length : Int) || (↑(List.map nodC F).length : Int) != (↑(List.map nodC F).length : Int) || decide ((↑(List.map nodC F).length : Int) > (↑(List.map nodC l).length : Int))) = false by (simp; omega)) <| .c (Weak.int (k := .i64) (show ((0) : Int) = ((↑0 : Int)) from (by omega))) <| .c oz8 <| .c oz9 <| .n)

set_option maxRecDepth 100000 in
set_option maxHeartbeats 2000000 in
theorem fuseBlocks_n (l : List Nod) (a : Shp) (h : fewB l 0 = false) : VC Try.prog 6 ([.sl 19 (l.map nodC), shp a]) (bv true) := by
  have oz1 := @few_0 (l)
  have oz3 := @known52_v
  exact VC.run (fn := Try.f6) (W := [.r [] [], .r [] [.call (aO oz1) (rO oz1)], .br true, .r [] [.callr (rO oz3)]]) Try.func6 (by kernel_rfl) (.c (show WeakL [AV.sl 19 (List.map nodC l), AV.agg [i64 0, i64 0, i64 0, AV.lit (Value.slice none 0 0)]] [AV.sl 19 (List.map nodC l), AV.agg [i64 0, i64 0, i64 0, AV.sl 1 []]] from (.cons (.refl _) (.cons (Weak.agg (.cons (.refl _) (.cons (.refl _) (.cons (.refl _) (.cons (Weak.nil _) .nil))))) .nil))) <| .c oz1 <| .c (show (!fewB l 0) = true by (simp; omega)) <| .c oz3 <| .n)
theorem fuseBlocks_v (l : List Nod) (a : Shp) (okl : ∀ n ∈ l, n.Ok) (ok : a.Ok) : VC Try.prog 6 [.sl 19 (l.map nodC), shp a] (bv true) := by
  cases h : fewB l 0 with
  | false => exact fuseBlocks_n l a h
  | true =>
    have hl := (few_facts h).1
    have wl := few_wide h
    by_cases s : SOK l a
    · obtain ⟨s2, ok2⟩ := fuse_ok s okl
      have w2 : ∀ n ∈ fuseL l, n.w.length ≤ 100000 ∧ n.b.length ≤ 100000 := itL_w wl _
      have again := fblk_y (fuseL l) a s2 ok2 w2
      rw [(fuse_again s.o s.f).2] at again
      exact fuseBlocks_y l (fuseL l) a h hl (itL_le l _) w2 (fblk_y l a s okl wl) again (rfblk_y l a s okl wl)
    · have b := fblk_n l a s (by omega) ok okl wl
      exact fuseBlocks_y l l a h hl (Nat.le_refl _) wl b b (rfblk_n l a s (by omega) ok okl wl)
end Go.Proofs.Ytgecmooedhnenaa

