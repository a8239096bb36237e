/- What a window makes, by the program. No condition. -/
import Derived.Test.YtgecmooedhnenaaCv
namespace Go.Proofs.Ytgecmooedhnenaa
open Go.RowKit
set_option linter.unusedSimpArgs false
set_option linter.unusedVariables false
set_option linter.unnecessarySimpa false

/-- The number at a place. -/
abbrev gt (l : List Int) (i : Int) : Int := l.getD i.toNat 0
theorem gt_of {P : Int → Prop} {l : List Int} (h : ∀ v ∈ l, P v) (h0 : P 0) (i : Nat) : P (l.getD i 0) := by
  rw [List.getD_eq_getElem?_getD]
  by_cases hi : i < l.length
  · rw [List.getElem?_eq_getElem hi]; exact h _ (List.getElem_mem hi)
  · rw [List.getElem?_eq_none (by omega)]; exact h0
theorem gt8 {l : List Int} (h : ∀ v ∈ l, In8 v) (i : Nat) : -128 ≤ l.getD i 0 ∧ l.getD i 0 ≤ 127 := gt_of h ⟨by decide, by decide⟩ i
theorem gt32 {l : List Int} (h : ∀ v ∈ l, In32 v) (i : Nat) : -2147483648 ≤ l.getD i 0 ∧ l.getD i 0 ≤ 2147483647 := gt_of h ⟨by decide, by decide⟩ i
theorem prod_bd {a b : Int} (h : -128 ≤ a ∧ a ≤ 127) (h' : -255 ≤ b ∧ b ≤ 255) : -32640 ≤ a * b ∧ a * b ≤ 32640 := by
  have h1 : (a + 128) * (255 - b) ≥ 0 := Int.mul_nonneg (by omega) (by omega)
  have h2 : (128 - a) * (255 + b) ≥ 0 := Int.mul_nonneg (by omega) (by omega)
  have h3 : (a + 128) * (255 + b) ≥ 0 := Int.mul_nonneg (by omega) (by omega)
  have h4 : (128 - a) * (255 - b) ≥ 0 := Int.mul_nonneg (by omega) (by omega)
  simp only [Int.add_mul, Int.sub_mul, Int.mul_add, Int.mul_sub] at h1 h2 h3 h4
  omega
abbrev win (T : Ten) (n : Nod) : AV := .agg ([i64 T.h, i64 T.x, i64 T.c, ints .i8 T.d] ++ nodC n)
/-- One product. -/
def cterm (T : Ten) (n : Nod) (a f : Int) (c : Nat) : Int := gt n.w (a + c) * (gt T.d (f + c) - n.za)
theorem cterm_bd {T : Ten} {n : Nod} (ok : T.Ok) (okn : n.Ok) (a f : Int) (c : Nat) : -32640 ≤ cterm T n a f c ∧ cterm T n a f c ≤ 32640 := by
  have h1 := gt8 okn.w (a + c).toNat
  have h2 := gt8 ok.d (f + c).toNat
  have h3 : -128 ≤ n.za ∧ n.za ≤ 127 := okn.za
  exact prod_bd h1 (b := T.d.getD (f + c).toNat 0 - n.za) (by omega)
/-- Sums of 32 bits. -/
def acc32 (v : Int) (f : Nat → Int) : Nat → Int
  | 0 => v
  | k + 1 => IntKind.i32.wrap (acc32 v f k + f k)
/-- What a row of a window makes. -/
def rowAcc (T : Ten) (n : Nod) (a h w : Int) : Nat → Int
  | 0 => 0
  | j + 1 => if 0 ≤ w + (j : Int) ∧ w + (j : Int) < T.x then acc32 (rowAcc T n a h w j) (cterm T n (a + (j : Int) * T.c) ((h * T.x + (w + (j : Int))) * T.c)) T.c.toNat else rowAcc T n a h w j
end Go.Proofs.Ytgecmooedhnenaa

