/- A tensor without its first rows: what a window makes of it. No condition. -/
import Derived.Test.YtcegfkmelcjdhaaCvG
namespace Go.Proofs.Ytcegfkmelcjdhaa
open Go.RowKit
set_option linter.unusedSimpArgs false
set_option linter.unusedVariables false
set_option linter.unnecessarySimpa false

/-- A tensor without its first rows. -/
def dropT (T : Ten) (n : Nod) : Ten := ⟨T.h - n.ns, T.x, T.c, T.d.drop (n.ns * T.x * T.c).toNat⟩
theorem sumN_mul (z : Int) {f g : Nat → Int} {a b : Nat} (h : a = b) (e : ∀ k, k < a → f k = g k) : sumN f a = sumN g b := by subst h; exact sumN_congr _ e
theorem moves_sum {T : Ten} {n : Nod} (ok : CvOk T n) (ok2 : CvOk (dropT T n) n) {h w o : Int} (h0 : 0 ≤ h) (hp : n.np ≤ h * n.ns) : sumE (dropT T n) n h w o = sumE T n (h + 1) w o := by
  unfold sumE
  rw [accN_eq, accN_eq]
  congr 1
  refine sumN_congr _ fun i _ => ?_
  unfold rowE
  refine sumN_congr _ fun j _ => ?_
  unfold colE
  have hs := ok.n.s1
  have e1 : (h + 1) * n.ns = h * n.ns + n.ns := by rw [Int.add_mul, Int.one_mul]
  have hin : inT (dropT T n) (h * n.ns + (i : Int) - n.np) (w * n.ns - n.np + (j : Int)) ↔ inT T ((h + 1) * n.ns + (i : Int) - n.np) (w * n.ns - n.np + (j : Int)) := by
    show (0 ≤ _ ∧ _ < T.h - n.ns ∧ 0 ≤ _ ∧ _ < T.x) ↔ (0 ≤ _ ∧ _ < T.h ∧ 0 ≤ _ ∧ _ < T.x)
    rw [e1]; omega
  by_cases hi : inT (dropT T n) (h * n.ns + (i : Int) - n.np) (w * n.ns - n.np + (j : Int))
  · have hi2 := hin.1 hi
    rw [if_pos hi, if_pos hi2]
    refine sumN_mul 0 rfl fun c _ => ?_
    show gt n.w (((o * n.nk + (i : Int)) * n.nk + (j : Int)) * T.c + (c : Int)) * (gt (T.d.drop (n.ns * T.x * T.c).toNat) (((h * n.ns + (i : Int) - n.np) * T.x + (w * n.ns - n.np + (j : Int))) * T.c + (c : Int)) - n.za) =
      gt n.w (((o * n.nk + (i : Int)) * n.nk + (j : Int)) * T.c + (c : Int)) * (gt T.d ((((h + 1) * n.ns + (i : Int) - n.np) * T.x + (w * n.ns - n.np + (j : Int))) * T.c + (c : Int)) - n.za)
    congr 2
    obtain ⟨a1, a2, a3, a4⟩ := hi
    have c1 := ok.n.c1
    have x1 := ok.n.x1
    have p1 : 0 ≤ (h * n.ns + (i : Int) - n.np) * T.x := Int.mul_nonneg a1 (by omega)
    have p2 : 0 ≤ ((h * n.ns + (i : Int) - n.np) * T.x + (w * n.ns - n.np + (j : Int))) * T.c := Int.mul_nonneg (by omega) (by omega)
    have p3 : 0 ≤ n.ns * T.x := Int.mul_nonneg (by omega) (by omega)
    have p4 : 0 ≤ n.ns * T.x * T.c := Int.mul_nonneg p3 (by omega)
    have e2 : (((h + 1) * n.ns + (i : Int) - n.np) * T.x + (w * n.ns - n.np + (j : Int))) * T.c = ((h * n.ns + (i : Int) - n.np) * T.x + (w * n.ns - n.np + (j : Int))) * T.c + n.ns * T.x * T.c := by
      rw [e1, ← Int.add_mul]
      congr 1
      rw [show h * n.ns + n.ns + (i : Int) - n.np = h * n.ns + (i : Int) - n.np + n.ns by omega, Int.add_mul]
      omega
    unfold gt
    rw [List.getD_eq_getElem?_getD, List.getD_eq_getElem?_getD, List.getElem?_drop, e2]
    congr 2
    omega
  · rw [if_neg hi, if_neg (fun h => hi (hin.2 h))]; rfl
theorem moves_h {T : Ten} {n : Nod} (ok : CvOk T n) (ok2 : CvOk (dropT T n) n) : (convE ⟨T.h, T.x, T.c⟩ n).1.h = (convE ⟨(dropT T n).h, (dropT T n).x, (dropT T n).c⟩ n).1.h + 1 ∧ (convE ⟨(dropT T n).h, (dropT T n).x, (dropT T n).c⟩ n).1.x = (convE ⟨T.h, T.x, T.c⟩ n).1.x := by
  have a := ok.n.sh
  have b := ok2.n.sh
  have c := ok.n.sx
  have d := ok2.n.sx
  have s := ok.n.s1
  refine ⟨?_, by rw [c, d]; rfl⟩
  rw [a, b]
  show _ = (T.h - n.ns + 2 * n.np - n.nk) / n.ns + 1 + 1
  rw [show T.h + 2 * n.np - n.nk = T.h - n.ns + 2 * n.np - n.nk + 1 * n.ns by omega, Int.add_mul_ediv_right _ _ (by omega)]
theorem at_idx {h X o i : Int} (X1 : 1 ≤ X) (o1 : 1 ≤ o) (i0 : 0 ≤ i) (i1 : i < X * o) : (h * (X * o) + i) / o / X = h ∧ (h * (X * o) + i) / o % X = i / o ∧ (h * (X * o) + i) % o = i % o := by
  have e : h * (X * o) + i = i + h * X * o := by rw [Int.mul_assoc]; omega
  have e1 : (h * (X * o) + i) / o = i / o + h * X := by rw [e, Int.add_mul_ediv_right _ _ (by omega)]
  have g0 : 0 ≤ i / o := Int.ediv_nonneg i0 (by omega)
  have g1 : i / o < X := Int.ediv_lt_of_lt_mul (by omega) i1
  rw [e1]
  refine ⟨by rw [Int.add_mul_ediv_right _ _ (by omega), Int.ediv_eq_zero_of_lt g0 g1]; omega, by rw [Int.add_mul_emod_self_right, Int.emod_eq_of_lt g0 g1], by rw [e, Int.add_mul_emod_self_right]⟩
theorem moves_get {T : Ten} {n : Nod} (ok : CvOk T n) (ok2 : CvOk (dropT T n) n) {h i : Nat} (hh : (h : Int) < (convOf (dropT T n) n).1.h) (hi : (i : Int) < (convOf T n).1.x * (convOf T n).1.c) (hp : n.np ≤ (h : Int) * n.ns) :
    (convOf (dropT T n) n).1.d.getD ((h : Int) * ((convOf T n).1.x * (convOf T n).1.c) + (i : Int)).toNat 0 = (convOf T n).1.d.getD (((h : Int) + 1) * ((convOf T n).1.x * (convOf T n).1.c) + (i : Int)).toNat 0 := by
  have m := moves_h ok ok2
  have o1 := ok.n.o1
  have X1 := ok.n.xe.1
  have H1 := ok.n.he.1
  have H2 := ok2.n.he.1
  have ec : (convOf T n).1.c = n.no := by rw [convOf_d ok]; exact ok.n.sc
  have ex : (convOf T n).1.x = (convE ⟨T.h, T.x, T.c⟩ n).1.x := by rw [convOf_d ok]
  have eh : (convOf (dropT T n) n).1.h = (convE ⟨(dropT T n).h, (dropT T n).x, (dropT T n).c⟩ n).1.h := by rw [convOf_d ok2]
  rw [ec, ex] at hi ⊢
  rw [eh] at hh
  have L0 : 0 ≤ (convE ⟨T.h, T.x, T.c⟩ n).1.x * n.no := Int.mul_nonneg (by omega) (by omega)
  have q0 : 0 ≤ (h : Int) * ((convE ⟨T.h, T.x, T.c⟩ n).1.x * n.no) := Int.mul_nonneg (by omega) L0
  have q1 : ((h : Int) + 1) * ((convE ⟨T.h, T.x, T.c⟩ n).1.x * n.no) = (h : Int) * ((convE ⟨T.h, T.x, T.c⟩ n).1.x * n.no) + (convE ⟨T.h, T.x, T.c⟩ n).1.x * n.no := by rw [Int.add_mul, Int.one_mul]
  have l1 : ((h : Int) * ((convE ⟨T.h, T.x, T.c⟩ n).1.x * n.no) + (i : Int)).toNat < (convOf (dropT T n) n).1.d.length := by
    rw [convOf_count ok2, m.2]
    have : (((convE ⟨(dropT T n).h, (dropT T n).x, (dropT T n).c⟩ n).1.h * (convE ⟨T.h, T.x, T.c⟩ n).1.x).toNat * n.no.toNat : Nat) = ((convE ⟨(dropT T n).h, (dropT T n).x, (dropT T n).c⟩ n).1.h * (convE ⟨T.h, T.x, T.c⟩ n).1.x * n.no).toNat := by
      rw [Int.toNat_mul (Int.mul_nonneg (by omega) (by omega)) (by omega)]
    rw [this, Int.mul_assoc]
    have := Int.mul_le_mul_of_nonneg_right (show (h : Int) + 1 ≤ (convE ⟨(dropT T n).h, (dropT T n).x, (dropT T n).c⟩ n).1.h by omega) L0
    omega
  have l2 : (((h : Int) + 1) * ((convE ⟨T.h, T.x, T.c⟩ n).1.x * n.no) + (i : Int)).toNat < (convOf T n).1.d.length := by
    rw [convOf_count ok, m.1]
    have : (((convE ⟨(dropT T n).h, (dropT T n).x, (dropT T n).c⟩ n).1.h + 1) * (convE ⟨T.h, T.x, T.c⟩ n).1.x).toNat * n.no.toNat = (((convE ⟨(dropT T n).h, (dropT T n).x, (dropT T n).c⟩ n).1.h + 1) * (convE ⟨T.h, T.x, T.c⟩ n).1.x * n.no).toNat := by
      rw [Int.toNat_mul (Int.mul_nonneg (by omega) (by omega)) (by omega)]
    rw [this, Int.mul_assoc]
    have := Int.mul_le_mul_of_nonneg_right (show (h : Int) + 1 + 1 ≤ (convE ⟨(dropT T n).h, (dropT T n).x, (dropT T n).c⟩ n).1.h + 1 by omega) L0
    have e3 := Int.add_mul ((h : Int) + 1) 1 ((convE ⟨T.h, T.x, T.c⟩ n).1.x * n.no)
    omega
  rw [convOf_get ok2 l1, convOf_get ok l2, m.2]
  have i1 := at_idx (h := (h : Int)) X1 o1 (Int.natCast_nonneg i) hi
  have i2 := at_idx (h := (h : Int) + 1) X1 o1 (Int.natCast_nonneg i) hi
  rw [Int.toNat_of_nonneg (by omega), Int.toNat_of_nonneg (by omega), i1.1, i1.2.1, i1.2.2, i2.1, i2.2.1, i2.2.2, moves_sum ok ok2 (by omega) hp]
/-- How long the sums are. -/
theorem convOf_long {T : Ten} {n : Nod} (ok : CvOk T n) : ((convOf T n).1.d.length : Int) = (convOf T n).1.h * ((convOf T n).1.x * (convOf T n).1.c) := by
  have o1 := ok.n.o1
  have X1 := ok.n.xe.1
  have H1 := ok.n.he.1
  have ec : (convOf T n).1.c = n.no := by rw [convOf_d ok]; exact ok.n.sc
  have ex : (convOf T n).1.x = (convE ⟨T.h, T.x, T.c⟩ n).1.x := by rw [convOf_d ok]
  have eh : (convOf T n).1.h = (convE ⟨T.h, T.x, T.c⟩ n).1.h := by rw [convOf_d ok]
  rw [convOf_count ok, ec, ex, eh, Int.natCast_mul, Int.toNat_of_nonneg (Int.mul_nonneg (by omega) (by omega)), Int.toNat_of_nonneg (by omega), Int.mul_assoc]
end Go.Proofs.Ytcegfkmelcjdhaa

