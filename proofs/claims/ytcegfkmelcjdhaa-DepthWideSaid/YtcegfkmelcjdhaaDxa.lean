/- With weights for all channels the sums are the same. No condition. -/
import Derived.Test.YtcegfkmelcjdhaaDw
namespace Go.Proofs.Ytcegfkmelcjdhaa
open Go.RowKit
set_option linter.unusedSimpArgs false
set_option linter.unusedVariables false
set_option linter.unnecessarySimpa false

theorem sumN_single {f : Nat → Int} {o : Nat} : ∀ n, o < n → (∀ c, c < n → c ≠ o → f c = 0) → sumN f n = f o
  | 0, h, _ => by omega
  | n + 1, h, hz => by
    rw [sumN]
    by_cases e : o = n
    · subst e
      rw [sumN_zero o fun c hc => hz c (by omega) (by omega)]; omega
    · rw [sumN_single n (by omega) fun c hc hne => hz c (by omega) hne, hz n (by omega) (Ne.symm e)]; omega
theorem accN_congr {v : Int} {f g : Nat → Int} (n : Nat) (h : ∀ k, k < n → f k = g k) : accN v f n = accN v g n := by
  rw [accN_eq, accN_eq, sumN_congr n h]
theorem toNat_mul_add (q c : Nat) {C : Int} (h : 0 ≤ C) : ((q : Int) * C + (c : Int)).toNat = q * C.toNat + c := by
  apply Int.ofNat_inj.1
  rw [Int.toNat_of_nonneg (by have := Int.mul_nonneg (show 0 ≤ (q : Int) by omega) h; omega), Int.natCast_add, Int.natCast_mul, Int.toNat_of_nonneg h]
theorem wide_col {T : Ten} {n : Nod} (hf : fitsW n T.c) (h w o i j : Nat) (ho : o < T.c.toNat) (hi : i < n.nk.toNat) (hj : j < n.nk.toNat) :
    colE T (wideN n T.c) o i ((h : Int) * n.ns + (i : Int) - n.np) ((w : Int) * n.ns - n.np) j = dcell T n h w o i j := by
  have hq0 := @wq_bd n T.c hf
  obtain ⟨c1, c2, k1, k5, h1, h2, h3⟩ := hf
  have ex : (w : Int) * n.ns - n.np + (j : Int) = (w : Int) * n.ns + (j : Int) - n.np := by omega
  unfold colE dcell
  rw [ex]
  by_cases hin : inT T ((h : Int) * n.ns + (i : Int) - n.np) ((w : Int) * n.ns + (j : Int) - n.np)
  · rw [if_pos hin, if_pos hin]
    have hqn : (((o : Int) * n.nk + (i : Int)) * n.nk + (j : Int)) = (((o * n.nk.toNat + i) * n.nk.toNat + j : Nat) : Int) := by
      rw [Int.natCast_add, Int.natCast_mul, Int.natCast_add, Int.natCast_mul, Int.toNat_of_nonneg (by omega)]
    have hlt : (o * n.nk.toNat + i) * n.nk.toNat + j < n.w.length := by
      have a := idx_bd (a := (o : Int)) (m := T.c) (b := (i : Int)) (n := n.nk) (by omega) (by omega) (by omega) (by omega)
      have b := idx_bd (a := (o : Int) * n.nk + (i : Int)) (m := T.c * n.nk) (b := (j : Int)) (n := n.nk) (by omega) (by omega) (by omega) (by omega)
      omega
    have hqk : ((o * n.nk.toNat + i) * n.nk.toNat + j) / n.nk.toNat / n.nk.toNat = o := by
      rw [Nat.mul_comm, Nat.mul_add_div (by omega), Nat.div_eq_of_lt hj, Nat.add_zero, Nat.mul_comm, Nat.mul_add_div (by omega), Nat.div_eq_of_lt hi, Nat.add_zero]
    have term : ∀ c, c < T.c.toNat → cterm T (wideN n T.c) (((((o : Int) * n.nk + (i : Int)) * n.nk + (j : Int))) * T.c) ((((h : Int) * n.ns + (i : Int) - n.np) * T.x + ((w : Int) * n.ns + (j : Int) - n.np)) * T.c) c =
        (if c = o then n.w.getD ((o * n.nk.toNat + i) * n.nk.toNat + j) 0 else 0) * (T.d.getD ((((h : Int) * n.ns + (i : Int) - n.np) * T.x + ((w : Int) * n.ns + (j : Int) - n.np)) * T.c + (c : Int)).toNat 0 - n.za) := by
      intro c hc
      unfold cterm
      have e : ((((o : Int) * n.nk + (i : Int)) * n.nk + (j : Int)) * T.c + (c : Int)).toNat = ((o * n.nk.toNat + i) * n.nk.toNat + j) * T.c.toNat + c := by
        rw [hqn]; exact toNat_mul_add _ _ (by omega)
      show (wideTo n T.c n.w.length).getD _ 0 * (T.d.getD _ 0 - n.za) = _
      rw [e]
      have hp : ((o * n.nk.toNat + i) * n.nk.toNat + j) * T.c.toNat + c < n.w.length * T.c.toNat := by
        have : ((o * n.nk.toNat + i) * n.nk.toNat + j + 1) * T.c.toNat ≤ n.w.length * T.c.toNat := Nat.mul_le_mul_right _ hlt
        rw [Nat.add_mul _ 1] at this; omega
      rw [wideTo_all n T.c hp]
      have d1 : (((o * n.nk.toNat + i) * n.nk.toNat + j) * T.c.toNat + c) / T.c.toNat = (o * n.nk.toNat + i) * n.nk.toNat + j := by
        rw [Nat.mul_comm _ T.c.toNat, Nat.mul_add_div (by omega), Nat.div_eq_of_lt hc, Nat.add_zero]
      have d2 : (((o * n.nk.toNat + i) * n.nk.toNat + j) * T.c.toNat + c) % T.c.toNat = c := by
        rw [Nat.mul_comm _ T.c.toNat, Nat.mul_add_mod, Nat.mod_eq_of_lt hc]
      rw [d1, d2, hqk]
    refine (sumN_single (o := o) T.c.toNat ho fun c hc hne => (term c hc).trans (by rw [if_neg hne, Int.zero_mul])).trans ((term o ho).trans ?_)
    rw [if_pos rfl]
    unfold dterm
    have e2 : ((o : Int) * n.nk * n.nk + ((i : Int) * n.nk + (j : Int))).toNat = (o * n.nk.toNat + i) * n.nk.toNat + j := by
      have : (o : Int) * n.nk * n.nk + ((i : Int) * n.nk + (j : Int)) = (((o * n.nk.toNat + i) * n.nk.toNat + j : Nat) : Int) := by
        rw [← hqn, Int.add_mul]; omega
      rw [this]; exact Int.toNat_natCast _
    rw [e2]
  · rw [if_neg hin, if_neg hin]; rfl
theorem wide_sum {T : Ten} {n : Nod} (hf : fitsW n T.c) (h w o : Nat) (ho : o < T.c.toNat) : sumE T (wideN n T.c) h w o = dE T n h w o := by
  unfold sumE dE
  show accN (n.b.getD (o : Int).toNat 0) _ n.nk.toNat = accN (n.b.getD (o : Int).toNat 0) _ n.nk.toNat
  refine accN_congr _ fun i hi => ?_
  unfold rowE drow
  exact sumN_congr _ fun j hj => wide_col hf h w o i j ho hi hj
theorem wide_shape {t : Shp} {n : Nod} (hf : fitsW n t.c) : convE t (wideN n t.c) = depthE t n := by
  obtain ⟨c1, c2, k1, k5, h1, h2, h3⟩ := hf
  unfold convE depthE
  have e : ((wideN n t.c).w.length : Int) = (n.w.length : Int) * t.c := by
    show ((wideTo n t.c n.w.length).length : Int) = _
    rw [wideTo_len, Int.natCast_mul, Int.toNat_of_nonneg (by omega)]
  have g : (n.w.length : Int) * 1 ≤ (n.w.length : Int) * t.c := Int.mul_le_mul_of_nonneg_left c1 (by omega)
  have e2 : (wideN n t.c).no * (wideN n t.c).nk * (wideN n t.c).nk * t.c = (n.w.length : Int) * t.c := by
    show t.c * n.nk * n.nk * t.c = _
    rw [h1]
  rw [e, e2]
  show (if (slideE t n.nk n.ns n.np t.c).2 ≠ 0 then _ else if (n.w.length : Int) * t.c ≠ (n.w.length : Int) * t.c ∨ 16384 < (n.w.length : Int) * t.c ∨ (n.b.length : Int) ≠ t.c then _ else _) = _
  split
  · rfl
  · rw [if_neg (by omega), if_neg (by omega)]; rfl
theorem wide_refW {T : Ten} {n : Nod} (hf : fitsW n T.c) (h : Nat) : ∀ w, refW T (wideN n T.c) h w = gW (dF T n) T.c.toNat h w
  | 0 => rfl
  | w + 1 => by
    rw [refW, gW, wide_refW hf h w]
    congr 1
    unfold refO gO
    apply List.map_congr_left
    intro o ho
    unfold dF
    rw [wide_sum hf h w o (List.mem_range.1 ho)]
theorem wide_refH {T : Ten} {n : Nod} (hf : fitsW n T.c) : ∀ h, refH T (wideN n T.c) h = gH (dF T n) T.c.toNat (convE ⟨T.h, T.x, T.c⟩ (wideN n T.c)).1.x.toNat h
  | 0 => rfl
  | h + 1 => by rw [refH, gH, wide_refH hf h, wide_refW hf]
theorem wide_same {T : Ten} {n : Nod} (ok : T.Ok) (okn : n.Ok) (hf : fitsW n T.c) : convOf T (wideN n T.c) = depthOf T n := by
  unfold convOf depthOf
  have e := wide_shape (t := ⟨T.h, T.x, T.c⟩) hf
  simp only at e
  by_cases hr : tenRight T = false
  · rw [if_pos hr, if_pos hr]
  · rw [if_neg hr, if_neg hr, e]
    by_cases he : (depthE ⟨T.h, T.x, T.c⟩ n).2 ≠ 0
    · rw [if_pos he, if_pos he]
    · rw [if_neg he, if_neg he]
      have okc : CvOk T (wideN n T.c) := ⟨ok, wideN_ok okn hf, by simpa using hr, by rw [e]; simpa using he⟩
      have okd : DpOk T n := ⟨ok, okn, by simpa using hr, by simpa using he⟩
      have l := outL_fin okc
      rw [e] at l
      rw [l, wide_refH hf, dL_eq okd, e]
end Go.Proofs.Ytcegfkmelcjdhaa

