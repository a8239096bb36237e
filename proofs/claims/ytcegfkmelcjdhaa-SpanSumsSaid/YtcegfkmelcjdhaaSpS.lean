/- No sum leaves its range. No condition. -/
import Derived.Test.YtcegfkmelcjdhaaCvG
import Derived.Test.YtcegfkmelcjdhaaSpA
namespace Go.Proofs.Ytcegfkmelcjdhaa
open Go.RowKit
set_option linter.unusedSimpArgs false
set_option linter.unusedVariables false
set_option linter.unnecessarySimpa false

theorem sumN_le {f g : Nat → Int} : ∀ n, (∀ k, k < n → f k ≤ g k) → sumN f n ≤ sumN g n
  | 0, _ => Int.le_refl _
  | n + 1, h => by
    have := sumN_le n fun k hk => h k (by omega)
    have := h n (by omega)
    simp only [sumN]; omega
theorem sumN_add (f : Nat → Int) (a : Nat) : ∀ b, sumN f (a + b) = sumN f a + sumN (fun k => f (a + k)) b
  | 0 => by simp [sumN]
  | b + 1 => by rw [← Nat.add_assoc, sumN, sumN_add f a b, sumN, Int.add_assoc]
/-- A sum over rows. -/
theorem sumN_mul (f : Nat → Int) (b : Nat) : ∀ a, sumN f (a * b) = sumN (fun i => sumN (fun j => f (i * b + j)) b) a
  | 0 => by simp [sumN]
  | a + 1 => by rw [Nat.add_mul, Nat.one_mul, sumN_add, sumN_mul f b a, sumN]
theorem rowR_sum (w : List Int) (bias lo hi z : Int) (g : Bool) : ∀ k, rowR w bias lo hi z g k = ⟨bias + sumN (fun i => (spA (w.getD i 0) lo hi z g).lo) k, bias + sumN (fun i => (spA (w.getD i 0) lo hi z g).hi) k⟩
  | 0 => by simp [rowR, sumN]
  | k + 1 => by rw [rowR, rowR_sum w bias lo hi z g k]; simp only [sumN, Int.add_assoc]
theorem mul_between {v a lo hi : Int} (h1 : lo ≤ a) (h2 : a ≤ hi) : min (v * lo) (v * hi) ≤ v * a ∧ v * a ≤ max (v * lo) (v * hi) := by
  rcases Int.le_total 0 v with h | h
  · have := Int.mul_le_mul_of_nonneg_left h1 h
    have := Int.mul_le_mul_of_nonneg_left h2 h
    omega
  · have := Int.mul_le_mul_of_nonpos_left h h1
    have := Int.mul_le_mul_of_nonpos_left h h2
    omega
theorem spA_in {v a lo hi z : Int} (g : Bool) (h1 : lo ≤ a) (h2 : a ≤ hi) : (spA v lo hi z g).lo ≤ v * (a - z) ∧ v * (a - z) ≤ (spA v lo hi z g).hi := by
  have := mul_between (v := v) (a := a - z) (lo := lo - z) (hi := hi - z) (by omega) (by omega)
  unfold spA; split <;> simp only <;> omega
theorem spA_zero {v lo hi z : Int} : (spA v lo hi z true).lo ≤ 0 ∧ 0 ≤ (spA v lo hi z true).hi := by
  unfold spA; rw [if_pos rfl]; simp only; omega
theorem getD_td (l : List Int) (a n i : Nat) (h : i < n) : (List.take n (List.drop a l)).getD i 0 = l.getD (a + i) 0 := by
  rw [List.getD_eq_getElem?_getD, List.getElem?_take, if_pos h, List.getElem?_drop, ← List.getD_eq_getElem?_getD]
/-- A window's sum lies within its row's range. -/
theorem sum_in {T : Ten} {n : Nod} (ok : CvOk T n) {lo hi : Int} (hr : ∀ i, i < T.d.length → lo ≤ T.d.getD i 0 ∧ T.d.getD i 0 ≤ hi) {h w o : Int} (h0 : 0 ≤ h) (h1 : h < (convE ⟨T.h, T.x, T.c⟩ n).1.h) (w0 : 0 ≤ w) (w1 : w < (convE ⟨T.h, T.x, T.c⟩ n).1.x) (o0 : 0 ≤ o) (o1 : o < n.no) :
    (spRow n.w n.b lo hi n.za (decide (n.np > 0)) o.toNat).lo ≤ sumE T n h w o ∧ sumE T n h w o ≤ (spRow n.w n.b lo hi n.za (decide (n.np > 0)) o.toNat).hi := by
  have nn := ok.n
  have c1 := nn.c1
  have k1 := nn.k1
  have k5 := nn.k5
  have n1 := nn.o1
  have n2 := nn.o2
  have wl := nn.wl
  have bl := nn.bl
  have x1 := nn.x1
  have x16 := nn.x16
  have dl := nn.dl
  have s1 := nn.s1
  have p0 := nn.p0
  have hh1 := nn.h1
  -- how many weights a row has
  have ez : (n.w.length : Int) / (n.b.length : Int) = n.nk * n.nk * T.c := by
    rw [wl, bl, show n.no * n.nk * n.nk * T.c = n.no * (n.nk * n.nk * T.c) by simp only [Int.mul_assoc], Int.mul_ediv_cancel_left _ (by omega)]
  obtain ⟨K, hK⟩ := Int.eq_ofNat_of_zero_le (show 0 ≤ n.nk by omega)
  obtain ⟨C, hC⟩ := Int.eq_ofNat_of_zero_le (show 0 ≤ T.c by omega)
  obtain ⟨O, hO⟩ := Int.eq_ofNat_of_zero_le o0
  subst hO
  have eZ : n.nk * n.nk * T.c = ((K * K * C : Nat) : Int) := by rw [hK, hC]; simp
  have e0 : ((O : Int) * ((n.w.length : Int) / (n.b.length : Int))).toNat = O * (K * K * C) := by rw [ez, eZ, ← Int.natCast_mul, Int.toNat_natCast]
  have e1 : (((O : Int) + 1) * ((n.w.length : Int) / (n.b.length : Int))).toNat - ((O : Int) * ((n.w.length : Int) / (n.b.length : Int))).toNat = K * K * C := by
    have : ((O : Int) + 1) = ((O + 1 : Nat) : Int) := by simp
    rw [e0, ez, eZ, this, ← Int.natCast_mul, Int.toNat_natCast, Nat.add_mul]; omega
  have hW : n.w.length = n.no.toNat * (K * K * C) := by
    apply Int.ofNat_inj.1
    rw [Int.natCast_mul, Int.toNat_of_nonneg (by omega), ← eZ, wl]; simp only [Int.mul_assoc]
  have hle : (O + 1) * (K * K * C) ≤ n.no.toNat * (K * K * C) := Nat.mul_le_mul_right _ (by omega)
  rw [Nat.add_mul, Nat.one_mul] at hle
  have eL : (List.take (K * K * C) (List.drop (O * (K * K * C)) n.w)).length = K * K * C := by
    rw [List.length_take, List.length_drop]; omega
  unfold spRow
  rw [Int.toNat_natCast, e1, e0, eL, rowR_sum]
  simp only
  unfold sumE
  rw [accN_eq, Int.toNat_natCast, show n.nk.toNat = K by omega]
  have key : ∀ i j, i < K → j < K →
      sumN (fun c => (spA (n.w.getD (O * (K * K * C) + ((i * K + j) * C + c)) 0) lo hi n.za (decide (n.np > 0))).lo) C ≤ colE T n (O : Int) i (h * n.ns + (i : Int) - n.np) (w * n.ns - n.np) j ∧
      colE T n (O : Int) i (h * n.ns + (i : Int) - n.np) (w * n.ns - n.np) j ≤ sumN (fun c => (spA (n.w.getD (O * (K * K * C) + ((i * K + j) * C + c)) 0) lo hi n.za (decide (n.np > 0))).hi) C := by
    intro i j hi' hj
    unfold colE
    split
    · rename_i hin
      rw [show T.c.toNat = C by omega]
      have hx := idx_bd (a := h * n.ns + (i : Int) - n.np) (m := T.h) (b := w * n.ns - n.np + (j : Int)) (n := T.x) hin.1 hin.2.1 hin.2.2.1 hin.2.2.2
      have each : ∀ c, c < C → (spA (n.w.getD (O * (K * K * C) + ((i * K + j) * C + c)) 0) lo hi n.za (decide (n.np > 0))).lo ≤ cterm T n ((((O : Int) * n.nk + (i : Int)) * n.nk + (j : Int)) * T.c) (((h * n.ns + (i : Int) - n.np) * T.x + (w * n.ns - n.np + (j : Int))) * T.c) c ∧
          cterm T n ((((O : Int) * n.nk + (i : Int)) * n.nk + (j : Int)) * T.c) (((h * n.ns + (i : Int) - n.np) * T.x + (w * n.ns - n.np + (j : Int))) * T.c) c ≤ (spA (n.w.getD (O * (K * K * C) + ((i * K + j) * C + c)) 0) lo hi n.za (decide (n.np > 0))).hi := by
        intro c hc
        have hy := idx_bd (a := (h * n.ns + (i : Int) - n.np) * T.x + (w * n.ns - n.np + (j : Int))) (m := T.h * T.x) (b := (c : Int)) (n := T.c) hx.1 hx.2 (by omega) (by omega)
        unfold cterm gt
        have ew : ((((O : Int) * n.nk + (i : Int)) * n.nk + (j : Int)) * T.c + (c : Int)).toNat = O * (K * K * C) + ((i * K + j) * C + c) := by
          rw [hK, hC]
          have : ((((O : Int) * (K : Int) + (i : Int)) * (K : Int) + (j : Int)) * (C : Int) + (c : Int)) = (((((O * K + i) * K + j) * C + c : Nat)) : Int) := by simp
          rw [this, Int.toNat_natCast]
          simp only [Nat.add_mul, Nat.mul_assoc]; omega
        rw [ew]
        have := hr (((h * n.ns + (i : Int) - n.np) * T.x + (w * n.ns - n.np + (j : Int))) * T.c + (c : Int)).toNat (by omega)
        exact spA_in _ this.1 this.2
      exact ⟨sumN_le C fun c hc => (each c hc).1, sumN_le C fun c hc => (each c hc).2⟩
    · rename_i hin
      by_cases hp : n.np > 0
      · rw [decide_eq_true hp]
        have z1 := sumN_le (f := fun c => (spA (n.w.getD (O * (K * K * C) + ((i * K + j) * C + c)) 0) lo hi n.za true).lo) (g := fun _ => 0) C fun c _ => spA_zero.1
        have z2 := sumN_le (f := fun _ => 0) (g := fun c => (spA (n.w.getD (O * (K * K * C) + ((i * K + j) * C + c)) 0) lo hi n.za true).hi) C fun c _ => spA_zero.2
        rw [sumN_zero (f := fun _ => 0) C fun _ _ => rfl] at z1 z2
        exact ⟨z1, z2⟩
      · exfalso
        apply hin
        have hp0 : n.np = 0 := by omega
        rw [hp0]
        have a1 := nn.sh; have a2 := nn.sx
        rw [a1] at h1; rw [a2] at w1; rw [hp0] at h1 w1
        have b1 := Int.mul_le_of_le_ediv (a := h) (b := T.h + 2 * 0 - n.nk) (c := n.ns) (by omega) (by omega)
        have b2 := Int.mul_le_of_le_ediv (a := w) (b := T.x + 2 * 0 - n.nk) (c := n.ns) (by omega) (by omega)
        have b3 := Int.mul_nonneg h0 (show 0 ≤ n.ns by omega)
        have b4 := Int.mul_nonneg w0 (show 0 ≤ n.ns by omega)
        omega
  have flat : ∀ f : Nat → Int, sumN f (K * K * C) = sumN (fun i => sumN (fun j => sumN (fun c => f ((i * K + j) * C + c)) C) K) K := by
    intro f
    rw [sumN_mul f C (K * K), sumN_mul _ K K]
  have e2 : ∀ g : Rng → Int, sumN (fun i => g (spA ((List.take (K * K * C) (List.drop (O * (K * K * C)) n.w)).getD i 0) lo hi n.za (decide (n.np > 0)))) (K * K * C) =
      sumN (fun i => sumN (fun j => sumN (fun c => g (spA (n.w.getD (O * (K * K * C) + ((i * K + j) * C + c)) 0) lo hi n.za (decide (n.np > 0)))) C) K) K := by
    intro g
    rw [← flat (fun i => g (spA (n.w.getD (O * (K * K * C) + i) 0) lo hi n.za (decide (n.np > 0))))]
    exact sumN_congr _ fun i hi => by rw [getD_td _ _ _ _ hi]
  rw [e2 (fun r => r.lo), e2 (fun r => r.hi)]
  have r1 : ∀ i, i < K → sumN (fun j => sumN (fun c => (spA (n.w.getD (O * (K * K * C) + ((i * K + j) * C + c)) 0) lo hi n.za (decide (n.np > 0))).lo) C) K ≤ rowE T n h w (O : Int) i ∧ rowE T n h w (O : Int) i ≤ sumN (fun j => sumN (fun c => (spA (n.w.getD (O * (K * K * C) + ((i * K + j) * C + c)) 0) lo hi n.za (decide (n.np > 0))).hi) C) K := by
    intro i hi'
    unfold rowE
    rw [show n.nk.toNat = K by omega]
    exact ⟨sumN_le K fun j hj => (key i j hi' hj).1, sumN_le K fun j hj => (key i j hi' hj).2⟩
  have t1 := sumN_le K fun i hi' => (r1 i hi').1
  have t2 := sumN_le K fun i hi' => (r1 i hi').2
  omega
end Go.Proofs.Ytcegfkmelcjdhaa

