/- The sums of the program are those of the document. No condition. -/
import Derived.Test.YtcegfkmelcjdhaaCvR
namespace Go.Proofs.Ytcegfkmelcjdhaa
open Go.RowKit
set_option linter.unusedSimpArgs false
set_option linter.unusedVariables false
set_option linter.unnecessarySimpa false

theorem w32_add (a b : Int) : IntKind.i32.wrap (IntKind.i32.wrap a + b) = IntKind.i32.wrap (a + b) := by
  simp only [IntKind.wrap_i32]; omega
theorem w32_add2 (a b : Int) : IntKind.i32.wrap (IntKind.i32.wrap a + IntKind.i32.wrap b) = IntKind.i32.wrap (a + b) := by
  simp only [IntKind.wrap_i32]; omega
theorem acc32_eq (v : Int) (f : Nat → Int) : ∀ k, acc32 (IntKind.i32.wrap v) f k = IntKind.i32.wrap (v + sumN f k)
  | 0 => by simp [acc32, sumN]
  | k + 1 => by rw [acc32, acc32_eq v f k, w32_add, sumN, Int.add_assoc]
theorem rowAcc_eq {T : Ten} {n : Nod} (o i h w : Int) (h0 : 0 ≤ h) (h1 : h < T.h) : ∀ j, rowAcc T n ((o * n.nk + i) * n.nk * T.c) h w j = IntKind.i32.wrap (sumN (colE T n o i h w) j)
  | 0 => by simp only [rowAcc, sumN]; rfl
  | j + 1 => by
    rw [rowAcc, sumN, rowAcc_eq o i h w h0 h1 j, colE]
    by_cases hx : 0 ≤ w + (j : Int) ∧ w + (j : Int) < T.x
    · rw [if_pos hx, if_pos ⟨h0, h1, hx.1, hx.2⟩, acc32_eq, ← Int.add_mul]
    · rw [if_neg hx, if_neg (fun q => hx ⟨q.2.2.1, q.2.2.2⟩)]
      simp [sumN]
theorem sumAcc_eq {T : Ten} {n : Nod} (ok : CvOk T n) (h w o : Int) : ∀ i, sumAcc T n h w o i = IntKind.i32.wrap (accN (n.b.getD o.toNat 0) (rowE T n h w o) i)
  | 0 => by
    rw [sumAcc, accN, IntWalk.i32_in _ (gt32 ok.okn.b _)]
  | i + 1 => by
    rw [sumAcc, accN, sumAcc_eq ok h w o i]
    by_cases hy : 0 ≤ h * n.ns + (i : Int) - n.np ∧ h * n.ns + (i : Int) - n.np < T.h
    · rw [if_pos hy, rowAcc_eq o i _ _ hy.1 hy.2, w32_add2]; rfl
    · rw [if_neg hy]
      have : rowE T n h w o i = 0 := by
        unfold rowE
        refine sumN_zero _ fun j _ => ?_
        unfold colE
        rw [if_neg (fun q => hy ⟨q.1, q.2.1⟩)]; rfl
      rw [this, Int.add_zero]
theorem cvS_eq {T : Ten} {n : Nod} (ok : CvOk T n) (h w o : Int) : cvS T n h w o = IntKind.i32.wrap (sumE T n h w o) := sumAcc_eq ok h w o _
theorem outL_ref {T : Ten} {n : Nod} (ok : CvOk T n) (h : Nat) : ∀ w, w ≤ (convE ⟨T.h, T.x, T.c⟩ n).1.x.toNat → outL T n (h * (convE ⟨T.h, T.x, T.c⟩ n).1.x.toNat) = refH T n h → outL T n (h * (convE ⟨T.h, T.x, T.c⟩ n).1.x.toNat + w) = refH T n h ++ refW T n h w
  | 0, _, h0 => by rw [Nat.add_zero, h0]; simp [refW]
  | w + 1, hw, h0 => by
    have hx := ok.n.xe
    rw [← Nat.add_assoc, outL, outL_ref ok h w (by omega) h0, refW, List.append_assoc]
    congr 2
    unfold refO
    apply List.map_congr_left
    intro o _
    have e1 : ((h * (convE ⟨T.h, T.x, T.c⟩ n).1.x.toNat + w : Nat) : Int) = (h : Int) * (convE ⟨T.h, T.x, T.c⟩ n).1.x + (w : Int) := by
      rw [Int.natCast_add, Int.natCast_mul, Int.toNat_of_nonneg (by omega)]
    have e2 : ((h : Int) * (convE ⟨T.h, T.x, T.c⟩ n).1.x + (w : Int)) / (convE ⟨T.h, T.x, T.c⟩ n).1.x = h := by
      rw [Int.add_comm, Int.add_mul_ediv_right _ _ (by omega), Int.ediv_eq_zero_of_lt (by omega) (by omega)]; omega
    have e3 : ((h : Int) * (convE ⟨T.h, T.x, T.c⟩ n).1.x + (w : Int)) % (convE ⟨T.h, T.x, T.c⟩ n).1.x = w := by
      rw [Int.add_comm, Int.add_mul_emod_self_right, Int.emod_eq_of_lt (by omega) (by omega)]
    rw [e1, e2, e3, cvS_eq ok]
theorem outL_all {T : Ten} {n : Nod} (ok : CvOk T n) : ∀ h, outL T n (h * (convE ⟨T.h, T.x, T.c⟩ n).1.x.toNat) = refH T n h
  | 0 => by simp [outL, refH]
  | h + 1 => by rw [Nat.add_mul, Nat.one_mul, outL_ref ok h _ (Nat.le_refl _) (outL_all ok h), refH]
theorem outL_fin {T : Ten} {n : Nod} (ok : CvOk T n) : outL T n ((convE ⟨T.h, T.x, T.c⟩ n).1.h * (convE ⟨T.h, T.x, T.c⟩ n).1.x).toNat = refH T n (convE ⟨T.h, T.x, T.c⟩ n).1.h.toNat := by
  have h1 := ok.n.he
  have h2 := ok.n.xe
  rw [← outL_all ok]
  congr 1
  apply Int.ofNat_inj.1
  rw [Int.natCast_mul, Int.toNat_of_nonneg (Int.mul_nonneg (by omega) (by omega)), Int.toNat_of_nonneg (by omega), Int.toNat_of_nonneg (by omega)]
set_option maxRecDepth 100000 in
set_option maxHeartbeats 2000000 in
theorem rcOf_n (T : Ten) (n : Nod) (ok : T.Ok) (okn : n.Ok) (hn : tenRight T = false ∨ (convE ⟨T.h, T.x, T.c⟩ n).2 ≠ 0) : VC Try.prog 22 ([ten .i8 T, nod n]) (.tup [ten .i32 (convOf T n).1, i64 (convOf T n).2]) := by
  have oz0 := @refTRight_v (T) ok
  rcases Bool.eq_false_or_eq_true (!tenRight T) with hc0 | hc0
  · have gc0 : tenRight T = false := by first | exact hc0 | exact of_decide_eq_true hc0 | exact of_decide_eq_false hc0 | simpa [eqNums] using hc0 | (simp [eqNums] at hc0 ⊢; first | done | assumption | omega)
    exact (VC.run (fn := Try.f22) (W := [.r [] [], .r [] [.callr (rO oz0)], .br true, .r [] []]) (r := AV.tup [AV.agg [i64 0, i64 0, i64 0, AV.lit (Value.slice none 0 0)], i64 5]) Try.func22 (by kernel_rfl) (.c oz0 <| .c hc0 <| .n)).weak (WeakL.refl _) (Weak.tup (.cons (Weak.agg (.cons (Weak.int (show ((0) : Int) = ((convOf T n).fst.h) from (by (simp only [convOf]; rw [if_pos (by simp_all)]; first | done | rfl)))) (.cons (Weak.int (show ((0) : Int) = ((convOf T n).fst.x) from (by (simp only [convOf]; rw [if_pos (by simp_all)]; first | done | rfl)))) (.cons (Weak.int (show ((0) : Int) = ((convOf T n).fst.c) from (by (simp only [convOf]; rw [if_pos (by simp_all)]; first | done | rfl)))) (.cons (Weak.nilr (show [] = (List.map (row1 IntKind.i32) (convOf T n).fst.d) from (by (simp only [convOf]; rw [if_pos (by simp_all)]; first | done | rfl)))) .nil))))) (.cons (Weak.int (show ((5) : Int) = ((convOf T n).snd) from (by (simp only [convOf]; rw [if_pos (by simp_all)]; first | done | rfl)))) .nil)))
  · have gc0 : tenRight T = true := by first | exact hc0 | exact of_decide_eq_true hc0 | exact of_decide_eq_false hc0 | simpa [eqNums] using hc0 | (simp [eqNums] at hc0 ⊢; first | done | assumption | omega)
    have oz2 := @refConvShape_v (Shp.mk T.h T.x T.c) (n) (by (exact Shp.mk_ok ok.h ok.x ok.c)) okn
    exact (VC.run (fn := Try.f22) (W := [.r [] [], .r [] [.callr (rO oz0)], .br false, .r [] [.callr (rO oz2)], .r [] [], .br true, .r [] []]) (r := AV.tup [AV.agg [i64 0, i64 0, i64 0, AV.lit (Value.slice none 0 0)], i64 (convE (Shp.mk T.h T.x T.c) n).snd]) Try.func22 (by kernel_rfl) (.c oz0 <| .c hc0 <| .c oz2 <| .c (show ((convE (Shp.mk T.h T.x T.c) n).snd != 0) = true by (rcases hn with hn | hn <;> simp_all; done)) <| .n)).weak (WeakL.refl _) (Weak.tup (.cons (Weak.agg (.cons (Weak.int (show ((0) : Int) = ((convOf T n).fst.h) from (by (simp only [convOf]; rw [if_neg (by simp_all), if_pos (by rcases hn with hn | hn <;> simp_all)]; first | done | rfl)))) (.cons (Weak.int (show ((0) : Int) = ((convOf T n).fst.x) from (by (simp only [convOf]; rw [if_neg (by simp_all), if_pos (by rcases hn with hn | hn <;> simp_all)]; first | done | rfl)))) (.cons (Weak.int (show ((0) : Int) = ((convOf T n).fst.c) from (by (simp only [convOf]; rw [if_neg (by simp_all), if_pos (by rcases hn with hn | hn <;> simp_all)]; first | done | rfl)))) (.cons (Weak.nilr (show [] = (List.map (row1 IntKind.i32) (convOf T n).fst.d) from (by (simp only [convOf]; rw [if_neg (by simp_all), if_pos (by rcases hn with hn | hn <;> simp_all)]; first | done | rfl)))) .nil))))) (.cons (Weak.int (show (((convE (Shp.mk T.h T.x T.c) n).snd) : Int) = ((convOf T n).snd) from (by (simp only [convOf]; rw [if_neg (by simp_all), if_pos (by rcases hn with hn | hn <;> simp_all)]; first | done | rfl)))) .nil)))
theorem rcOf_v (T : Ten) (n : Nod) (ok : T.Ok) (okn : n.Ok) : VC Try.prog 22 [ten .i8 T, nod n] (.tup [ten .i32 (convOf T n).1, i64 (convOf T n).2]) := by
  cases hr : tenRight T with
  | false => exact rcOf_n T n ok okn (.inl hr)
  | true =>
    by_cases he : (convE ⟨T.h, T.x, T.c⟩ n).2 = 0
    · have h := rcOf_x T n ⟨ok, okn, hr, he⟩
      have e : convOf T n = (⟨(convE ⟨T.h, T.x, T.c⟩ n).1.h, (convE ⟨T.h, T.x, T.c⟩ n).1.x, (convE ⟨T.h, T.x, T.c⟩ n).1.c, refH T n (convE ⟨T.h, T.x, T.c⟩ n).1.h.toNat⟩, 0) := by
        unfold convOf
        rw [if_neg (by simp [hr]), if_neg (by simpa using he), outL_fin ⟨ok, okn, hr, he⟩]
      rw [e]; exact h
    · exact rcOf_n T n ok okn (.inr he)
end Go.Proofs.Ytcegfkmelcjdhaa

