/- Each channel has its own window: the law. No condition. -/
import Derived.Test.YtcegfkmelcjdhaaDr
namespace Go.Proofs.Ytcegfkmelcjdhaa
open Go.RowKit
set_option linter.unusedSimpArgs false
set_option linter.unusedVariables false
set_option linter.unnecessarySimpa false

theorem split_div {a b c : Int} (hb : 0 ≤ b) (hc : b < c) : (a * c + b) / c = a ∧ (a * c + b) % c = b := by
  constructor
  · rw [Int.add_comm, Int.add_mul_ediv_right _ _ (by omega), Int.ediv_eq_zero_of_lt hb hc]; omega
  · rw [Int.add_comm, Int.add_mul_emod_self_right, Int.emod_eq_of_lt hb hc]
theorem dAcc_j {T : Ten} {n : Nod} (ok : DpOk T n) (h w c : Int) (i : Nat) (h0 : dAcc T n h w c (i * n.nk.toNat) = IntKind.i32.wrap (accN (n.b.getD c.toNat 0) (drow T n h w c) i)) :
    ∀ j, j ≤ n.nk.toNat → dAcc T n h w c (i * n.nk.toNat + j) = IntKind.i32.wrap (accN (n.b.getD c.toNat 0) (drow T n h w c) i + sumN (dcell T n h w c i) j)
  | 0, _ => by rw [Nat.add_zero, h0, sumN, Int.add_zero]
  | j + 1, hj => by
    have k1 := ok.n.k1
    rw [← Nat.add_assoc, dAcc, dAcc_j ok h w c i h0 j (by omega), sumN, dcell]
    have e : ((i * n.nk.toNat + j : Nat) : Int) = (i : Int) * n.nk + (j : Int) := by rw [Int.natCast_add, Int.natCast_mul, Int.toNat_of_nonneg (by omega)]
    obtain ⟨e1, e2⟩ := split_div (a := (i : Int)) (b := (j : Int)) (c := n.nk) (by omega) (by omega)
    rw [e, e1, e2]
    split
    · rw [w32_add, Int.add_assoc]
    · rw [Int.add_zero]
theorem dAcc_i {T : Ten} {n : Nod} (ok : DpOk T n) (h w c : Int) : ∀ i, dAcc T n h w c (i * n.nk.toNat) = IntKind.i32.wrap (accN (n.b.getD c.toNat 0) (drow T n h w c) i)
  | 0 => by rw [Nat.zero_mul, dAcc, accN, IntWalk.i32_in _ (gt32 ok.okn.b _)]
  | i + 1 => by rw [Nat.add_mul, Nat.one_mul, dAcc_j ok h w c i (dAcc_i ok h w c i) _ (Nat.le_refl _), accN]; rfl
theorem dAcc_eq {T : Ten} {n : Nod} (ok : DpOk T n) (h w c : Int) : dAcc T n h w c (n.nk * n.nk).toNat = IntKind.i32.wrap (dE T n h w c) := by
  have k1 := ok.n.k1
  have : (n.nk * n.nk).toNat = n.nk.toNat * n.nk.toNat := by
    apply Int.ofNat_inj.1
    rw [Int.natCast_mul, Int.toNat_of_nonneg (Int.mul_nonneg (by omega) (by omega)), Int.toNat_of_nonneg (by omega)]
  rw [this, dAcc_i ok]; rfl
/-- A list laid by three loops, seen from one. -/
theorem g_row {F : Nat → Int} {f : Nat → Nat → Nat → Int} {m x h : Nat} (hF : ∀ w c, w < x → c < m → F ((h * x + w) * m + c) = f h w c) (h0 : (List.range (h * (x * m))).map F = gH f m x h) :
    ∀ w, w ≤ x → (List.range (h * (x * m) + w * m)).map F = gH f m x h ++ gW f m h w
  | 0, _ => by simp [gW, h0]
  | w + 1, hw => by
    rw [Nat.add_mul, Nat.one_mul, ← Nat.add_assoc, List.range_add, List.map_append, g_row hF h0 w (by omega), gW, List.append_assoc, List.map_map]
    congr 2
    unfold gO
    apply List.map_congr_left
    intro c hc
    rw [← hF w c (by omega) (List.mem_range.1 hc)]
    simp only [Function.comp]
    congr 1
    rw [Nat.add_mul, Nat.mul_assoc]
theorem g_all {F : Nat → Int} {f : Nat → Nat → Nat → Int} {m x : Nat} : ∀ h, (∀ h' w c, h' < h → w < x → c < m → F ((h' * x + w) * m + c) = f h' w c) → (List.range (h * (x * m))).map F = gH f m x h
  | 0, _ => by simp [gH]
  | h + 1, hF => by
    rw [Nat.add_mul, Nat.one_mul, g_row (fun w c hw hc => hF h w c (by omega) hw hc) (g_all h fun h' w c hh => hF h' w c (by omega)) x (Nat.le_refl _), gH]
theorem dL_eq {T : Ten} {n : Nod} (ok : DpOk T n) : dL T n = gH (dF T n) T.c.toNat (depthE ⟨T.h, T.x, T.c⟩ n).1.x.toNat (depthE ⟨T.h, T.x, T.c⟩ n).1.h.toNat := by
  have nn := ok.n
  have h1 := nn.he
  have h2 := nn.xe
  have h3 := nn.c1
  unfold dL
  have e : dN T n = (depthE ⟨T.h, T.x, T.c⟩ n).1.h.toNat * ((depthE ⟨T.h, T.x, T.c⟩ n).1.x.toNat * T.c.toNat) := by
    unfold dN
    apply Int.ofNat_inj.1
    rw [Int.natCast_mul, Int.natCast_mul, Int.toNat_of_nonneg (Int.mul_nonneg (Int.mul_nonneg (by omega) (by omega)) (by omega)), Int.toNat_of_nonneg (by omega), Int.toNat_of_nonneg (by omega), Int.toNat_of_nonneg (by omega), Int.mul_assoc]
  rw [e]
  refine g_all _ fun h w c hh hw hc => ?_
  have e0 : (((h * (depthE ⟨T.h, T.x, T.c⟩ n).1.x.toNat + w) * T.c.toNat + c : Nat) : Int) = ((h : Int) * (depthE ⟨T.h, T.x, T.c⟩ n).1.x + (w : Int)) * T.c + (c : Int) := by
    rw [Int.natCast_add, Int.natCast_mul, Int.natCast_add, Int.natCast_mul, Int.toNat_of_nonneg (by omega), Int.toNat_of_nonneg (by omega)]
  obtain ⟨e1, e2⟩ := split_div (a := (h : Int) * (depthE ⟨T.h, T.x, T.c⟩ n).1.x + (w : Int)) (b := (c : Int)) (c := T.c) (by omega) (by omega)
  obtain ⟨e3, e4⟩ := split_div (a := (h : Int)) (b := (w : Int)) (c := (depthE ⟨T.h, T.x, T.c⟩ n).1.x) (by omega) (by omega)
  simp only [e0, e1, e2, e3, e4]
  exact dAcc_eq ok _ _ _
/-- What comes of it, or why nothing. -/
def depthOf (T : Ten) (n : Nod) : Ten × Int := if tenRight T = false then (⟨0, 0, 0, []⟩, 5) else if (depthE ⟨T.h, T.x, T.c⟩ n).2 ≠ 0 then (⟨0, 0, 0, []⟩, (depthE ⟨T.h, T.x, T.c⟩ n).2) else (⟨(depthE ⟨T.h, T.x, T.c⟩ n).1.h, (depthE ⟨T.h, T.x, T.c⟩ n).1.x, (depthE ⟨T.h, T.x, T.c⟩ n).1.c, dL T n⟩, 0)
set_option maxRecDepth 100000 in
set_option maxHeartbeats 2000000 in
theorem dpOf_n (T : Ten) (n : Nod) (ok : T.Ok) (okn : n.Ok) (hn : tenRight T = false ∨ (depthE ⟨T.h, T.x, T.c⟩ n).2 ≠ 0) : VC Try.prog 27 ([ten .i8 T, nod n]) (.tup [ten .i32 (depthOf T n).1, i64 (depthOf T n).2]) := by
  rcases Bool.eq_false_or_eq_true (!tenRight T) with hc0 | hc0
  · have gc0 : tenRight T = false := by first | exact hc0 | exact of_decide_eq_true hc0 | exact of_decide_eq_false hc0 | simpa [eqNums] using hc0 | (simp [eqNums] at hc0 ⊢; first | done | assumption | omega)
    have hz : VC Try.prog 27 ([ten .i8 T, nod n]) (AV.tup
  [AV.agg
      [AV.lit (Value.int IntKind.i64 0), AV.lit (Value.int IntKind.i64 0), AV.lit (Value.int IntKind.i64 0),
        AV.lit (Value.slice none 0 0)],
    AV.lit (Value.int IntKind.i64 5)]) := by
      refine VC.run (fn := Try.f27) Try.func27 (W := [.r [] [], .r [] [PI.callr (bv (tenRight T))], .br true, .r [] []])
        (ob := [VC Try.prog 60
  [AV.agg
            [AV.lit (Value.int IntKind.i64 T.h), AV.lit (Value.int IntKind.i64 T.x), AV.lit (Value.int IntKind.i64 T.c),
              AV.sl 1 (List.map (row1 IntKind.i8) T.d)]]
  (AV.lit (Value.bool (tenRight T))),
          (!tenRight T) = true]) (by kernel_rfl) ?_
      exact ⟨(@tRight_v (T) (by with_reducible assumption)),
                (by with_reducible assumption),
                trivial⟩
    exact hz.weak (WeakL.refl _) (Weak.tup (.cons (Weak.agg (.cons (Weak.int (show ((0) : Int) = ((depthOf T
      n).fst.h) from (by (simp only [depthOf]; rw [if_pos (by simp_all)]; first | done | rfl)))) (.cons (Weak.int (show ((0) : Int) = ((depthOf T
      n).fst.x) from (by (simp only [depthOf]; rw [if_pos (by simp_all)]; first | done | rfl)))) (.cons (Weak.int (show ((0) : Int) = ((depthOf T
      n).fst.c) from (by (simp only [depthOf]; rw [if_pos (by simp_all)]; first | done | rfl)))) (.cons (Weak.nilr (show [] = (List.map (row1 IntKind.i32)
  (depthOf T
        n).fst.d) from (by (simp only [depthOf]; rw [if_pos (by simp_all)]; first | done | rfl)))) .nil))))) (.cons (Weak.int (show ((5) : Int) = ((depthOf T n).snd) from (by (simp only [depthOf]; rw [if_pos (by simp_all)]; first | done | rfl)))) .nil)))
  · have gc0 : tenRight T = true := by first | exact hc0 | exact of_decide_eq_true hc0 | exact of_decide_eq_false hc0 | simpa [eqNums] using hc0 | (simp [eqNums] at hc0 ⊢; first | done | assumption | omega)
    have hz : VC Try.prog 27 ([ten .i8 T, nod n]) (AV.tup
  [AV.agg
      [AV.lit (Value.int IntKind.i64 0), AV.lit (Value.int IntKind.i64 0), AV.lit (Value.int IntKind.i64 0),
        AV.lit (Value.slice none 0 0)],
    AV.lit (Value.int IntKind.i64 (depthE (Shp.mk T.h T.x T.c) n).snd)]) := by
      refine VC.run (fn := Try.f27) Try.func27 (W := [.r [] [], .r [] [PI.callr
   (bv
     (tenRight
       T))], .br false, .r [] [PI.callr
   (AV.tup
     [shp (depthE (Shp.mk T.h T.x T.c) n).fst, i64 (depthE (Shp.mk T.h T.x T.c) n).snd])], .r [] [], .br true, .r [] []])
        (ob := [VC Try.prog 60
  [AV.agg
            [AV.lit (Value.int IntKind.i64 T.h), AV.lit (Value.int IntKind.i64 T.x), AV.lit (Value.int IntKind.i64 T.c),
              AV.sl 1 (List.map (row1 IntKind.i8) T.d)]]
  (AV.lit (Value.bool (tenRight T))),
          (!tenRight T) = false,
          VC Try.prog 29
  [AV.agg [AV.lit (Value.int IntKind.i64 T.h), AV.lit (Value.int IntKind.i64 T.x), AV.lit (Value.int IntKind.i64 T.c)],
          AV.agg
            [AV.lit (Value.int IntKind.i64 n.kd), AV.lit (Value.int IntKind.i64 n.na), AV.lit (Value.int IntKind.i64 n.nb),
              AV.lit (Value.int IntKind.i64 n.nk), AV.lit (Value.int IntKind.i64 n.ns), AV.lit (Value.int IntKind.i64 n.np),
              AV.lit (Value.int IntKind.i64 n.no), AV.lit (Value.int IntKind.i8 n.za), AV.lit (Value.int IntKind.i8 n.zb),
              AV.sl 1 (List.map (row1 IntKind.i8) n.w), AV.sl 1 (List.map (row1 IntKind.i32) n.b),
              AV.lit (Value.int IntKind.i32 n.qm), AV.lit (Value.int IntKind.i64 n.qs), AV.lit (Value.int IntKind.i8 n.qz),
              AV.lit (Value.int IntKind.i32 n.rm), AV.lit (Value.int IntKind.i64 n.rs), AV.lit (Value.int IntKind.i8 n.rz),
              AV.lit (Value.int IntKind.i8 n.lo), AV.lit (Value.int IntKind.i8 n.hi)]]
  (AV.tup
          [AV.agg
              [AV.lit (Value.int IntKind.i64 (depthE (Shp.mk T.h T.x T.c) n).fst.h),
                AV.lit (Value.int IntKind.i64 (depthE (Shp.mk T.h T.x T.c) n).fst.x),
                AV.lit (Value.int IntKind.i64 (depthE (Shp.mk T.h T.x T.c) n).fst.c)],
            AV.lit (Value.int IntKind.i64 (depthE (Shp.mk T.h T.x T.c) n).snd)]),
          ((depthE (Shp.mk T.h T.x T.c) n).snd != 0) = true]) (by kernel_rfl) ?_
      exact ⟨(@tRight_v (T) (by with_reducible assumption)),
                (by with_reducible assumption),
                (@depthShape_v (Shp.mk T.h T.x T.c) (n) (by (exact Shp.mk_ok ok.h ok.x ok.c)) (by with_reducible assumption)),
                (by (rcases hn with hn | hn <;> simp_all; done)),
                trivial⟩
    exact hz.weak (WeakL.refl _) (Weak.tup (.cons (Weak.agg (.cons (Weak.int (show ((0) : Int) = ((depthOf T
      n).fst.h) from (by (simp only [depthOf]; rw [if_neg (by simp_all), if_pos (by rcases hn with hn | hn <;> simp_all)]; first | done | rfl)))) (.cons (Weak.int (show ((0) : Int) = ((depthOf T
      n).fst.x) from (by (simp only [depthOf]; rw [if_neg (by simp_all), if_pos (by rcases hn with hn | hn <;> simp_all)]; first | done | rfl)))) (.cons (Weak.int (show ((0) : Int) = ((depthOf T
      n).fst.c) from (by (simp only [depthOf]; rw [if_neg (by simp_all), if_pos (by rcases hn with hn | hn <;> simp_all)]; first | done | rfl)))) (.cons (Weak.nilr (show [] = (List.map (row1 IntKind.i32)
  (depthOf T
        n).fst.d) from (by (simp only [depthOf]; rw [if_neg (by simp_all), if_pos (by rcases hn with hn | hn <;> simp_all)]; first | done | rfl)))) .nil))))) (.cons (Weak.int (show (((depthE (Shp.mk T.h T.x T.c)
    n).snd) : Int) = ((depthOf T n).snd) from (by (simp only [depthOf]; rw [if_neg (by simp_all), if_pos (by rcases hn with hn | hn <;> simp_all)]; first | done | rfl)))) .nil)))
theorem dpOf_v (T : Ten) (n : Nod) (ok : T.Ok) (okn : n.Ok) : VC Try.prog 27 [ten .i8 T, nod n] (.tup [ten .i32 (depthOf T n).1, i64 (depthOf T n).2]) := by
  cases hr : tenRight T with
  | false => exact dpOf_n T n ok okn (.inl hr)
  | true =>
    by_cases he : (depthE ⟨T.h, T.x, T.c⟩ n).2 = 0
    · have h := dpOf_x T n ⟨ok, okn, hr, he⟩
      have e : depthOf T n = (⟨(depthE ⟨T.h, T.x, T.c⟩ n).1.h, (depthE ⟨T.h, T.x, T.c⟩ n).1.x, (depthE ⟨T.h, T.x, T.c⟩ n).1.c, dL T n⟩, 0) := by
        unfold depthOf
        rw [if_neg (by simp [hr]), if_neg (by simpa using he)]
      rw [e]; exact h
    · exact dpOf_n T n ok okn (.inr he)
set_option maxRecDepth 100000 in
set_option maxHeartbeats 2000000 in
theorem rdOf_n (T : Ten) (n : Nod) (ok : T.Ok) (okn : n.Ok) (hn : tenRight T = false ∨ (depthE ⟨T.h, T.x, T.c⟩ n).2 ≠ 0) : VC Try.prog 28 ([ten .i8 T, nod n]) (.tup [ten .i32 (depthOf T n).1, i64 (depthOf T n).2]) := by
  rcases Bool.eq_false_or_eq_true (!tenRight T) with hc0 | hc0
  · have gc0 : tenRight T = false := by first | exact hc0 | exact of_decide_eq_true hc0 | exact of_decide_eq_false hc0 | simpa [eqNums] using hc0 | (simp [eqNums] at hc0 ⊢; first | done | assumption | omega)
    have hz : VC Try.prog 28 ([ten .i8 T, nod n]) (AV.tup
  [AV.agg
      [AV.lit (Value.int IntKind.i64 0), AV.lit (Value.int IntKind.i64 0), AV.lit (Value.int IntKind.i64 0),
        AV.lit (Value.slice none 0 0)],
    AV.lit (Value.int IntKind.i64 5)]) := by
      refine VC.run (fn := Try.f28) Try.func28 (W := [.r [] [], .r [] [PI.callr (bv (tenRight T))], .br true, .r [] []])
        (ob := [VC Try.prog 32
  [AV.agg
            [AV.lit (Value.int IntKind.i64 T.h), AV.lit (Value.int IntKind.i64 T.x), AV.lit (Value.int IntKind.i64 T.c),
              AV.sl 1 (List.map (row1 IntKind.i8) T.d)]]
  (AV.lit (Value.bool (tenRight T))),
          (!tenRight T) = true]) (by kernel_rfl) ?_
      exact ⟨(@refTRight_v (T) (by with_reducible assumption)),
                (by with_reducible assumption),
                trivial⟩
    exact hz.weak (WeakL.refl _) (Weak.tup (.cons (Weak.agg (.cons (Weak.int (show ((0) : Int) = ((depthOf T
      n).fst.h) from (by (simp only [depthOf]; rw [if_pos (by simp_all)]; first | done | rfl)))) (.cons (Weak.int (show ((0) : Int) = ((depthOf T
      n).fst.x) from (by (simp only [depthOf]; rw [if_pos (by simp_all)]; first | done | rfl)))) (.cons (Weak.int (show ((0) : Int) = ((depthOf T
      n).fst.c) from (by (simp only [depthOf]; rw [if_pos (by simp_all)]; first | done | rfl)))) (.cons (Weak.nilr (show [] = (List.map (row1 IntKind.i32)
  (depthOf T
        n).fst.d) from (by (simp only [depthOf]; rw [if_pos (by simp_all)]; first | done | rfl)))) .nil))))) (.cons (Weak.int (show ((5) : Int) = ((depthOf T n).snd) from (by (simp only [depthOf]; rw [if_pos (by simp_all)]; first | done | rfl)))) .nil)))
  · have gc0 : tenRight T = true := by first | exact hc0 | exact of_decide_eq_true hc0 | exact of_decide_eq_false hc0 | simpa [eqNums] using hc0 | (simp [eqNums] at hc0 ⊢; first | done | assumption | omega)
    have hz : VC Try.prog 28 ([ten .i8 T, nod n]) (AV.tup
  [AV.agg
      [AV.lit (Value.int IntKind.i64 0), AV.lit (Value.int IntKind.i64 0), AV.lit (Value.int IntKind.i64 0),
        AV.lit (Value.slice none 0 0)],
    AV.lit (Value.int IntKind.i64 (depthE (Shp.mk T.h T.x T.c) n).snd)]) := by
      refine VC.run (fn := Try.f28) Try.func28 (W := [.r [] [], .r [] [PI.callr
   (bv
     (tenRight
       T))], .br false, .r [] [PI.callr
   (AV.tup
     [shp (depthE (Shp.mk T.h T.x T.c) n).fst, i64 (depthE (Shp.mk T.h T.x T.c) n).snd])], .r [] [], .br true, .r [] []])
        (ob := [VC Try.prog 32
  [AV.agg
            [AV.lit (Value.int IntKind.i64 T.h), AV.lit (Value.int IntKind.i64 T.x), AV.lit (Value.int IntKind.i64 T.c),
              AV.sl 1 (List.map (row1 IntKind.i8) T.d)]]
  (AV.lit (Value.bool (tenRight T))),
          (!tenRight T) = false,
          VC Try.prog 30
  [AV.agg [AV.lit (Value.int IntKind.i64 T.h), AV.lit (Value.int IntKind.i64 T.x), AV.lit (Value.int IntKind.i64 T.c)],
          AV.agg
            [AV.lit (Value.int IntKind.i64 n.kd), AV.lit (Value.int IntKind.i64 n.na), AV.lit (Value.int IntKind.i64 n.nb),
              AV.lit (Value.int IntKind.i64 n.nk), AV.lit (Value.int IntKind.i64 n.ns), AV.lit (Value.int IntKind.i64 n.np),
              AV.lit (Value.int IntKind.i64 n.no), AV.lit (Value.int IntKind.i8 n.za), AV.lit (Value.int IntKind.i8 n.zb),
              AV.sl 1 (List.map (row1 IntKind.i8) n.w), AV.sl 1 (List.map (row1 IntKind.i32) n.b),
              AV.lit (Value.int IntKind.i32 n.qm), AV.lit (Value.int IntKind.i64 n.qs), AV.lit (Value.int IntKind.i8 n.qz),
              AV.lit (Value.int IntKind.i32 n.rm), AV.lit (Value.int IntKind.i64 n.rs), AV.lit (Value.int IntKind.i8 n.rz),
              AV.lit (Value.int IntKind.i8 n.lo), AV.lit (Value.int IntKind.i8 n.hi)]]
  (AV.tup
          [AV.agg
              [AV.lit (Value.int IntKind.i64 (depthE (Shp.mk T.h T.x T.c) n).fst.h),
                AV.lit (Value.int IntKind.i64 (depthE (Shp.mk T.h T.x T.c) n).fst.x),
                AV.lit (Value.int IntKind.i64 (depthE (Shp.mk T.h T.x T.c) n).fst.c)],
            AV.lit (Value.int IntKind.i64 (depthE (Shp.mk T.h T.x T.c) n).snd)]),
          ((depthE (Shp.mk T.h T.x T.c) n).snd != 0) = true]) (by kernel_rfl) ?_
      exact ⟨(@refTRight_v (T) (by with_reducible assumption)),
                (by with_reducible assumption),
                (@refDepthShape_v (Shp.mk T.h T.x T.c) (n) (by (exact Shp.mk_ok ok.h ok.x ok.c)) (by with_reducible assumption)),
                (by (rcases hn with hn | hn <;> simp_all; done)),
                trivial⟩
    exact hz.weak (WeakL.refl _) (Weak.tup (.cons (Weak.agg (.cons (Weak.int (show ((0) : Int) = ((depthOf T
      n).fst.h) from (by (simp only [depthOf]; rw [if_neg (by simp_all), if_pos (by rcases hn with hn | hn <;> simp_all)]; first | done | rfl)))) (.cons (Weak.int (show ((0) : Int) = ((depthOf T
      n).fst.x) from (by (simp only [depthOf]; rw [if_neg (by simp_all), if_pos (by rcases hn with hn | hn <;> simp_all)]; first | done | rfl)))) (.cons (Weak.int (show ((0) : Int) = ((depthOf T
      n).fst.c) from (by (simp only [depthOf]; rw [if_neg (by simp_all), if_pos (by rcases hn with hn | hn <;> simp_all)]; first | done | rfl)))) (.cons (Weak.nilr (show [] = (List.map (row1 IntKind.i32)
  (depthOf T
        n).fst.d) from (by (simp only [depthOf]; rw [if_neg (by simp_all), if_pos (by rcases hn with hn | hn <;> simp_all)]; first | done | rfl)))) .nil))))) (.cons (Weak.int (show (((depthE (Shp.mk T.h T.x T.c)
    n).snd) : Int) = ((depthOf T n).snd) from (by (simp only [depthOf]; rw [if_neg (by simp_all), if_pos (by rcases hn with hn | hn <;> simp_all)]; first | done | rfl)))) .nil)))
theorem rdOf_v (T : Ten) (n : Nod) (ok : T.Ok) (okn : n.Ok) : VC Try.prog 28 [ten .i8 T, nod n] (.tup [ten .i32 (depthOf T n).1, i64 (depthOf T n).2]) := by
  cases hr : tenRight T with
  | false => exact rdOf_n T n ok okn (.inl hr)
  | true =>
    by_cases he : (depthE ⟨T.h, T.x, T.c⟩ n).2 = 0
    · have h := rdOf_x T n ⟨ok, okn, hr, he⟩
      have e : depthOf T n = (⟨(depthE ⟨T.h, T.x, T.c⟩ n).1.h, (depthE ⟨T.h, T.x, T.c⟩ n).1.x, (depthE ⟨T.h, T.x, T.c⟩ n).1.c, dL T n⟩, 0) := by
        unfold depthOf
        rw [if_neg (by simp [hr]), if_neg (by simpa using he)]
      rw [e]; rw [dL_eq ⟨ok, okn, hr, he⟩]; exact h
    · exact rdOf_n T n ok okn (.inr he)
theorem depthOf_len (T : Ten) (n : Nod) (ok : T.Ok) (okn : n.Ok) : (depthOf T n).1.d.length ≤ 1024 := by
  unfold depthOf
  split
  · simp
  · split
    · simp
    · rename_i h1 h2
      have nn := DpOk.n (T := T) (n := n) ⟨ok, okn, by simpa using h1, by simpa using h2⟩
      rw [dL_len]
      have h3 := nn.el
      unfold dN; omega
abbrev kT17 : Ten := ⟨1, 1, 2, [2, 3]⟩
abbrev kN17 : Nod := ⟨0, 0, 0, 1, 1, 0, 0, 0, 0, [10, 100], [1, 1], 0, 0, 0, 0, 0, 0, 0, 0⟩
theorem known17_c : VC Try.prog 27 [.agg [i64 1, i64 1, i64 2, .sl 1 [[i8 2], [i8 3]]], .agg [i64 0, i64 0, i64 0, i64 1, i64 1, i64 0, i64 0, i8 0, i8 0, .sl 1 [[i8 10], [i8 100]], .sl 1 [[i32 1], [i32 1]], i32 0, i64 0, i8 0, i32 0, i64 0, i8 0, i8 0, i8 0]] (.tup [.agg [i64 1, i64 1, i64 2, .sl 1 [[i32 21], [i32 301]]], i64 0]) :=
  VC.to (dpOf_v kT17 kN17 (Ten.okB_ok rfl) (Nod.okB_ok rfl)) (by kernel_rfl)
set_option maxRecDepth 100000 in
set_option maxHeartbeats 2000000 in
theorem known17_v   : VC Try.prog 26 ([]) (bv true) := by
  have hz : VC Try.prog 26 ([]) (AV.lit (Value.bool true)) := by
    refine VC.run (fn := Try.f26) Try.func26 (W := [.r [] [], .r [] [], .r [GI.frz 4,
  GI.frz
    5] [PI.frz 0,
 PI.callr
   (AV.tup
     [AV.agg [i64 1, i64 1, i64 2, AV.sl 1 [[i32 21], [i32 301]]],
       i64
         0])], .r [] [PI.br true,
 PI.br true,
 PI.br true,
 PI.br true,
 PI.br true,
 PI.br true,
 PI.br true,
 PI.br true,
 PI.row [AV.lit (Value.int IntKind.i32 21)],
 PI.br true,
 PI.br true,
 PI.br true,
 PI.br true,
 PI.br true,
 PI.br true,
 PI.row [AV.lit (Value.int IntKind.i32 301)],
 PI.br true,
 PI.br true,
 PI.br true]])
      (ob := [VC Try.prog 27
  [AV.agg
          [AV.lit (Value.int IntKind.i64 1), AV.lit (Value.int IntKind.i64 1), AV.lit (Value.int IntKind.i64 2),
            AV.sl 1 [[AV.lit (Value.int IntKind.i8 2)], [AV.lit (Value.int IntKind.i8 3)]]],
        AV.agg
          [AV.lit (Value.int IntKind.i64 0), AV.lit (Value.int IntKind.i64 0), AV.lit (Value.int IntKind.i64 0),
            AV.lit (Value.int IntKind.i64 1), AV.lit (Value.int IntKind.i64 1), AV.lit (Value.int IntKind.i64 0),
            AV.lit (Value.int IntKind.i64 0), AV.lit (Value.int IntKind.i8 0), AV.lit (Value.int IntKind.i8 0),
            AV.sl 1 [[AV.lit (Value.int IntKind.i8 10)], [AV.lit (Value.int IntKind.i8 100)]],
            AV.sl 1 [[AV.lit (Value.int IntKind.i32 1)], [AV.lit (Value.int IntKind.i32 1)]],
            AV.lit (Value.int IntKind.i32 0), AV.lit (Value.int IntKind.i64 0), AV.lit (Value.int IntKind.i8 0),
            AV.lit (Value.int IntKind.i32 0), AV.lit (Value.int IntKind.i64 0), AV.lit (Value.int IntKind.i8 0),
            AV.lit (Value.int IntKind.i8 0), AV.lit (Value.int IntKind.i8 0)]]
  (AV.tup
        [AV.agg
            [AV.lit (Value.int IntKind.i64 1), AV.lit (Value.int IntKind.i64 1), AV.lit (Value.int IntKind.i64 2),
              AV.sl 1 [[AV.lit (Value.int IntKind.i32 21)], [AV.lit (Value.int IntKind.i32 301)]]],
          AV.lit (Value.int IntKind.i64 0)]),
        true = true,
        true = true,
        true = true,
        true = true,
        true = true,
        true = true,
        true = true,
        true = true,
        (0 : Int) ≤ (0 : Int),
        [[AV.lit (Value.int IntKind.i32 (21 : Int))], [AV.lit (Value.int IntKind.i32 (301 : Int))]][Int.toNat (0 : Int)]? =
  some [AV.lit (Value.int IntKind.i32 (21 : Int))],
        true = true,
        true = true,
        true = true,
        true = true,
        true = true,
        true = true,
        (0 : Int) ≤ (1 : Int),
        [[AV.lit (Value.int IntKind.i32 (21 : Int))], [AV.lit (Value.int IntKind.i32 (301 : Int))]][Int.toNat (1 : Int)]? =
  some [AV.lit (Value.int IntKind.i32 (301 : Int))],
        true = true,
        true = true,
        true = true]) (by kernel_rfl) ?_
    exact ⟨(@known17_c),
            (by with_reducible rfl),
            (by with_reducible rfl),
            (by with_reducible rfl),
            (by with_reducible rfl),
            (by with_reducible rfl),
            (by with_reducible rfl),
            (by with_reducible rfl),
            (by with_reducible rfl),
            (by omega),
            rfl,
            (by with_reducible rfl),
            (by with_reducible rfl),
            (by with_reducible rfl),
            (by with_reducible rfl),
            (by with_reducible rfl),
            (by with_reducible rfl),
            (by omega),
            rfl,
            (by with_reducible rfl),
            (by with_reducible rfl),
            (by with_reducible rfl),
            trivial⟩
  exact hz

set_option maxRecDepth 100000 in
set_option maxHeartbeats 2000000 in
theorem depthSums_v (T : Ten) (n : Nod) (ok : T.Ok) (okn : n.Ok) : VC Try.prog 7 ([ten .i8 T, nod n]) (bv true) := by
  have h1 := depthOf_len T n ok okn
  rcases Bool.eq_false_or_eq_true (!(decide (T.d.length ≤ 1024) && decide (n.w.length ≤ 2000) && decide (n.b.length ≤ 200))) with hc0 | hc0
  · have gc0 : (¬T.d.length ≤ 1024 ∨ ¬n.w.length ≤ 2000) ∨ ¬n.b.length ≤ 200 := by first | exact hc0 | exact of_decide_eq_true hc0 | exact of_decide_eq_false hc0 | simpa [eqNums] using hc0 | (simp [eqNums] at hc0 ⊢; first | done | assumption | omega)
    have hz : VC Try.prog 7 ([ten .i8 T, nod n]) (AV.lit (Value.bool true)) := by
      refine VC.run (fn := Try.f7) Try.func7 (W := [.r [] [], .r [] [PI.callr
   (bv
     (decide (T.d.length ≤ 1024) && decide (n.w.length ≤ 2000) &&
       decide (n.b.length ≤ 200)))], .br true, .r [] [PI.callr (bv true)]])
        (ob := [VC Try.prog 19
  [AV.agg
            [AV.lit (Value.int IntKind.i64 T.h), AV.lit (Value.int IntKind.i64 T.x), AV.lit (Value.int IntKind.i64 T.c),
              AV.sl 1 (List.map (row1 IntKind.i8) T.d)],
          AV.agg
            [AV.lit (Value.int IntKind.i64 n.kd), AV.lit (Value.int IntKind.i64 n.na), AV.lit (Value.int IntKind.i64 n.nb),
              AV.lit (Value.int IntKind.i64 n.nk), AV.lit (Value.int IntKind.i64 n.ns), AV.lit (Value.int IntKind.i64 n.np),
              AV.lit (Value.int IntKind.i64 n.no), AV.lit (Value.int IntKind.i8 n.za), AV.lit (Value.int IntKind.i8 n.zb),
              AV.sl 1 (List.map (row1 IntKind.i8) n.w), AV.sl 1 (List.map (row1 IntKind.i32) n.b),
              AV.lit (Value.int IntKind.i32 n.qm), AV.lit (Value.int IntKind.i64 n.qs), AV.lit (Value.int IntKind.i8 n.qz),
              AV.lit (Value.int IntKind.i32 n.rm), AV.lit (Value.int IntKind.i64 n.rs), AV.lit (Value.int IntKind.i8 n.rz),
              AV.lit (Value.int IntKind.i8 n.lo), AV.lit (Value.int IntKind.i8 n.hi)]]
  (AV.lit (Value.bool (decide (T.d.length ≤ 1024) && decide (n.w.length ≤ 2000) && decide (n.b.length ≤ 200)))),
          (!(decide (T.d.length ≤ 1024) && decide (n.w.length ≤ 2000) && decide (n.b.length ≤ 200))) = true,
          VC Try.prog 26 [] (AV.lit (Value.bool true))]) (by kernel_rfl) ?_
      exact ⟨(@few10_v (T) (n)),
                (by with_reducible assumption),
                (@known17_v),
                trivial⟩
    exact hz
  · have gc0 : (T.d.length ≤ 1024 ∧ n.w.length ≤ 2000) ∧ n.b.length ≤ 200 := by first | exact hc0 | exact of_decide_eq_true hc0 | exact of_decide_eq_false hc0 | simpa [eqNums] using hc0 | (simp [eqNums] at hc0 ⊢; first | done | assumption | omega)
    rcases Bool.eq_false_or_eq_true (eqNums
  [(IntKind.i64, (depthE (Shp.mk T.h T.x T.c) n).fst.h, (depthE (Shp.mk T.h T.x T.c) n).fst.h),
    (IntKind.i64, (depthE (Shp.mk T.h T.x T.c) n).fst.x, (depthE (Shp.mk T.h T.x T.c) n).fst.x),
    (IntKind.i64, (depthE (Shp.mk T.h T.x T.c) n).fst.c, (depthE (Shp.mk T.h T.x T.c) n).fst.c)]) with hc1 | hc1
    · have gc1 : (depthE (Shp.mk T.h T.x T.c) n).fst.h = (depthE (Shp.mk T.h T.x T.c) n).fst.h ∧
  (depthE (Shp.mk T.h T.x T.c) n).fst.x = (depthE (Shp.mk T.h T.x T.c) n).fst.x ∧
    (depthE (Shp.mk T.h T.x T.c) n).fst.c = (depthE (Shp.mk T.h T.x T.c) n).fst.c := by first | exact hc1 | exact of_decide_eq_true hc1 | exact of_decide_eq_false hc1 | simpa [eqNums] using hc1 | (simp [eqNums] at hc1 ⊢; first | done | assumption | omega)
      have hz : VC Try.prog 7 ([ten .i8 T, nod n]) (AV.lit (Value.bool true)) := by
        refine VC.run (fn := Try.f7) Try.func7 (W := [.r [] [], .r [] [PI.callr
   (bv
     (decide (T.d.length ≤ 1024) && decide (n.w.length ≤ 2000) &&
       decide
         (n.b.length ≤
           200)))], .br false, .r [] [PI.callr
   (AV.tup
     [ten IntKind.i32 (depthOf T n).fst,
       i64
         (depthOf T
             n).snd])], .r [] [PI.callr
   (AV.tup
     [ten IntKind.i32 (depthOf T n).fst,
       i64
         (depthOf T
             n).snd])], .r [] [PI.callr
   (AV.tup
     [shp (depthE (Shp.mk T.h T.x T.c) n).fst,
       i64
         (depthE (Shp.mk T.h T.x T.c)
             n).snd])], .r [] [PI.callr
   (AV.tup
     [shp (depthE (Shp.mk T.h T.x T.c) n).fst,
       i64
         (depthE (Shp.mk T.h T.x T.c)
             n).snd])], .r [] [PI.br true,
 PI.br true,
 PI.br true,
 PI.callr (bv true),
 PI.br true,
 PI.br true,
 PI.br true,
 PI.br true,
 PI.v
   (Value.bool
     (eqNums
       [(IntKind.i64, (depthE (Shp.mk T.h T.x T.c) n).fst.h, (depthE (Shp.mk T.h T.x T.c) n).fst.h),
         (IntKind.i64, (depthE (Shp.mk T.h T.x T.c) n).fst.x, (depthE (Shp.mk T.h T.x T.c) n).fst.x),
         (IntKind.i64, (depthE (Shp.mk T.h T.x T.c) n).fst.c, (depthE (Shp.mk T.h T.x T.c) n).fst.c)])),
 PI.br true,
 PI.br true,
 PI.br true,
 PI.br true,
 PI.br true,
 PI.br true,
 PI.callr (bv true),
 PI.br true]])
          (ob := [VC Try.prog 19
  [AV.agg
              [AV.lit (Value.int IntKind.i64 T.h), AV.lit (Value.int IntKind.i64 T.x), AV.lit (Value.int IntKind.i64 T.c),
                AV.sl 1 (List.map (row1 IntKind.i8) T.d)],
            AV.agg
              [AV.lit (Value.int IntKind.i64 n.kd), AV.lit (Value.int IntKind.i64 n.na), AV.lit (Value.int IntKind.i64 n.nb),
                AV.lit (Value.int IntKind.i64 n.nk), AV.lit (Value.int IntKind.i64 n.ns), AV.lit (Value.int IntKind.i64 n.np),
                AV.lit (Value.int IntKind.i64 n.no), AV.lit (Value.int IntKind.i8 n.za), AV.lit (Value.int IntKind.i8 n.zb),
                AV.sl 1 (List.map (row1 IntKind.i8) n.w), AV.sl 1 (List.map (row1 IntKind.i32) n.b),
                AV.lit (Value.int IntKind.i32 n.qm), AV.lit (Value.int IntKind.i64 n.qs), AV.lit (Value.int IntKind.i8 n.qz),
                AV.lit (Value.int IntKind.i32 n.rm), AV.lit (Value.int IntKind.i64 n.rs), AV.lit (Value.int IntKind.i8 n.rz),
                AV.lit (Value.int IntKind.i8 n.lo), AV.lit (Value.int IntKind.i8 n.hi)]]
  (AV.lit (Value.bool (decide (T.d.length ≤ 1024) && decide (n.w.length ≤ 2000) && decide (n.b.length ≤ 200)))),
            (!(decide (T.d.length ≤ 1024) && decide (n.w.length ≤ 2000) && decide (n.b.length ≤ 200))) = false,
            VC Try.prog 27
  [AV.agg
              [AV.lit (Value.int IntKind.i64 T.h), AV.lit (Value.int IntKind.i64 T.x), AV.lit (Value.int IntKind.i64 T.c),
                AV.sl 1 (List.map (row1 IntKind.i8) T.d)],
            AV.agg
              [AV.lit (Value.int IntKind.i64 n.kd), AV.lit (Value.int IntKind.i64 n.na), AV.lit (Value.int IntKind.i64 n.nb),
                AV.lit (Value.int IntKind.i64 n.nk), AV.lit (Value.int IntKind.i64 n.ns), AV.lit (Value.int IntKind.i64 n.np),
                AV.lit (Value.int IntKind.i64 n.no), AV.lit (Value.int IntKind.i8 n.za), AV.lit (Value.int IntKind.i8 n.zb),
                AV.sl 1 (List.map (row1 IntKind.i8) n.w), AV.sl 1 (List.map (row1 IntKind.i32) n.b),
                AV.lit (Value.int IntKind.i32 n.qm), AV.lit (Value.int IntKind.i64 n.qs), AV.lit (Value.int IntKind.i8 n.qz),
                AV.lit (Value.int IntKind.i32 n.rm), AV.lit (Value.int IntKind.i64 n.rs), AV.lit (Value.int IntKind.i8 n.rz),
                AV.lit (Value.int IntKind.i8 n.lo), AV.lit (Value.int IntKind.i8 n.hi)]]
  (AV.tup
            [AV.agg
                [AV.lit (Value.int IntKind.i64 (depthOf T n).fst.h), AV.lit (Value.int IntKind.i64 (depthOf T n).fst.x),
                  AV.lit (Value.int IntKind.i64 (depthOf T n).fst.c),
                  AV.sl 1 (List.map (row1 IntKind.i32) (depthOf T n).fst.d)],
              AV.lit (Value.int IntKind.i64 (depthOf T n).snd)]),
            VC Try.prog 28
  [AV.agg
              [AV.lit (Value.int IntKind.i64 T.h), AV.lit (Value.int IntKind.i64 T.x), AV.lit (Value.int IntKind.i64 T.c),
                AV.sl 1 (List.map (row1 IntKind.i8) T.d)],
            AV.agg
              [AV.lit (Value.int IntKind.i64 n.kd), AV.lit (Value.int IntKind.i64 n.na), AV.lit (Value.int IntKind.i64 n.nb),
                AV.lit (Value.int IntKind.i64 n.nk), AV.lit (Value.int IntKind.i64 n.ns), AV.lit (Value.int IntKind.i64 n.np),
                AV.lit (Value.int IntKind.i64 n.no), AV.lit (Value.int IntKind.i8 n.za), AV.lit (Value.int IntKind.i8 n.zb),
                AV.sl 1 (List.map (row1 IntKind.i8) n.w), AV.sl 1 (List.map (row1 IntKind.i32) n.b),
                AV.lit (Value.int IntKind.i32 n.qm), AV.lit (Value.int IntKind.i64 n.qs), AV.lit (Value.int IntKind.i8 n.qz),
                AV.lit (Value.int IntKind.i32 n.rm), AV.lit (Value.int IntKind.i64 n.rs), AV.lit (Value.int IntKind.i8 n.rz),
                AV.lit (Value.int IntKind.i8 n.lo), AV.lit (Value.int IntKind.i8 n.hi)]]
  (AV.tup
            [AV.agg
                [AV.lit (Value.int IntKind.i64 (depthOf T n).fst.h), AV.lit (Value.int IntKind.i64 (depthOf T n).fst.x),
                  AV.lit (Value.int IntKind.i64 (depthOf T n).fst.c),
                  AV.sl 1 (List.map (row1 IntKind.i32) (depthOf T n).fst.d)],
              AV.lit (Value.int IntKind.i64 (depthOf T n).snd)]),
            VC Try.prog 29
  [AV.agg [AV.lit (Value.int IntKind.i64 T.h), AV.lit (Value.int IntKind.i64 T.x), AV.lit (Value.int IntKind.i64 T.c)],
            AV.agg
              [AV.lit (Value.int IntKind.i64 n.kd), AV.lit (Value.int IntKind.i64 n.na), AV.lit (Value.int IntKind.i64 n.nb),
                AV.lit (Value.int IntKind.i64 n.nk), AV.lit (Value.int IntKind.i64 n.ns), AV.lit (Value.int IntKind.i64 n.np),
                AV.lit (Value.int IntKind.i64 n.no), AV.lit (Value.int IntKind.i8 n.za), AV.lit (Value.int IntKind.i8 n.zb),
                AV.sl 1 (List.map (row1 IntKind.i8) n.w), AV.sl 1 (List.map (row1 IntKind.i32) n.b),
                AV.lit (Value.int IntKind.i32 n.qm), AV.lit (Value.int IntKind.i64 n.qs), AV.lit (Value.int IntKind.i8 n.qz),
                AV.lit (Value.int IntKind.i32 n.rm), AV.lit (Value.int IntKind.i64 n.rs), AV.lit (Value.int IntKind.i8 n.rz),
                AV.lit (Value.int IntKind.i8 n.lo), AV.lit (Value.int IntKind.i8 n.hi)]]
  (AV.tup
            [AV.agg
                [AV.lit (Value.int IntKind.i64 (depthE (Shp.mk T.h T.x T.c) n).fst.h),
                  AV.lit (Value.int IntKind.i64 (depthE (Shp.mk T.h T.x T.c) n).fst.x),
                  AV.lit (Value.int IntKind.i64 (depthE (Shp.mk T.h T.x T.c) n).fst.c)],
              AV.lit (Value.int IntKind.i64 (depthE (Shp.mk T.h T.x T.c) n).snd)]),
            VC Try.prog 30
  [AV.agg [AV.lit (Value.int IntKind.i64 T.h), AV.lit (Value.int IntKind.i64 T.x), AV.lit (Value.int IntKind.i64 T.c)],
            AV.agg
              [AV.lit (Value.int IntKind.i64 n.kd), AV.lit (Value.int IntKind.i64 n.na), AV.lit (Value.int IntKind.i64 n.nb),
                AV.lit (Value.int IntKind.i64 n.nk), AV.lit (Value.int IntKind.i64 n.ns), AV.lit (Value.int IntKind.i64 n.np),
                AV.lit (Value.int IntKind.i64 n.no), AV.lit (Value.int IntKind.i8 n.za), AV.lit (Value.int IntKind.i8 n.zb),
                AV.sl 1 (List.map (row1 IntKind.i8) n.w), AV.sl 1 (List.map (row1 IntKind.i32) n.b),
                AV.lit (Value.int IntKind.i32 n.qm), AV.lit (Value.int IntKind.i64 n.qs), AV.lit (Value.int IntKind.i8 n.qz),
                AV.lit (Value.int IntKind.i32 n.rm), AV.lit (Value.int IntKind.i64 n.rs), AV.lit (Value.int IntKind.i8 n.rz),
                AV.lit (Value.int IntKind.i8 n.lo), AV.lit (Value.int IntKind.i8 n.hi)]]
  (AV.tup
            [AV.agg
                [AV.lit (Value.int IntKind.i64 (depthE (Shp.mk T.h T.x T.c) n).fst.h),
                  AV.lit (Value.int IntKind.i64 (depthE (Shp.mk T.h T.x T.c) n).fst.x),
                  AV.lit (Value.int IntKind.i64 (depthE (Shp.mk T.h T.x T.c) n).fst.c)],
              AV.lit (Value.int IntKind.i64 (depthE (Shp.mk T.h T.x T.c) n).snd)]),
            ((depthOf T n).snd == (depthOf T n).snd) = true,
            ((depthOf T n).snd == (depthOf T n).snd) = true,
            ((depthOf T n).snd == (depthOf T n).snd) = true,
            VC Try.prog 25
  [AV.agg
              [AV.lit (Value.int IntKind.i64 (depthOf T n).fst.h), AV.lit (Value.int IntKind.i64 (depthOf T n).fst.x),
                AV.lit (Value.int IntKind.i64 (depthOf T n).fst.c), AV.sl 1 (List.map (row1 IntKind.i32) (depthOf T n).fst.d)],
            AV.agg
              [AV.lit (Value.int IntKind.i64 (depthOf T n).fst.h), AV.lit (Value.int IntKind.i64 (depthOf T n).fst.x),
                AV.lit (Value.int IntKind.i64 (depthOf T n).fst.c), AV.sl 1 (List.map (row1 IntKind.i32) (depthOf T n).fst.d)]]
  (AV.lit (Value.bool true)),
            ((depthOf T n).snd == (depthOf T n).snd) = true,
            true = true,
            true = true,
            true = true,
            BinTo Try.prog BinOp.eql 23 (Operand.tmp 53) (Operand.tmp 54)
  (Value.agg
            #[Value.int IntKind.i64 (depthE (Shp.mk T.h T.x T.c) n).fst.h,
              Value.int IntKind.i64 (depthE (Shp.mk T.h T.x T.c) n).fst.x,
              Value.int IntKind.i64 (depthE (Shp.mk T.h T.x T.c) n).fst.c])
  (Value.agg
            #[Value.int IntKind.i64 (depthE (Shp.mk T.h T.x T.c) n).fst.h,
              Value.int IntKind.i64 (depthE (Shp.mk T.h T.x T.c) n).fst.x,
              Value.int IntKind.i64 (depthE (Shp.mk T.h T.x T.c) n).fst.c])
  (Value.bool
            (eqNums
              [(IntKind.i64, (depthE (Shp.mk T.h T.x T.c) n).fst.h, (depthE (Shp.mk T.h T.x T.c) n).fst.h),
                (IntKind.i64, (depthE (Shp.mk T.h T.x T.c) n).fst.x, (depthE (Shp.mk T.h T.x T.c) n).fst.x),
                (IntKind.i64, (depthE (Shp.mk T.h T.x T.c) n).fst.c, (depthE (Shp.mk T.h T.x T.c) n).fst.c)])),
            true = true,
            eqNums
            [(IntKind.i64, (depthE (Shp.mk T.h T.x T.c) n).fst.h, (depthE (Shp.mk T.h T.x T.c) n).fst.h),
              (IntKind.i64, (depthE (Shp.mk T.h T.x T.c) n).fst.x, (depthE (Shp.mk T.h T.x T.c) n).fst.x),
              (IntKind.i64, (depthE (Shp.mk T.h T.x T.c) n).fst.c, (depthE (Shp.mk T.h T.x T.c) n).fst.c)] =
  true,
            eqNums
            [(IntKind.i64, (depthE (Shp.mk T.h T.x T.c) n).fst.h, (depthE (Shp.mk T.h T.x T.c) n).fst.h),
              (IntKind.i64, (depthE (Shp.mk T.h T.x T.c) n).fst.x, (depthE (Shp.mk T.h T.x T.c) n).fst.x),
              (IntKind.i64, (depthE (Shp.mk T.h T.x T.c) n).fst.c, (depthE (Shp.mk T.h T.x T.c) n).fst.c)] =
  true,
            eqNums
            [(IntKind.i64, (depthE (Shp.mk T.h T.x T.c) n).fst.h, (depthE (Shp.mk T.h T.x T.c) n).fst.h),
              (IntKind.i64, (depthE (Shp.mk T.h T.x T.c) n).fst.x, (depthE (Shp.mk T.h T.x T.c) n).fst.x),
              (IntKind.i64, (depthE (Shp.mk T.h T.x T.c) n).fst.c, (depthE (Shp.mk T.h T.x T.c) n).fst.c)] =
  true,
            eqNums
            [(IntKind.i64, (depthE (Shp.mk T.h T.x T.c) n).fst.h, (depthE (Shp.mk T.h T.x T.c) n).fst.h),
              (IntKind.i64, (depthE (Shp.mk T.h T.x T.c) n).fst.x, (depthE (Shp.mk T.h T.x T.c) n).fst.x),
              (IntKind.i64, (depthE (Shp.mk T.h T.x T.c) n).fst.c, (depthE (Shp.mk T.h T.x T.c) n).fst.c)] =
  true,
            ((depthE (Shp.mk T.h T.x T.c) n).snd == (depthE (Shp.mk T.h T.x T.c) n).snd) = true,
            VC Try.prog 26 [] (AV.lit (Value.bool true)),
            ((depthE (Shp.mk T.h T.x T.c) n).snd == (depthE (Shp.mk T.h T.x T.c) n).snd) = true]) (by kernel_rfl) ?_
        exact ⟨(@few10_v (T) (n)),
                    (by with_reducible assumption),
                    (@dpOf_v (T) (n) (by with_reducible assumption) (by with_reducible assumption)),
                    (@rdOf_v (T) (n) (by with_reducible assumption) (by with_reducible assumption)),
                    (@depthShape_v (Shp.mk T.h T.x T.c) (n) (by (exact Shp.mk_ok ok.h ok.x ok.c)) (by with_reducible assumption)),
                    (@refDepthShape_v (Shp.mk T.h T.x T.c) (n) (by (exact Shp.mk_ok ok.h ok.x ok.c)) (by with_reducible assumption)),
                    (by exact decide_eq_true (by omega)),
                    (by exact decide_eq_true (by omega)),
                    (by exact decide_eq_true (by omega)),
                    (@same10_v ((depthOf T n).fst) (by omega)),
                    (by exact decide_eq_true (by omega)),
                    (by with_reducible rfl),
                    (by with_reducible rfl),
                    (by with_reducible rfl),
                    ((bin_nums (l := [(IntKind.i64, (depthE (Shp.mk T.h T.x T.c) n).fst.h, (depthE (Shp.mk T.h T.x T.c) n).fst.h),
          (IntKind.i64, (depthE (Shp.mk T.h T.x T.c) n).fst.x, (depthE (Shp.mk T.h T.x T.c) n).fst.x),
          (IntKind.i64, (depthE (Shp.mk T.h T.x T.c) n).fst.c,
                    (depthE (Shp.mk T.h T.x T.c) n).fst.c)]) (by kernel_rfl) (by kernel_rfl) (by kernel_rfl) (by kernel_rfl) _ _).1),
                    (by with_reducible rfl),
                    (by with_reducible assumption),
                    (by with_reducible assumption),
                    (by with_reducible assumption),
                    (by with_reducible assumption),
                    (by exact decide_eq_true (by omega)),
                    (@known17_v),
                    (by exact decide_eq_true (by omega)),
                    trivial⟩
      exact hz
    · have gc1 : ¬((depthE (Shp.mk T.h T.x T.c) n).fst.h = (depthE (Shp.mk T.h T.x T.c) n).fst.h ∧
    (depthE (Shp.mk T.h T.x T.c) n).fst.x = (depthE (Shp.mk T.h T.x T.c) n).fst.x ∧
      (depthE (Shp.mk T.h T.x T.c) n).fst.c = (depthE (Shp.mk T.h T.x T.c) n).fst.c) := by first | exact hc1 | exact of_decide_eq_true hc1 | exact of_decide_eq_false hc1 | simpa [eqNums] using hc1 | (simp [eqNums] at hc1 ⊢; first | done | assumption | omega)
      have hz : VC Try.prog 7 ([ten .i8 T, nod n]) (AV.lit (Value.bool false)) := by
        refine VC.run (fn := Try.f7) Try.func7 (W := [.r [] [], .r [] [PI.callr
   (bv
     (decide (T.d.length ≤ 1024) && decide (n.w.length ≤ 2000) &&
       decide
         (n.b.length ≤
           200)))], .br false, .r [] [PI.callr
   (AV.tup
     [ten IntKind.i32 (depthOf T n).fst,
       i64
         (depthOf T
             n).snd])], .r [] [PI.callr
   (AV.tup
     [ten IntKind.i32 (depthOf T n).fst,
       i64
         (depthOf T
             n).snd])], .r [] [PI.callr
   (AV.tup
     [shp (depthE (Shp.mk T.h T.x T.c) n).fst,
       i64
         (depthE (Shp.mk T.h T.x T.c)
             n).snd])], .r [] [PI.callr
   (AV.tup
     [shp (depthE (Shp.mk T.h T.x T.c) n).fst,
       i64
         (depthE (Shp.mk T.h T.x T.c)
             n).snd])], .r [] [PI.br true,
 PI.br true,
 PI.br true,
 PI.callr (bv true),
 PI.br true,
 PI.br true,
 PI.br true,
 PI.br true,
 PI.v
   (Value.bool
     (eqNums
       [(IntKind.i64, (depthE (Shp.mk T.h T.x T.c) n).fst.h, (depthE (Shp.mk T.h T.x T.c) n).fst.h),
         (IntKind.i64, (depthE (Shp.mk T.h T.x T.c) n).fst.x, (depthE (Shp.mk T.h T.x T.c) n).fst.x),
         (IntKind.i64, (depthE (Shp.mk T.h T.x T.c) n).fst.c, (depthE (Shp.mk T.h T.x T.c) n).fst.c)])),
 PI.br true,
 PI.br false,
 PI.br false,
 PI.br false,
 PI.br false,
 PI.br false,
 PI.br false]])
          (ob := [VC Try.prog 19
  [AV.agg
              [AV.lit (Value.int IntKind.i64 T.h), AV.lit (Value.int IntKind.i64 T.x), AV.lit (Value.int IntKind.i64 T.c),
                AV.sl 1 (List.map (row1 IntKind.i8) T.d)],
            AV.agg
              [AV.lit (Value.int IntKind.i64 n.kd), AV.lit (Value.int IntKind.i64 n.na), AV.lit (Value.int IntKind.i64 n.nb),
                AV.lit (Value.int IntKind.i64 n.nk), AV.lit (Value.int IntKind.i64 n.ns), AV.lit (Value.int IntKind.i64 n.np),
                AV.lit (Value.int IntKind.i64 n.no), AV.lit (Value.int IntKind.i8 n.za), AV.lit (Value.int IntKind.i8 n.zb),
                AV.sl 1 (List.map (row1 IntKind.i8) n.w), AV.sl 1 (List.map (row1 IntKind.i32) n.b),
                AV.lit (Value.int IntKind.i32 n.qm), AV.lit (Value.int IntKind.i64 n.qs), AV.lit (Value.int IntKind.i8 n.qz),
                AV.lit (Value.int IntKind.i32 n.rm), AV.lit (Value.int IntKind.i64 n.rs), AV.lit (Value.int IntKind.i8 n.rz),
                AV.lit (Value.int IntKind.i8 n.lo), AV.lit (Value.int IntKind.i8 n.hi)]]
  (AV.lit (Value.bool (decide (T.d.length ≤ 1024) && decide (n.w.length ≤ 2000) && decide (n.b.length ≤ 200)))),
            (!(decide (T.d.length ≤ 1024) && decide (n.w.length ≤ 2000) && decide (n.b.length ≤ 200))) = false,
            VC Try.prog 27
  [AV.agg
              [AV.lit (Value.int IntKind.i64 T.h), AV.lit (Value.int IntKind.i64 T.x), AV.lit (Value.int IntKind.i64 T.c),
                AV.sl 1 (List.map (row1 IntKind.i8) T.d)],
            AV.agg
              [AV.lit (Value.int IntKind.i64 n.kd), AV.lit (Value.int IntKind.i64 n.na), AV.lit (Value.int IntKind.i64 n.nb),
                AV.lit (Value.int IntKind.i64 n.nk), AV.lit (Value.int IntKind.i64 n.ns), AV.lit (Value.int IntKind.i64 n.np),
                AV.lit (Value.int IntKind.i64 n.no), AV.lit (Value.int IntKind.i8 n.za), AV.lit (Value.int IntKind.i8 n.zb),
                AV.sl 1 (List.map (row1 IntKind.i8) n.w), AV.sl 1 (List.map (row1 IntKind.i32) n.b),
                AV.lit (Value.int IntKind.i32 n.qm), AV.lit (Value.int IntKind.i64 n.qs), AV.lit (Value.int IntKind.i8 n.qz),
                AV.lit (Value.int IntKind.i32 n.rm), AV.lit (Value.int IntKind.i64 n.rs), AV.lit (Value.int IntKind.i8 n.rz),
                AV.lit (Value.int IntKind.i8 n.lo), AV.lit (Value.int IntKind.i8 n.hi)]]
  (AV.tup
            [AV.agg
                [AV.lit (Value.int IntKind.i64 (depthOf T n).fst.h), AV.lit (Value.int IntKind.i64 (depthOf T n).fst.x),
                  AV.lit (Value.int IntKind.i64 (depthOf T n).fst.c),
                  AV.sl 1 (List.map (row1 IntKind.i32) (depthOf T n).fst.d)],
              AV.lit (Value.int IntKind.i64 (depthOf T n).snd)]),
            VC Try.prog 28
  [AV.agg
              [AV.lit (Value.int IntKind.i64 T.h), AV.lit (Value.int IntKind.i64 T.x), AV.lit (Value.int IntKind.i64 T.c),
                AV.sl 1 (List.map (row1 IntKind.i8) T.d)],
            AV.agg
              [AV.lit (Value.int IntKind.i64 n.kd), AV.lit (Value.int IntKind.i64 n.na), AV.lit (Value.int IntKind.i64 n.nb),
                AV.lit (Value.int IntKind.i64 n.nk), AV.lit (Value.int IntKind.i64 n.ns), AV.lit (Value.int IntKind.i64 n.np),
                AV.lit (Value.int IntKind.i64 n.no), AV.lit (Value.int IntKind.i8 n.za), AV.lit (Value.int IntKind.i8 n.zb),
                AV.sl 1 (List.map (row1 IntKind.i8) n.w), AV.sl 1 (List.map (row1 IntKind.i32) n.b),
                AV.lit (Value.int IntKind.i32 n.qm), AV.lit (Value.int IntKind.i64 n.qs), AV.lit (Value.int IntKind.i8 n.qz),
                AV.lit (Value.int IntKind.i32 n.rm), AV.lit (Value.int IntKind.i64 n.rs), AV.lit (Value.int IntKind.i8 n.rz),
                AV.lit (Value.int IntKind.i8 n.lo), AV.lit (Value.int IntKind.i8 n.hi)]]
  (AV.tup
            [AV.agg
                [AV.lit (Value.int IntKind.i64 (depthOf T n).fst.h), AV.lit (Value.int IntKind.i64 (depthOf T n).fst.x),
                  AV.lit (Value.int IntKind.i64 (depthOf T n).fst.c),
                  AV.sl 1 (List.map (row1 IntKind.i32) (depthOf T n).fst.d)],
              AV.lit (Value.int IntKind.i64 (depthOf T n).snd)]),
            VC Try.prog 29
  [AV.agg [AV.lit (Value.int IntKind.i64 T.h), AV.lit (Value.int IntKind.i64 T.x), AV.lit (Value.int IntKind.i64 T.c)],
            AV.agg
              [AV.lit (Value.int IntKind.i64 n.kd), AV.lit (Value.int IntKind.i64 n.na), AV.lit (Value.int IntKind.i64 n.nb),
                AV.lit (Value.int IntKind.i64 n.nk), AV.lit (Value.int IntKind.i64 n.ns), AV.lit (Value.int IntKind.i64 n.np),
                AV.lit (Value.int IntKind.i64 n.no), AV.lit (Value.int IntKind.i8 n.za), AV.lit (Value.int IntKind.i8 n.zb),
                AV.sl 1 (List.map (row1 IntKind.i8) n.w), AV.sl 1 (List.map (row1 IntKind.i32) n.b),
                AV.lit (Value.int IntKind.i32 n.qm), AV.lit (Value.int IntKind.i64 n.qs), AV.lit (Value.int IntKind.i8 n.qz),
                AV.lit (Value.int IntKind.i32 n.rm), AV.lit (Value.int IntKind.i64 n.rs), AV.lit (Value.int IntKind.i8 n.rz),
                AV.lit (Value.int IntKind.i8 n.lo), AV.lit (Value.int IntKind.i8 n.hi)]]
  (AV.tup
            [AV.agg
                [AV.lit (Value.int IntKind.i64 (depthE (Shp.mk T.h T.x T.c) n).fst.h),
                  AV.lit (Value.int IntKind.i64 (depthE (Shp.mk T.h T.x T.c) n).fst.x),
                  AV.lit (Value.int IntKind.i64 (depthE (Shp.mk T.h T.x T.c) n).fst.c)],
              AV.lit (Value.int IntKind.i64 (depthE (Shp.mk T.h T.x T.c) n).snd)]),
            VC Try.prog 30
  [AV.agg [AV.lit (Value.int IntKind.i64 T.h), AV.lit (Value.int IntKind.i64 T.x), AV.lit (Value.int IntKind.i64 T.c)],
            AV.agg
              [AV.lit (Value.int IntKind.i64 n.kd), AV.lit (Value.int IntKind.i64 n.na), AV.lit (Value.int IntKind.i64 n.nb),
                AV.lit (Value.int IntKind.i64 n.nk), AV.lit (Value.int IntKind.i64 n.ns), AV.lit (Value.int IntKind.i64 n.np),
                AV.lit (Value.int IntKind.i64 n.no), AV.lit (Value.int IntKind.i8 n.za), AV.lit (Value.int IntKind.i8 n.zb),
                AV.sl 1 (List.map (row1 IntKind.i8) n.w), AV.sl 1 (List.map (row1 IntKind.i32) n.b),
                AV.lit (Value.int IntKind.i32 n.qm), AV.lit (Value.int IntKind.i64 n.qs), AV.lit (Value.int IntKind.i8 n.qz),
                AV.lit (Value.int IntKind.i32 n.rm), AV.lit (Value.int IntKind.i64 n.rs), AV.lit (Value.int IntKind.i8 n.rz),
                AV.lit (Value.int IntKind.i8 n.lo), AV.lit (Value.int IntKind.i8 n.hi)]]
  (AV.tup
            [AV.agg
                [AV.lit (Value.int IntKind.i64 (depthE (Shp.mk T.h T.x T.c) n).fst.h),
                  AV.lit (Value.int IntKind.i64 (depthE (Shp.mk T.h T.x T.c) n).fst.x),
                  AV.lit (Value.int IntKind.i64 (depthE (Shp.mk T.h T.x T.c) n).fst.c)],
              AV.lit (Value.int IntKind.i64 (depthE (Shp.mk T.h T.x T.c) n).snd)]),
            ((depthOf T n).snd == (depthOf T n).snd) = true,
            ((depthOf T n).snd == (depthOf T n).snd) = true,
            ((depthOf T n).snd == (depthOf T n).snd) = true,
            VC Try.prog 25
  [AV.agg
              [AV.lit (Value.int IntKind.i64 (depthOf T n).fst.h), AV.lit (Value.int IntKind.i64 (depthOf T n).fst.x),
                AV.lit (Value.int IntKind.i64 (depthOf T n).fst.c), AV.sl 1 (List.map (row1 IntKind.i32) (depthOf T n).fst.d)],
            AV.agg
              [AV.lit (Value.int IntKind.i64 (depthOf T n).fst.h), AV.lit (Value.int IntKind.i64 (depthOf T n).fst.x),
                AV.lit (Value.int IntKind.i64 (depthOf T n).fst.c), AV.sl 1 (List.map (row1 IntKind.i32) (depthOf T n).fst.d)]]
  (AV.lit (Value.bool true)),
            ((depthOf T n).snd == (depthOf T n).snd) = true,
            true = true,
            true = true,
            true = true,
            BinTo Try.prog BinOp.eql 23 (Operand.tmp 53) (Operand.tmp 54)
  (Value.agg
            #[Value.int IntKind.i64 (depthE (Shp.mk T.h T.x T.c) n).fst.h,
              Value.int IntKind.i64 (depthE (Shp.mk T.h T.x T.c) n).fst.x,
              Value.int IntKind.i64 (depthE (Shp.mk T.h T.x T.c) n).fst.c])
  (Value.agg
            #[Value.int IntKind.i64 (depthE (Shp.mk T.h T.x T.c) n).fst.h,
              Value.int IntKind.i64 (depthE (Shp.mk T.h T.x T.c) n).fst.x,
              Value.int IntKind.i64 (depthE (Shp.mk T.h T.x T.c) n).fst.c])
  (Value.bool
            (eqNums
              [(IntKind.i64, (depthE (Shp.mk T.h T.x T.c) n).fst.h, (depthE (Shp.mk T.h T.x T.c) n).fst.h),
                (IntKind.i64, (depthE (Shp.mk T.h T.x T.c) n).fst.x, (depthE (Shp.mk T.h T.x T.c) n).fst.x),
                (IntKind.i64, (depthE (Shp.mk T.h T.x T.c) n).fst.c, (depthE (Shp.mk T.h T.x T.c) n).fst.c)])),
            true = true,
            eqNums
            [(IntKind.i64, (depthE (Shp.mk T.h T.x T.c) n).fst.h, (depthE (Shp.mk T.h T.x T.c) n).fst.h),
              (IntKind.i64, (depthE (Shp.mk T.h T.x T.c) n).fst.x, (depthE (Shp.mk T.h T.x T.c) n).fst.x),
              (IntKind.i64, (depthE (Shp.mk T.h T.x T.c) n).fst.c, (depthE (Shp.mk T.h T.x T.c) n).fst.c)] =
  !true,
            eqNums
            [(IntKind.i64, (depthE (Shp.mk T.h T.x T.c) n).fst.h, (depthE (Shp.mk T.h T.x T.c) n).fst.h),
              (IntKind.i64, (depthE (Shp.mk T.h T.x T.c) n).fst.x, (depthE (Shp.mk T.h T.x T.c) n).fst.x),
              (IntKind.i64, (depthE (Shp.mk T.h T.x T.c) n).fst.c, (depthE (Shp.mk T.h T.x T.c) n).fst.c)] =
  !true,
            eqNums
            [(IntKind.i64, (depthE (Shp.mk T.h T.x T.c) n).fst.h, (depthE (Shp.mk T.h T.x T.c) n).fst.h),
              (IntKind.i64, (depthE (Shp.mk T.h T.x T.c) n).fst.x, (depthE (Shp.mk T.h T.x T.c) n).fst.x),
              (IntKind.i64, (depthE (Shp.mk T.h T.x T.c) n).fst.c, (depthE (Shp.mk T.h T.x T.c) n).fst.c)] =
  !true,
            eqNums
            [(IntKind.i64, (depthE (Shp.mk T.h T.x T.c) n).fst.h, (depthE (Shp.mk T.h T.x T.c) n).fst.h),
              (IntKind.i64, (depthE (Shp.mk T.h T.x T.c) n).fst.x, (depthE (Shp.mk T.h T.x T.c) n).fst.x),
              (IntKind.i64, (depthE (Shp.mk T.h T.x T.c) n).fst.c, (depthE (Shp.mk T.h T.x T.c) n).fst.c)] =
  false,
            false = !true,
            false = false]) (by kernel_rfl) ?_
        exact ⟨(@few10_v (T) (n)),
                    (by with_reducible assumption),
                    (@dpOf_v (T) (n) (by with_reducible assumption) (by with_reducible assumption)),
                    (@rdOf_v (T) (n) (by with_reducible assumption) (by with_reducible assumption)),
                    (@depthShape_v (Shp.mk T.h T.x T.c) (n) (by (exact Shp.mk_ok ok.h ok.x ok.c)) (by with_reducible assumption)),
                    (@refDepthShape_v (Shp.mk T.h T.x T.c) (n) (by (exact Shp.mk_ok ok.h ok.x ok.c)) (by with_reducible assumption)),
                    (by omega),
                    (by omega),
                    (by omega),
                    (@same10_v ((depthOf T n).fst) (by omega)),
                    (by omega),
                    (by with_reducible rfl),
                    (by with_reducible rfl),
                    (by with_reducible rfl),
                    ((bin_nums (l := [(IntKind.i64, (depthE (Shp.mk T.h T.x T.c) n).fst.h, (depthE (Shp.mk T.h T.x T.c) n).fst.h),
          (IntKind.i64, (depthE (Shp.mk T.h T.x T.c) n).fst.x, (depthE (Shp.mk T.h T.x T.c) n).fst.x),
          (IntKind.i64, (depthE (Shp.mk T.h T.x T.c) n).fst.c,
                    (depthE (Shp.mk T.h T.x T.c) n).fst.c)]) (by kernel_rfl) (by kernel_rfl) (by kernel_rfl) (by kernel_rfl) _ _).1),
                    (by with_reducible rfl),
                    (by omega),
                    (by omega),
                    (by omega),
                    (by with_reducible assumption),
                    (by omega),
                    (by with_reducible rfl),
                    trivial⟩
      exact hz.weak (WeakL.refl _) (Weak.bool (show ((false) : Bool) = (true) from (by omega)))
end Go.Proofs.Ytcegfkmelcjdhaa

