/- A node of one channel each as one of all channels. No condition. -/
import Derived.Test.YtcegfkmelcjdhaaCl
namespace Go.Proofs.Ytcegfkmelcjdhaa
open Go.RowKit
set_option linter.unusedSimpArgs false
set_option linter.unusedVariables false
set_option linter.unnecessarySimpa false

/-- Whether a node fits so many channels. -/
def fitsW (n : Nod) (ch : Int) : Prop := 1 ≤ ch ∧ ch ≤ 64 ∧ 1 ≤ n.nk ∧ n.nk ≤ 5 ∧ (n.w.length : Int) = ch * n.nk * n.nk ∧ (n.b.length : Int) = ch ∧ (n.w.length : Int) * ch ≤ 16384
/-- The first k weights, laid for all channels. -/
def wideTo (n : Nod) (ch : Int) (k : Nat) : List Int := (List.range (n.w.length * ch.toNat)).map fun (p : Nat) => if p / ch.toNat < k ∧ p % ch.toNat = p / ch.toNat / n.nk.toNat / n.nk.toNat then n.w.getD (p / ch.toNat) 0 else 0
theorem wideTo_zero (n : Nod) (ch : Int) : wideTo n ch 0 = List.replicate (n.w.length * ch.toNat) 0 := by
  unfold wideTo
  rw [List.eq_replicate_iff]
  refine ⟨by simp, fun x hx => ?_⟩
  rw [List.mem_map] at hx
  obtain ⟨p, _, rfl⟩ := hx
  rw [if_neg (fun h => Nat.not_lt_zero _ h.1)]
theorem wideTo_set (n : Nod) (ch : Int) (k : Nat) (hc : 1 ≤ ch) (hq : k / n.nk.toNat / n.nk.toNat < ch.toNat) : (wideTo n ch k).set (k * ch.toNat + k / n.nk.toNat / n.nk.toNat) (n.w.getD k 0) = wideTo n ch (k + 1) := by
  unfold wideTo
  apply List.ext_getElem?
  intro p
  rw [List.getElem?_set, List.length_map, List.length_range, List.getElem?_map, List.getElem?_map]
  have hd : (k * ch.toNat + k / n.nk.toNat / n.nk.toNat) / ch.toNat = k := by
    rw [Nat.mul_comm, Nat.mul_add_div (by omega), Nat.div_eq_of_lt hq, Nat.add_zero]
  have hm : (k * ch.toNat + k / n.nk.toNat / n.nk.toNat) % ch.toNat = k / n.nk.toNat / n.nk.toNat := by
    rw [Nat.mul_comm, Nat.mul_add_mod, Nat.mod_eq_of_lt hq]
  by_cases hp : p < n.w.length * ch.toNat
  · rw [List.getElem?_range hp]
    by_cases e : k * ch.toNat + k / n.nk.toNat / n.nk.toNat = p
    · subst e
      rw [if_pos rfl, if_pos hp]
      simp only [Option.map_some]
      rw [hd, hm, if_pos ⟨by omega, rfl⟩]
    · rw [if_neg e]
      simp only [Option.map_some]
      congr 1
      by_cases c : p / ch.toNat < k ∧ p % ch.toNat = p / ch.toNat / n.nk.toNat / n.nk.toNat
      · rw [if_pos c, if_pos ⟨by omega, c.2⟩]
      · rw [if_neg c, if_neg]
        rintro ⟨c1, c2⟩
        have hk : p / ch.toNat = k := by
          by_cases h : p / ch.toNat < k
          · exact absurd ⟨h, c2⟩ c
          · omega
        apply e
        rw [hk] at c2
        rw [← c2, ← hk, Nat.mul_comm]; exact Nat.div_add_mod p ch.toNat
  · rw [List.getElem?_eq_none (by simpa using hp)]
    simp only [Option.map_none]
    split
    · rename_i e; subst e; rw [if_neg hp]
    · rfl
theorem wideTo_len (n : Nod) (ch : Int) (k : Nat) : (wideTo n ch k).length = n.w.length * ch.toNat := by simp [wideTo]
theorem wideTo_all (n : Nod) (ch : Int) {p : Nat} (hp : p < n.w.length * ch.toNat) : (wideTo n ch n.w.length).getD p 0 = if p % ch.toNat = p / ch.toNat / n.nk.toNat / n.nk.toNat then n.w.getD (p / ch.toNat) 0 else 0 := by
  unfold wideTo
  rw [List.getD_eq_getElem?_getD, List.getElem?_map, List.getElem?_range hp]
  simp only [Option.map_some, Option.getD_some]
  have : p / ch.toNat < n.w.length := Nat.div_lt_of_lt_mul (by rwa [Nat.mul_comm])
  by_cases h : p % ch.toNat = p / ch.toNat / n.nk.toNat / n.nk.toNat
  · rw [if_pos ⟨this, h⟩, if_pos h]
  · rw [if_neg (fun q => h q.2), if_neg h]
/-- The node as one of all channels. -/
def wideN (n : Nod) (ch : Int) : Nod := ⟨1, n.na, n.nb, n.nk, n.ns, n.np, ch, n.za, n.zb, wideTo n ch n.w.length, n.b, n.qm, n.qs, n.qz, n.rm, n.rs, n.rz, n.lo, n.hi⟩
theorem wq_bd {n : Nod} {ch : Int} (h : fitsW n ch) {k : Nat} (hk : k < n.w.length) : k / n.nk.toNat / n.nk.toNat < ch.toNat := by
  obtain ⟨h1, h2, h3, h4, h5, h6, h7⟩ := h
  rw [Nat.div_div_eq_div_mul]
  apply Nat.div_lt_of_lt_mul
  have e : n.w.length = ch.toNat * n.nk.toNat * n.nk.toNat := by
    apply Int.ofNat_inj.1
    rw [Int.natCast_mul, Int.natCast_mul, Int.toNat_of_nonneg (by omega), Int.toNat_of_nonneg (by omega), h5]
  rw [e] at hk
  have : ch.toNat * n.nk.toNat * n.nk.toNat = n.nk.toNat * n.nk.toNat * ch.toNat := by rw [Nat.mul_assoc, Nat.mul_comm]
  omega
theorem wk_eq {n : Nod} {ch : Int} (h : fitsW n ch) (k : Nat) : ((k : Int) * ch + (k : Int) / n.nk / n.nk).toNat = k * ch.toNat + k / n.nk.toNat / n.nk.toNat := by
  obtain ⟨h1, h2, h3, h4, h5, h6, h7⟩ := h
  apply Int.ofNat_inj.1
  have e1 := Int.mul_nonneg (show 0 ≤ (k : Int) by omega) (show 0 ≤ ch by omega)
  have e2 := Int.ediv_nonneg (Int.ediv_nonneg (show 0 ≤ (k : Int) by omega) (show 0 ≤ n.nk by omega)) (show 0 ≤ n.nk by omega)
  rw [Int.toNat_of_nonneg (by omega), Int.natCast_add, Int.natCast_mul, Int.natCast_ediv, Int.natCast_ediv, Int.toNat_of_nonneg (by omega), Int.toNat_of_nonneg (by omega)]
noncomputable def wide_l_I (n : Nod) (ch : Int) (k : Nat) : VS := stt 93 [(1, i64 ch), (2, .ptr 2 0 0), (4, .ptr 4 0 0), (6, .ptr 6 0 0), (69, ints .i8 n.w), (70, i64 n.w.length), (71, i64 k)] [(2, .var (nodC n)), (4, .var [i64 0, i64 0, i64 0, i64 0, i64 0, i64 0, i64 0, i8 0, i8 0, nilv, nilv, i32 0, i64 0, i8 0, i32 0, i64 0, i8 0, i8 0, i8 0]), (6, .var [i64 1, i64 n.na, i64 n.nb, i64 n.nk, i64 n.ns, i64 n.np, i64 ch, i8 n.za, i8 n.zb, .own 900, ints .i32 n.b, i32 n.qm, i64 n.qs, i8 n.qz, i32 n.rm, i64 n.rs, i8 n.rz, i8 n.lo, i8 n.hi]), (900, .slc 27 1 ((wideTo n ch k).map (row1 .i8)))]
noncomputable def wide_l_Z (n : Nod) (ch : Int) : VS := wide_l_I n ch (n.w.length)
set_option maxRecDepth 100000 in
set_option maxHeartbeats 2000000 in
theorem wide_l_s (n : Nod) (ch : Int) (h : fitsW n ch) (k : Nat) (hk : k < n.w.length) : VT Try.prog (fnC Try.f31 [1, 1, 1, 1, 1, 1, 0, 1, 0, 0]) (wide_l_I n ch k) .normal (wide_l_I n ch (k + 1)) := by
  have g0 := h
  obtain ⟨h1, h2, h3, h4, h5, h6, h7⟩ := h
  have g1 := wq_bd g0 hk
  have g2 := wk_eq g0 k
  have g3 := wideTo_len n ch k
  have g4 := wideTo_set n ch k h1 g1
  have g5 : 0 ≤ (k : Int) * ch := Int.mul_nonneg (by omega) (by omega)
  have g6 : ((k : Int) + 1) * ch ≤ (n.w.length : Int) * ch := Int.mul_le_mul_of_nonneg_right (by omega) (by omega)
  have g7 := Int.ediv_nonneg (Int.ediv_nonneg (show 0 ≤ (k : Int) by omega) (show 0 ≤ n.nk by omega)) (show 0 ≤ n.nk by omega)
  have g8 := Int.ediv_nonneg (show 0 ≤ (k : Int) by omega) (show 0 ≤ n.nk by omega)
  have g9 := Int.ediv_le_self (a := (k : Int)) n.nk (by omega)
  have g10 := Int.ediv_le_self (a := (k : Int) / n.nk) n.nk g8
  have g11 : (n.w.length : Int) * 1 ≤ (n.w.length : Int) * ch := Int.mul_le_mul_of_nonneg_left h1 (by omega)
  have g12 : ((k : Int) + 1) * ch = (k : Int) * ch + ch := by rw [Int.add_mul, Int.one_mul]
  have g13 : (k * ch.toNat + k / n.nk.toNat / n.nk.toNat) < n.w.length * ch.toNat := by
    have : (k + 1) * ch.toNat ≤ n.w.length * ch.toNat := Nat.mul_le_mul_right _ (by omega)
    rw [Nat.add_mul] at this; omega
  have g14 : (k : Int) * ch + (k : Int) / n.nk / n.nk < ((n.w.length * ch.toNat : Nat) : Int) := by
    have e1 : ((k * ch.toNat + k / n.nk.toNat / n.nk.toNat : Nat) : Int) = (k : Int) * ch + (k : Int) / n.nk / n.nk := by rw [← g2, Int.toNat_of_nonneg (by omega)]
    omega
  refine VT.run (W := [.r [] [], .br true, .r [] [PI.row
   [AV.lit
       (Value.int IntKind.i8
         (n.w.getD k
           0))]], .r [] [PI.n ((↑k : Int) * ch),
 PI.n ((↑k : Int) / n.nk),
 PI.n ((↑k : Int) / n.nk / n.nk),
 PI.n ((↑k : Int) * ch + (↑k : Int) / n.nk / n.nk),
 PI.nat 0], .r [] [PI.n ((↑k : Int) + 1)]]) (G := [GI.any [7, 8, 72, 73, 74, 75, 76, 77, 78, 79, 80, 81, 82, 83, 84, 85, 86, 87, 88, 89, 90, 91],
  GI.weak 71 (AV.lit (Value.int IntKind.i64 (↑(k + 1) : Int))),
  GI.blk 900 (Blk.slc 27 1 (List.map (row1 IntKind.i8) (wideTo n ch (k + 1)))), GI.sort])
    (ob := [decide ((↑k : Int) < (↑n.w.length : Int)) = true,
        0 ≤ (↑k : Int),
        (List.map (row1 IntKind.i8) n.w)[(↑k : Int).toNat]? = some [AV.lit (Value.int IntKind.i8 (n.w.getD k 0))],
        IntKind.i64.wrap ((↑k : Int) * ch) = (↑k : Int) * ch,
        n.nk ≠ 0,
        IntKind.i64.wrap ((↑k : Int).tdiv n.nk) = (↑k : Int) / n.nk,
        n.nk ≠ 0,
        IntKind.i64.wrap (((↑k : Int) / n.nk).tdiv n.nk) = (↑k : Int) / n.nk / n.nk,
        IntKind.i64.wrap ((↑k : Int) * ch + (↑k : Int) / n.nk / n.nk) = (↑k : Int) * ch + (↑k : Int) / n.nk / n.nk,
        0 ≤ (↑k : Int) * ch + (↑k : Int) / n.nk / n.nk,
        (↑k : Int) * ch + (↑k : Int) / n.nk / n.nk < (↑(List.map (row1 IntKind.i8) (wideTo n ch k)).length : Int),
        ((↑k : Int) * ch + (↑k : Int) / n.nk / n.nk).toNat < (List.map (row1 IntKind.i8) (wideTo n ch k)).length,
        IntKind.i64.wrap ((↑k : Int) + 1) = (↑k : Int) + 1,
        Weak (AV.lit (Value.int IntKind.i64 ((↑k : Int) + 1))) (AV.lit (Value.int IntKind.i64 (↑(k + 1) : Int))),
        BlkW
  (Blk.slc 27 1
        ((List.map (row1 IntKind.i8) (wideTo n ch k)).set ((↑k : Int) * ch + (↑k : Int) / n.nk / n.nk).toNat
          [AV.lit (Value.int IntKind.i8 (n.w.getD k 0))]))
  (Blk.slc 27 1 (List.map (row1 IntKind.i8) (wideTo n ch (k + 1))))]) (by kernel_rfl) ?_
  exact ⟨(by (refine decide_eq_true ?_; omega)),
          (by omega),
          (map_at (row1 IntKind.i8) (0) (l := n.w) (i := k) (by with_reducible assumption)),
          (by exact IntWalk.i64_in _ (by omega)),
          (by omega),
          (Eq.trans (congrArg _ (Int.tdiv_eq_ediv_of_nonneg (by omega))) (by exact IntWalk.i64_in _ (by omega))),
          (by omega),
          (Eq.trans (congrArg _ (Int.tdiv_eq_ediv_of_nonneg (by with_reducible assumption))) (by exact IntWalk.i64_in _ (by omega))),
          (by exact IntWalk.i64_in _ (by omega)),
          (by omega),
          (by (simp only [List.length_map] at *; omega)),
          (by (simp only [List.length_map] at *; omega)),
          (by exact IntWalk.i64_in _ (by omega)),
          (Weak.int (show (((↑k : Int) + 1) : Int) = ((↑(k + 1) : Int)) from (by omega))),
          (BlkW.rows (rows_to (row1
    IntKind.i8) (l := (wideTo n ch k).set ((↑k : Int) * ch + (↑k : Int) / n.nk / n.nk).toNat
    (n.w.getD k
          0)) (m := wideTo n ch
    (k +
          1)) (by simp only [List.map_append, List.map_cons, List.map_nil, List.map_set, List.map_replicate, List.map_take, List.map_drop]) (show ((wideTo n ch k).set ((↑k : Int) * ch + (↑k : Int) / n.nk / n.nk).toNat
    (n.w.getD k 0)) = (wideTo n ch (k + 1)) from (by (rw [g2, g4]))))),
          trivial⟩
set_option maxRecDepth 100000 in
set_option maxHeartbeats 2000000 in
theorem wide_l_e (n : Nod) (ch : Int) (h : fitsW n ch) : VT Try.prog (fnC Try.f31 [1, 1, 1, 1, 1, 1, 0, 1, 0, 0]) (wide_l_I n ch (n.w.length)) (.exit 0) (wide_l_Z n ch) := by
  refine VT.run (W := [.r [] [], .br false]) (G := [GI.any [72], GI.sort])
    (ob := [decide ((↑n.w.length : Int) < (↑n.w.length : Int)) = false]) (by kernel_rfl) ?_
  exact ⟨(by (refine decide_eq_false ?_; omega)),
          trivial⟩
theorem wide_l (n : Nod) (ch : Int) (h : fitsW n ch) : VT Try.prog (fnC Try.f31 [1, 1, 1, 1, 1, 1, 0, 1, 0]) (wide_l_I n ch 0) (.exit 0) (wide_l_Z n ch) :=
  VT.loop (fun k => wide_l_I n ch k) (n.w.length) (fun k hk => wide_l_s n ch h k hk) (wide_l_e n ch h) (by intro h; cases h)
theorem wideN_ok {n : Nod} (okn : n.Ok) {ch : Int} (h : fitsW n ch) : (wideN n ch).Ok := by
  obtain ⟨h1, h2, h3, h4, h5, h6, h7⟩ := h
  refine ⟨in64B_ok rfl, okn.na, okn.nb, okn.nk, okn.ns, okn.np, ⟨by show -9223372036854775808 ≤ ch; omega, by show ch ≤ 9223372036854775807; omega⟩, okn.za, okn.zb, fun v hv => ?_, okn.b, okn.qm, okn.qs, okn.qz, okn.rm, okn.rs, okn.rz, okn.lo, okn.hi⟩
  simp only [wideN, wideTo, List.mem_map] at hv
  obtain ⟨p, _, rfl⟩ := hv
  split
  · exact gt8 okn.w _
  · exact ⟨by decide, by decide⟩
set_option maxRecDepth 100000 in
set_option maxHeartbeats 2000000 in
theorem wide_y (n : Nod) (ch : Int) (hf : fitsW n ch) (wl : n.w.length ≤ 2000) (bl : n.b.length ≤ 200) : VC Try.prog 31 ([nod n, i64 ch]) (.tup [nod (wideN n ch), i64 0]) := by
  obtain ⟨c1, c2, k1, k5, h1, h2, h3⟩ := id hf
  have g1 := mul_bd (a := ch) (A := 64) (b := n.nk) (B := 5) (by omega) c2 (by omega) k5
  have g2 := mul_bd (a := (n.w.length : Int)) (A := 2000) (b := ch) (B := 64) (by omega) (by omega) (by omega) (by omega)
  have g3 := wideTo_zero n ch
  have g4 : ((n.w.length : Int) * ch).toNat = n.w.length * ch.toNat := by
    apply Int.ofNat_inj.1
    rw [Int.toNat_of_nonneg (by omega), Int.natCast_mul, Int.toNat_of_nonneg (by omega)]
  have hz : VC Try.prog 31 ([nod n, i64 ch]) (AV.tup
  [AV.agg
      [AV.lit (Value.int IntKind.i64 1), AV.lit (Value.int IntKind.i64 n.na), AV.lit (Value.int IntKind.i64 n.nb),
        AV.lit (Value.int IntKind.i64 n.nk), AV.lit (Value.int IntKind.i64 n.ns), AV.lit (Value.int IntKind.i64 n.np),
        AV.lit (Value.int IntKind.i64 ch), AV.lit (Value.int IntKind.i8 n.za), AV.lit (Value.int IntKind.i8 n.zb),
        AV.sl 1 (List.map (row1 IntKind.i8) (wideTo n ch n.w.length)), AV.sl 1 (List.map (row1 IntKind.i32) n.b),
        AV.lit (Value.int IntKind.i32 n.qm), AV.lit (Value.int IntKind.i64 n.qs), AV.lit (Value.int IntKind.i8 n.qz),
        AV.lit (Value.int IntKind.i32 n.rm), AV.lit (Value.int IntKind.i64 n.rs), AV.lit (Value.int IntKind.i8 n.rz),
        AV.lit (Value.int IntKind.i8 n.lo), AV.lit (Value.int IntKind.i8 n.hi)],
    AV.lit (Value.int IntKind.i64 0)]) := by
    refine VC.run (fn := Try.f31) Try.func31 (W := [.r [] [], .r [] [PI.br true,
 PI.br true,
 PI.br false,
 PI.br true,
 PI.br true,
 PI.br true,
 PI.br false,
 PI.br true,
 PI.br true,
 PI.br true,
 PI.br
   false], .br false, .r [] [PI.n (ch * n.nk),
 PI.n (ch * n.nk * n.nk),
 PI.br true,
 PI.br true,
 PI.br true,
 PI.br true,
 PI.br true,
 PI.br false,
 PI.br true,
 PI.br true,
 PI.br true,
 PI.br true,
 PI.br true,
 PI.n ((↑(List.map (row1 IntKind.i8) n.w).length : Int) * ch),
 PI.br true,
 PI.br
   false], .br false, .r [] [], .r [] [PI.callr
   (ints IntKind.i32
     n.b)], .r [] [PI.n ((↑(List.map (row1 IntKind.i8) n.w).length : Int) * ch),
 PI.nats ((↑(List.map (row1 IntKind.i8) n.w).length : Int) * ch).toNat
   ((↑(List.map (row1 IntKind.i8) n.w).length : Int) *
       ch).toNat], .r [] [], .code [GI.any
    [0, 5, 9, 10, 11, 12, 13, 14, 15, 16, 17, 18, 19, 20, 21, 22, 23, 24, 26, 27, 28, 29, 30, 31, 32, 33, 34, 35, 36,
      37, 38, 39, 40, 41, 42, 43, 44, 45, 46, 47, 48, 49, 50, 51, 53, 54, 55, 56, 57, 58, 59, 60, 61, 62, 63, 64, 65,
      66, 67, 68],
  GI.ren 66 900, GI.weak 70 (AV.lit (Value.int IntKind.i64 (↑n.w.length : Int))),
  GI.weak 71 (AV.lit (Value.int IntKind.i64 (↑0 : Int))),
  GI.blk 900 (Blk.slc 27 1 (List.map (row1 IntKind.i8) (wideTo n ch 0))),
  GI.sort] (Exit.exit
  0) (VS.mk
  [AV.any, AV.lit (Value.int IntKind.i64 ch), AV.ptr 2 0 0, AV.any, AV.ptr 4 0 0, AV.any, AV.ptr 6 0 0, AV.any, AV.any,
    AV.any, AV.any, AV.any, AV.any, AV.any, AV.any, AV.any, AV.any, AV.any, AV.any, AV.any, AV.any, AV.any, AV.any,
    AV.any, AV.any, AV.any, AV.any, AV.any, AV.any, AV.any, AV.any, AV.any, AV.any, AV.any, AV.any, AV.any, AV.any,
    AV.any, AV.any, AV.any, AV.any, AV.any, AV.any, AV.any, AV.any, AV.any, AV.any, AV.any, AV.any, AV.any, AV.any,
    AV.any, AV.any, AV.any, AV.any, AV.any, AV.any, AV.any, AV.any, AV.any, AV.any, AV.any, AV.any, AV.any, AV.any,
    AV.any, AV.any, AV.any, AV.any, AV.sl 1 (List.map (row1 IntKind.i8) n.w),
    AV.lit (Value.int IntKind.i64 (↑n.w.length : Int)), AV.lit (Value.int IntKind.i64 (↑n.w.length : Int)), AV.any,
    AV.any, AV.any, AV.any, AV.any, AV.any, AV.any, AV.any, AV.any, AV.any, AV.any, AV.any, AV.any, AV.any, AV.any,
    AV.any, AV.any, AV.any, AV.any, AV.any, AV.any]
  [(2,
      Blk.var
        [AV.lit (Value.int IntKind.i64 n.kd), AV.lit (Value.int IntKind.i64 n.na), AV.lit (Value.int IntKind.i64 n.nb),
          AV.lit (Value.int IntKind.i64 n.nk), AV.lit (Value.int IntKind.i64 n.ns), AV.lit (Value.int IntKind.i64 n.np),
          AV.lit (Value.int IntKind.i64 n.no), AV.lit (Value.int IntKind.i8 n.za), AV.lit (Value.int IntKind.i8 n.zb),
          AV.sl 1 (List.map (row1 IntKind.i8) n.w), AV.sl 1 (List.map (row1 IntKind.i32) n.b),
          AV.lit (Value.int IntKind.i32 n.qm), AV.lit (Value.int IntKind.i64 n.qs), AV.lit (Value.int IntKind.i8 n.qz),
          AV.lit (Value.int IntKind.i32 n.rm), AV.lit (Value.int IntKind.i64 n.rs), AV.lit (Value.int IntKind.i8 n.rz),
          AV.lit (Value.int IntKind.i8 n.lo), AV.lit (Value.int IntKind.i8 n.hi)]),
    (4,
      Blk.var
        [AV.lit (Value.int IntKind.i64 0), AV.lit (Value.int IntKind.i64 0), AV.lit (Value.int IntKind.i64 0),
          AV.lit (Value.int IntKind.i64 0), AV.lit (Value.int IntKind.i64 0), AV.lit (Value.int IntKind.i64 0),
          AV.lit (Value.int IntKind.i64 0), AV.lit (Value.int IntKind.i8 0), AV.lit (Value.int IntKind.i8 0),
          AV.lit (Value.slice none 0 0), AV.lit (Value.slice none 0 0), AV.lit (Value.int IntKind.i32 0),
          AV.lit (Value.int IntKind.i64 0), AV.lit (Value.int IntKind.i8 0), AV.lit (Value.int IntKind.i32 0),
          AV.lit (Value.int IntKind.i64 0), AV.lit (Value.int IntKind.i8 0), AV.lit (Value.int IntKind.i8 0),
          AV.lit (Value.int IntKind.i8 0)]),
    (6,
      Blk.var
        [AV.lit (Value.int IntKind.i64 1), AV.lit (Value.int IntKind.i64 n.na), AV.lit (Value.int IntKind.i64 n.nb),
          AV.lit (Value.int IntKind.i64 n.nk), AV.lit (Value.int IntKind.i64 n.ns), AV.lit (Value.int IntKind.i64 n.np),
          AV.lit (Value.int IntKind.i64 ch), AV.lit (Value.int IntKind.i8 n.za), AV.lit (Value.int IntKind.i8 n.zb),
          AV.own 900, AV.sl 1 (List.map (row1 IntKind.i32) n.b), AV.lit (Value.int IntKind.i32 n.qm),
          AV.lit (Value.int IntKind.i64 n.qs), AV.lit (Value.int IntKind.i8 n.qz), AV.lit (Value.int IntKind.i32 n.rm),
          AV.lit (Value.int IntKind.i64 n.rs), AV.lit (Value.int IntKind.i8 n.rz), AV.lit (Value.int IntKind.i8 n.lo),
          AV.lit (Value.int IntKind.i8 n.hi)]),
    (900, Blk.slc 27 1 (List.map (row1 IntKind.i8) (wideTo n ch n.w.length)))]), .r [] []])
      (ob := [decide (ch < 1) = false,
        decide (ch < 1) = false,
        decide (ch < 1) = false,
        decide (ch > 64) = false,
        decide (ch > 64) = false,
        decide (ch > 64) = false,
        decide (ch > 64) = false,
        decide (n.nk < 1) = false,
        decide (n.nk < 1) = false,
        decide (n.nk < 1) = false,
        decide (n.nk < 1) = false,
        decide (n.nk > 5) = false,
        IntKind.i64.wrap (ch * n.nk) = ch * n.nk,
        IntKind.i64.wrap (ch * n.nk * n.nk) = ch * n.nk * n.nk,
        ((↑(List.map (row1 IntKind.i8) n.w).length : Int) != ch * n.nk * n.nk) = false,
        ((↑(List.map (row1 IntKind.i8) n.w).length : Int) != ch * n.nk * n.nk) = false,
        ((↑(List.map (row1 IntKind.i8) n.w).length : Int) != ch * n.nk * n.nk) = false,
        ((↑(List.map (row1 IntKind.i8) n.w).length : Int) != ch * n.nk * n.nk) = false,
        ((↑(List.map (row1 IntKind.i8) n.w).length : Int) != ch * n.nk * n.nk) = false,
        ((↑(List.map (row1 IntKind.i8) n.w).length : Int) != ch * n.nk * n.nk) = false,
        ((↑(List.map (row1 IntKind.i32) n.b).length : Int) != ch) = false,
        ((↑(List.map (row1 IntKind.i32) n.b).length : Int) != ch) = false,
        ((↑(List.map (row1 IntKind.i32) n.b).length : Int) != ch) = false,
        ((↑(List.map (row1 IntKind.i32) n.b).length : Int) != ch) = false,
        ((↑(List.map (row1 IntKind.i32) n.b).length : Int) != ch) = false,
        IntKind.i64.wrap ((↑(List.map (row1 IntKind.i8) n.w).length : Int) * ch) =
  (↑(List.map (row1 IntKind.i8) n.w).length : Int) * ch,
        ((↑(List.map (row1 IntKind.i32) n.b).length : Int) != ch) = false,
        ((↑(List.map (row1 IntKind.i32) n.b).length : Int) != ch) = false,
        decide ((↑(List.map (row1 IntKind.i8) n.w).length : Int) * ch > 16384) = false,
        VC Try.prog 72 [AV.sl 1 (List.map (row1 IntKind.i32) n.b)] (AV.sl 1 (List.map (row1 IntKind.i32) n.b)),
        IntKind.i64.wrap ((↑(List.map (row1 IntKind.i8) n.w).length : Int) * ch) =
  (↑(List.map (row1 IntKind.i8) n.w).length : Int) * ch,
        (↑(List.map (row1 IntKind.i8) n.w).length : Int) * ch =
  (↑((↑(List.map (row1 IntKind.i8) n.w).length : Int) * ch).toNat : Int),
        (↑(List.map (row1 IntKind.i8) n.w).length : Int) * ch =
  (↑((↑(List.map (row1 IntKind.i8) n.w).length : Int) * ch).toNat : Int),
        ((↑(List.map (row1 IntKind.i8) n.w).length : Int) * ch).toNat ≤
  ((↑(List.map (row1 IntKind.i8) n.w).length : Int) * ch).toNat,
        1 * ((↑(List.map (row1 IntKind.i8) n.w).length : Int) * ch).toNat ≤ 281474976710656,
        ((↑(List.map (row1 IntKind.i8) n.w).length : Int) * ch).toNat ≤ 9223372036854775807,
        Weak (AV.lit (Value.int IntKind.i64 (↑(List.map (row1 IntKind.i8) n.w).length : Int)))
  (AV.lit (Value.int IntKind.i64 (↑n.w.length : Int))),
        Weak (AV.lit (Value.int IntKind.i64 0)) (AV.lit (Value.int IntKind.i64 (↑0 : Int))),
        BlkW
  (Blk.slc 27 1
        (List.replicate ((↑(List.map (row1 IntKind.i8) n.w).length : Int) * ch).toNat [AV.lit (Value.int IntKind.i8 0)]))
  (Blk.slc 27 1 (List.map (row1 IntKind.i8) (wideTo n ch 0))),
        VT Try.prog (fnC Try.f31 [1, 1, 1, 1, 1, 1, 0, 1, 0])
  (VS.mk
        [AV.any, AV.lit (Value.int IntKind.i64 ch), AV.ptr 2 0 0, AV.any, AV.ptr 4 0 0, AV.any, AV.ptr 6 0 0, AV.any,
          AV.any, AV.any, AV.any, AV.any, AV.any, AV.any, AV.any, AV.any, AV.any, AV.any, AV.any, AV.any, AV.any, AV.any,
          AV.any, AV.any, AV.any, AV.any, AV.any, AV.any, AV.any, AV.any, AV.any, AV.any, AV.any, AV.any, AV.any, AV.any,
          AV.any, AV.any, AV.any, AV.any, AV.any, AV.any, AV.any, AV.any, AV.any, AV.any, AV.any, AV.any, AV.any, AV.any,
          AV.any, AV.any, AV.any, AV.any, AV.any, AV.any, AV.any, AV.any, AV.any, AV.any, AV.any, AV.any, AV.any, AV.any,
          AV.any, AV.any, AV.any, AV.any, AV.any, AV.sl 1 (List.map (row1 IntKind.i8) n.w),
          AV.lit (Value.int IntKind.i64 (↑n.w.length : Int)), AV.lit (Value.int IntKind.i64 (↑0 : Int)), AV.any, AV.any,
          AV.any, AV.any, AV.any, AV.any, AV.any, AV.any, AV.any, AV.any, AV.any, AV.any, AV.any, AV.any, AV.any, AV.any,
          AV.any, AV.any, AV.any, AV.any, AV.any]
        [(2,
            Blk.var
              [AV.lit (Value.int IntKind.i64 n.kd), AV.lit (Value.int IntKind.i64 n.na),
                AV.lit (Value.int IntKind.i64 n.nb), AV.lit (Value.int IntKind.i64 n.nk),
                AV.lit (Value.int IntKind.i64 n.ns), AV.lit (Value.int IntKind.i64 n.np),
                AV.lit (Value.int IntKind.i64 n.no), AV.lit (Value.int IntKind.i8 n.za), AV.lit (Value.int IntKind.i8 n.zb),
                AV.sl 1 (List.map (row1 IntKind.i8) n.w), AV.sl 1 (List.map (row1 IntKind.i32) n.b),
                AV.lit (Value.int IntKind.i32 n.qm), AV.lit (Value.int IntKind.i64 n.qs),
                AV.lit (Value.int IntKind.i8 n.qz), AV.lit (Value.int IntKind.i32 n.rm),
                AV.lit (Value.int IntKind.i64 n.rs), AV.lit (Value.int IntKind.i8 n.rz), AV.lit (Value.int IntKind.i8 n.lo),
                AV.lit (Value.int IntKind.i8 n.hi)]),
          (4,
            Blk.var
              [AV.lit (Value.int IntKind.i64 0), AV.lit (Value.int IntKind.i64 0), AV.lit (Value.int IntKind.i64 0),
                AV.lit (Value.int IntKind.i64 0), AV.lit (Value.int IntKind.i64 0), AV.lit (Value.int IntKind.i64 0),
                AV.lit (Value.int IntKind.i64 0), AV.lit (Value.int IntKind.i8 0), AV.lit (Value.int IntKind.i8 0),
                AV.lit (Value.slice none 0 0), AV.lit (Value.slice none 0 0), AV.lit (Value.int IntKind.i32 0),
                AV.lit (Value.int IntKind.i64 0), AV.lit (Value.int IntKind.i8 0), AV.lit (Value.int IntKind.i32 0),
                AV.lit (Value.int IntKind.i64 0), AV.lit (Value.int IntKind.i8 0), AV.lit (Value.int IntKind.i8 0),
                AV.lit (Value.int IntKind.i8 0)]),
          (6,
            Blk.var
              [AV.lit (Value.int IntKind.i64 1), AV.lit (Value.int IntKind.i64 n.na), AV.lit (Value.int IntKind.i64 n.nb),
                AV.lit (Value.int IntKind.i64 n.nk), AV.lit (Value.int IntKind.i64 n.ns),
                AV.lit (Value.int IntKind.i64 n.np), AV.lit (Value.int IntKind.i64 ch), AV.lit (Value.int IntKind.i8 n.za),
                AV.lit (Value.int IntKind.i8 n.zb), AV.own 900, AV.sl 1 (List.map (row1 IntKind.i32) n.b),
                AV.lit (Value.int IntKind.i32 n.qm), AV.lit (Value.int IntKind.i64 n.qs),
                AV.lit (Value.int IntKind.i8 n.qz), AV.lit (Value.int IntKind.i32 n.rm),
                AV.lit (Value.int IntKind.i64 n.rs), AV.lit (Value.int IntKind.i8 n.rz), AV.lit (Value.int IntKind.i8 n.lo),
                AV.lit (Value.int IntKind.i8 n.hi)]),
          (900, Blk.slc 27 1 (List.map (row1 IntKind.i8) (wideTo n ch 0)))])
  (Exit.exit 0)
  (VS.mk
        [AV.any, AV.lit (Value.int IntKind.i64 ch), AV.ptr 2 0 0, AV.any, AV.ptr 4 0 0, AV.any, AV.ptr 6 0 0, AV.any,
          AV.any, AV.any, AV.any, AV.any, AV.any, AV.any, AV.any, AV.any, AV.any, AV.any, AV.any, AV.any, AV.any, AV.any,
          AV.any, AV.any, AV.any, AV.any, AV.any, AV.any, AV.any, AV.any, AV.any, AV.any, AV.any, AV.any, AV.any, AV.any,
          AV.any, AV.any, AV.any, AV.any, AV.any, AV.any, AV.any, AV.any, AV.any, AV.any, AV.any, AV.any, AV.any, AV.any,
          AV.any, AV.any, AV.any, AV.any, AV.any, AV.any, AV.any, AV.any, AV.any, AV.any, AV.any, AV.any, AV.any, AV.any,
          AV.any, AV.any, AV.any, AV.any, AV.any, AV.sl 1 (List.map (row1 IntKind.i8) n.w),
          AV.lit (Value.int IntKind.i64 (↑n.w.length : Int)), AV.lit (Value.int IntKind.i64 (↑n.w.length : Int)), AV.any,
          AV.any, AV.any, AV.any, AV.any, AV.any, AV.any, AV.any, AV.any, AV.any, AV.any, AV.any, AV.any, AV.any, AV.any,
          AV.any, AV.any, AV.any, AV.any, AV.any, AV.any]
        [(2,
            Blk.var
              [AV.lit (Value.int IntKind.i64 n.kd), AV.lit (Value.int IntKind.i64 n.na),
                AV.lit (Value.int IntKind.i64 n.nb), AV.lit (Value.int IntKind.i64 n.nk),
                AV.lit (Value.int IntKind.i64 n.ns), AV.lit (Value.int IntKind.i64 n.np),
                AV.lit (Value.int IntKind.i64 n.no), AV.lit (Value.int IntKind.i8 n.za), AV.lit (Value.int IntKind.i8 n.zb),
                AV.sl 1 (List.map (row1 IntKind.i8) n.w), AV.sl 1 (List.map (row1 IntKind.i32) n.b),
                AV.lit (Value.int IntKind.i32 n.qm), AV.lit (Value.int IntKind.i64 n.qs),
                AV.lit (Value.int IntKind.i8 n.qz), AV.lit (Value.int IntKind.i32 n.rm),
                AV.lit (Value.int IntKind.i64 n.rs), AV.lit (Value.int IntKind.i8 n.rz), AV.lit (Value.int IntKind.i8 n.lo),
                AV.lit (Value.int IntKind.i8 n.hi)]),
          (4,
            Blk.var
              [AV.lit (Value.int IntKind.i64 0), AV.lit (Value.int IntKind.i64 0), AV.lit (Value.int IntKind.i64 0),
                AV.lit (Value.int IntKind.i64 0), AV.lit (Value.int IntKind.i64 0), AV.lit (Value.int IntKind.i64 0),
                AV.lit (Value.int IntKind.i64 0), AV.lit (Value.int IntKind.i8 0), AV.lit (Value.int IntKind.i8 0),
                AV.lit (Value.slice none 0 0), AV.lit (Value.slice none 0 0), AV.lit (Value.int IntKind.i32 0),
                AV.lit (Value.int IntKind.i64 0), AV.lit (Value.int IntKind.i8 0), AV.lit (Value.int IntKind.i32 0),
                AV.lit (Value.int IntKind.i64 0), AV.lit (Value.int IntKind.i8 0), AV.lit (Value.int IntKind.i8 0),
                AV.lit (Value.int IntKind.i8 0)]),
          (6,
            Blk.var
              [AV.lit (Value.int IntKind.i64 1), AV.lit (Value.int IntKind.i64 n.na), AV.lit (Value.int IntKind.i64 n.nb),
                AV.lit (Value.int IntKind.i64 n.nk), AV.lit (Value.int IntKind.i64 n.ns),
                AV.lit (Value.int IntKind.i64 n.np), AV.lit (Value.int IntKind.i64 ch), AV.lit (Value.int IntKind.i8 n.za),
                AV.lit (Value.int IntKind.i8 n.zb), AV.own 900, AV.sl 1 (List.map (row1 IntKind.i32) n.b),
                AV.lit (Value.int IntKind.i32 n.qm), AV.lit (Value.int IntKind.i64 n.qs),
                AV.lit (Value.int IntKind.i8 n.qz), AV.lit (Value.int IntKind.i32 n.rm),
                AV.lit (Value.int IntKind.i64 n.rs), AV.lit (Value.int IntKind.i8 n.rz), AV.lit (Value.int IntKind.i8 n.lo),
                AV.lit (Value.int IntKind.i8 n.hi)]),
          (900, Blk.slc 27 1 (List.map (row1 IntKind.i8) (wideTo n ch n.w.length)))])]) (by kernel_rfl) ?_
    exact ⟨(by (refine decide_eq_false ?_; omega)),
            (by (refine decide_eq_false ?_; omega)),
            (by (refine decide_eq_false ?_; omega)),
            (by (refine decide_eq_false ?_; omega)),
            (by (refine decide_eq_false ?_; omega)),
            (by (refine decide_eq_false ?_; omega)),
            (by (refine decide_eq_false ?_; omega)),
            (by (refine decide_eq_false ?_; omega)),
            (by (refine decide_eq_false ?_; omega)),
            (by (refine decide_eq_false ?_; omega)),
            (by (refine decide_eq_false ?_; omega)),
            (by (refine decide_eq_false ?_; omega)),
            (by exact IntWalk.i64_in _ (by omega)),
            (by exact IntWalk.i64_in _ (by omega)),
            (by (simp; omega)),
            (by (simp; omega)),
            (by (simp; omega)),
            (by (simp; omega)),
            (by (simp; omega)),
            (by (simp; omega)),
            (by (simp; omega)),
            (by (simp; omega)),
            (by (simp; omega)),
            (by (simp; omega)),
            (by (simp; omega)),
            (by (simp only [List.length_map] at *; first | omega | exact IntWalk.i64_in _ (by omega))),
            (by (simp; omega)),
            (by (simp; omega)),
            (by (simp; omega)),
            (@clone32_v (n.b) (by omega)),
            (by (simp only [List.length_map] at *; first | omega | exact IntWalk.i64_in _ (by omega))),
            (by (simp only [List.length_map] at *; first | omega | exact IntWalk.i64_in _ (by omega))),
            (by (simp only [List.length_map] at *; first | omega | exact IntWalk.i64_in _ (by omega))),
            (by omega),
            (by (simp only [List.length_map] at *; first | omega | exact IntWalk.i64_in _ (by omega))),
            (by (simp only [List.length_map] at *; first | omega | exact IntWalk.i64_in _ (by omega))),
            (Weak.int (show (((↑(List.map (row1 IntKind.i8) n.w).length : Int)) : Int) = ((↑n.w.length : Int)) from (by (simp; done)))),
            (Weak.int (show ((0) : Int) = ((↑0 : Int)) from (by omega))),
            (BlkW.rows (rows_to (row1
      IntKind.i8) (l := List.replicate ((↑(List.map (row1 IntKind.i8) n.w).length : Int) * ch).toNat
      0) (m := wideTo n ch
      0) (by simp only [List.map_append, List.map_cons, List.map_nil, List.map_set, List.map_replicate, List.map_take, List.map_drop]) (show (List.replicate ((↑(List.map (row1 IntKind.i8) n.w).length : Int) * ch).toNat
      0) = (wideTo n ch 0) from (by (simp only [List.length_map] at *; rw [g3, g4]))))),
            (@wide_l (n) (ch) (by with_reducible assumption)),
            trivial⟩
  exact hz.weak (WeakL.refl _) (Weak.tup (.cons (Weak.agg (.cons (Weak.int (show ((1) : Int) = ((wideN n
    ch).kd) from (by rfl))) (.cons (Weak.int (show ((n.na) : Int) = ((wideN n
    ch).na) from (by rfl))) (.cons (Weak.int (show ((n.nb) : Int) = ((wideN n
    ch).nb) from (by rfl))) (.cons (Weak.int (show ((n.nk) : Int) = ((wideN n
    ch).nk) from (by rfl))) (.cons (Weak.int (show ((n.ns) : Int) = ((wideN n
    ch).ns) from (by rfl))) (.cons (Weak.int (show ((n.np) : Int) = ((wideN n
    ch).np) from (by rfl))) (.cons (Weak.int (show ((ch) : Int) = ((wideN n
    ch).no) from (by rfl))) (.cons (Weak.int (show ((n.za) : Int) = ((wideN n
    ch).za) from (by rfl))) (.cons (Weak.int (show ((n.zb) : Int) = ((wideN n
    ch).zb) from (by rfl))) (.cons (Weak.rows (rows_to (row1
  IntKind.i8) (l := wideTo n ch
  n.w.length) (m := (wideN n
    ch).w) rfl (show (wideTo n ch
  n.w.length) = ((wideN n
    ch).w) from (by rfl)))) (.cons (Weak.rows (rows_to (row1
  IntKind.i32) (l := n.b) (m := (wideN n
    ch).b) rfl (show (n.b) = ((wideN n
    ch).b) from (by rfl)))) (.cons (Weak.int (show ((n.qm) : Int) = ((wideN n
    ch).qm) from (by rfl))) (.cons (Weak.int (show ((n.qs) : Int) = ((wideN n
    ch).qs) from (by rfl))) (.cons (Weak.int (show ((n.qz) : Int) = ((wideN n
    ch).qz) from (by rfl))) (.cons (Weak.int (show ((n.rm) : Int) = ((wideN n
    ch).rm) from (by rfl))) (.cons (Weak.int (show ((n.rs) : Int) = ((wideN n
    ch).rs) from (by rfl))) (.cons (Weak.int (show ((n.rz) : Int) = ((wideN n
    ch).rz) from (by rfl))) (.cons (Weak.int (show ((n.lo) : Int) = ((wideN n
    ch).lo) from (by rfl))) (.cons (Weak.int (show ((n.hi) : Int) = ((wideN n
    ch).hi) from (by rfl))) .nil)))))))))))))))))))) (.cons (.refl _) .nil)))

set_option maxRecDepth 100000 in
set_option maxHeartbeats 2000000 in
theorem wide_n (n : Nod) (ch : Int) (hc : In64 ch) (wl : n.w.length ≤ 2000) (bl : n.b.length ≤ 200) (hf : ¬ fitsW n ch) : VC Try.prog 31 ([nod n, i64 ch]) (.tup [.agg [i64 0, i64 0, i64 0, i64 0, i64 0, i64 0, i64 0, i8 0, i8 0, nilv, nilv, i32 0, i64 0, i8 0, i32 0, i64 0, i8 0, i8 0, i8 0], i64 9]) := by
  rcases Bool.eq_false_or_eq_true (decide (ch < 1)) with hc0 | hc0
  · have gc0 : ch < 1 := of_decide_eq_true hc0
    have hz : VC Try.prog 31 ([nod n, i64 ch]) (AV.tup
  [AV.agg
      [AV.lit (Value.int IntKind.i64 0), AV.lit (Value.int IntKind.i64 0), AV.lit (Value.int IntKind.i64 0),
        AV.lit (Value.int IntKind.i64 0), AV.lit (Value.int IntKind.i64 0), AV.lit (Value.int IntKind.i64 0),
        AV.lit (Value.int IntKind.i64 0), AV.lit (Value.int IntKind.i8 0), AV.lit (Value.int IntKind.i8 0),
        AV.lit (Value.slice none 0 0), AV.lit (Value.slice none 0 0), AV.lit (Value.int IntKind.i32 0),
        AV.lit (Value.int IntKind.i64 0), AV.lit (Value.int IntKind.i8 0), AV.lit (Value.int IntKind.i32 0),
        AV.lit (Value.int IntKind.i64 0), AV.lit (Value.int IntKind.i8 0), AV.lit (Value.int IntKind.i8 0),
        AV.lit (Value.int IntKind.i8 0)],
    AV.lit (Value.int IntKind.i64 9)]) := by
      refine VC.run (fn := Try.f31) Try.func31 (W := [.r [] [], .r [] [PI.br false,
 PI.br false,
 PI.br true,
 PI.br false,
 PI.br false,
 PI.br false,
 PI.br true,
 PI.br false,
 PI.br false,
 PI.br false,
 PI.br true], .br true, .r [] []])
        (ob := [decide (ch < 1) = !false,
          decide (ch < 1) = !false,
          decide (ch < 1) = true,
          true = !false,
          true = !false,
          true = !false,
          true = true,
          true = !false,
          true = !false,
          true = !false,
          true = true,
          true = true]) (by kernel_rfl) ?_
      exact ⟨(by (refine decide_eq_true ?_; omega)),
                (by (refine decide_eq_true ?_; omega)),
                (by with_reducible assumption),
                (by (simp; done)),
                (by (simp; done)),
                (by (simp; done)),
                (by with_reducible rfl),
                (by (simp; done)),
                (by (simp; done)),
                (by (simp; done)),
                (by with_reducible rfl),
                (by with_reducible rfl),
                trivial⟩
    exact hz
  · have gc0 : ¬ch < 1 := of_decide_eq_false hc0
    rcases Bool.eq_false_or_eq_true (decide (ch > 64)) with hc1 | hc1
    · have gc1 : ch > 64 := of_decide_eq_true hc1
      have hz : VC Try.prog 31 ([nod n, i64 ch]) (AV.tup
  [AV.agg
      [AV.lit (Value.int IntKind.i64 0), AV.lit (Value.int IntKind.i64 0), AV.lit (Value.int IntKind.i64 0),
        AV.lit (Value.int IntKind.i64 0), AV.lit (Value.int IntKind.i64 0), AV.lit (Value.int IntKind.i64 0),
        AV.lit (Value.int IntKind.i64 0), AV.lit (Value.int IntKind.i8 0), AV.lit (Value.int IntKind.i8 0),
        AV.lit (Value.slice none 0 0), AV.lit (Value.slice none 0 0), AV.lit (Value.int IntKind.i32 0),
        AV.lit (Value.int IntKind.i64 0), AV.lit (Value.int IntKind.i8 0), AV.lit (Value.int IntKind.i32 0),
        AV.lit (Value.int IntKind.i64 0), AV.lit (Value.int IntKind.i8 0), AV.lit (Value.int IntKind.i8 0),
        AV.lit (Value.int IntKind.i8 0)],
    AV.lit (Value.int IntKind.i64 9)]) := by
        refine VC.run (fn := Try.f31) Try.func31 (W := [.r [] [], .r [] [PI.br true,
 PI.br true,
 PI.br false,
 PI.br false,
 PI.br false,
 PI.br false,
 PI.br true,
 PI.br false,
 PI.br false,
 PI.br false,
 PI.br true], .br true, .r [] []])
          (ob := [decide (ch < 1) = false,
            decide (ch < 1) = false,
            decide (ch < 1) = false,
            decide (ch > 64) = !false,
            decide (ch > 64) = !false,
            decide (ch > 64) = !false,
            decide (ch > 64) = true,
            true = !false,
            true = !false,
            true = !false,
            true = true,
            true = true]) (by kernel_rfl) ?_
        exact ⟨(by with_reducible assumption),
                    (by with_reducible assumption),
                    (by with_reducible assumption),
                    (by (refine decide_eq_true ?_; omega)),
                    (by (refine decide_eq_true ?_; omega)),
                    (by (refine decide_eq_true ?_; omega)),
                    (by with_reducible assumption),
                    (by (simp; done)),
                    (by (simp; done)),
                    (by (simp; done)),
                    (by with_reducible rfl),
                    (by with_reducible rfl),
                    trivial⟩
      exact hz
    · have gc1 : ¬ch > 64 := of_decide_eq_false hc1
      rcases Bool.eq_false_or_eq_true (decide (n.nk < 1)) with hc2 | hc2
      · have gc2 : n.nk < 1 := of_decide_eq_true hc2
        have hz : VC Try.prog 31 ([nod n, i64 ch]) (AV.tup
  [AV.agg
      [AV.lit (Value.int IntKind.i64 0), AV.lit (Value.int IntKind.i64 0), AV.lit (Value.int IntKind.i64 0),
        AV.lit (Value.int IntKind.i64 0), AV.lit (Value.int IntKind.i64 0), AV.lit (Value.int IntKind.i64 0),
        AV.lit (Value.int IntKind.i64 0), AV.lit (Value.int IntKind.i8 0), AV.lit (Value.int IntKind.i8 0),
        AV.lit (Value.slice none 0 0), AV.lit (Value.slice none 0 0), AV.lit (Value.int IntKind.i32 0),
        AV.lit (Value.int IntKind.i64 0), AV.lit (Value.int IntKind.i8 0), AV.lit (Value.int IntKind.i32 0),
        AV.lit (Value.int IntKind.i64 0), AV.lit (Value.int IntKind.i8 0), AV.lit (Value.int IntKind.i8 0),
        AV.lit (Value.int IntKind.i8 0)],
    AV.lit (Value.int IntKind.i64 9)]) := by
          refine VC.run (fn := Try.f31) Try.func31 (W := [.r [] [], .r [] [PI.br true,
 PI.br true,
 PI.br false,
 PI.br true,
 PI.br true,
 PI.br true,
 PI.br false,
 PI.br false,
 PI.br false,
 PI.br false,
 PI.br true], .br true, .r [] []])
            (ob := [decide (ch < 1) = false,
              decide (ch < 1) = false,
              decide (ch < 1) = false,
              decide (ch > 64) = false,
              decide (ch > 64) = false,
              decide (ch > 64) = false,
              decide (ch > 64) = false,
              decide (n.nk < 1) = !false,
              decide (n.nk < 1) = !false,
              decide (n.nk < 1) = !false,
              decide (n.nk < 1) = true,
              true = true]) (by kernel_rfl) ?_
          exact ⟨(by with_reducible assumption),
                        (by with_reducible assumption),
                        (by with_reducible assumption),
                        (by with_reducible assumption),
                        (by with_reducible assumption),
                        (by with_reducible assumption),
                        (by with_reducible assumption),
                        (by (refine decide_eq_true ?_; omega)),
                        (by (refine decide_eq_true ?_; omega)),
                        (by (refine decide_eq_true ?_; omega)),
                        (by with_reducible assumption),
                        (by with_reducible rfl),
                        trivial⟩
        exact hz
      · have gc2 : ¬n.nk < 1 := of_decide_eq_false hc2
        rcases Bool.eq_false_or_eq_true (decide (n.nk > 5)) with hc3 | hc3
        · have gc3 : n.nk > 5 := of_decide_eq_true hc3
          have hz : VC Try.prog 31 ([nod n, i64 ch]) (AV.tup
  [AV.agg
      [AV.lit (Value.int IntKind.i64 0), AV.lit (Value.int IntKind.i64 0), AV.lit (Value.int IntKind.i64 0),
        AV.lit (Value.int IntKind.i64 0), AV.lit (Value.int IntKind.i64 0), AV.lit (Value.int IntKind.i64 0),
        AV.lit (Value.int IntKind.i64 0), AV.lit (Value.int IntKind.i8 0), AV.lit (Value.int IntKind.i8 0),
        AV.lit (Value.slice none 0 0), AV.lit (Value.slice none 0 0), AV.lit (Value.int IntKind.i32 0),
        AV.lit (Value.int IntKind.i64 0), AV.lit (Value.int IntKind.i8 0), AV.lit (Value.int IntKind.i32 0),
        AV.lit (Value.int IntKind.i64 0), AV.lit (Value.int IntKind.i8 0), AV.lit (Value.int IntKind.i8 0),
        AV.lit (Value.int IntKind.i8 0)],
    AV.lit (Value.int IntKind.i64 9)]) := by
            refine VC.run (fn := Try.f31) Try.func31 (W := [.r [] [], .r [] [PI.br true,
 PI.br true,
 PI.br false,
 PI.br true,
 PI.br true,
 PI.br true,
 PI.br false,
 PI.br true,
 PI.br true,
 PI.br true,
 PI.br false], .br true, .r [] []])
              (ob := [decide (ch < 1) = false,
                decide (ch < 1) = false,
                decide (ch < 1) = false,
                decide (ch > 64) = false,
                decide (ch > 64) = false,
                decide (ch > 64) = false,
                decide (ch > 64) = false,
                decide (n.nk < 1) = false,
                decide (n.nk < 1) = false,
                decide (n.nk < 1) = false,
                decide (n.nk < 1) = false,
                decide (n.nk > 5) = true]) (by kernel_rfl) ?_
            exact ⟨(by with_reducible assumption),
                            (by with_reducible assumption),
                            (by with_reducible assumption),
                            (by with_reducible assumption),
                            (by with_reducible assumption),
                            (by with_reducible assumption),
                            (by with_reducible assumption),
                            (by with_reducible assumption),
                            (by with_reducible assumption),
                            (by with_reducible assumption),
                            (by with_reducible assumption),
                            (by with_reducible assumption),
                            trivial⟩
          exact hz
        · have gc3 : ¬n.nk > 5 := of_decide_eq_false hc3
          rcases Bool.eq_false_or_eq_true ((↑(List.map (row1 IntKind.i8) n.w).length : Int) != ch * n.nk * n.nk) with hc4 | hc4
          · have gc4 : ¬(↑(List.map (row1 IntKind.i8) n.w).length : Int) = ch * n.nk * n.nk := by first | exact hc4 | exact of_decide_eq_true hc4 | exact of_decide_eq_false hc4 | simpa [eqNums] using hc4 | (simp [eqNums] at hc4 ⊢; first | done | assumption | omega)
            have hz : VC Try.prog 31 ([nod n, i64 ch]) (AV.tup
  [AV.agg
      [AV.lit (Value.int IntKind.i64 0), AV.lit (Value.int IntKind.i64 0), AV.lit (Value.int IntKind.i64 0),
        AV.lit (Value.int IntKind.i64 0), AV.lit (Value.int IntKind.i64 0), AV.lit (Value.int IntKind.i64 0),
        AV.lit (Value.int IntKind.i64 0), AV.lit (Value.int IntKind.i8 0), AV.lit (Value.int IntKind.i8 0),
        AV.lit (Value.slice none 0 0), AV.lit (Value.slice none 0 0), AV.lit (Value.int IntKind.i32 0),
        AV.lit (Value.int IntKind.i64 0), AV.lit (Value.int IntKind.i8 0), AV.lit (Value.int IntKind.i32 0),
        AV.lit (Value.int IntKind.i64 0), AV.lit (Value.int IntKind.i8 0), AV.lit (Value.int IntKind.i8 0),
        AV.lit (Value.int IntKind.i8 0)],
    AV.lit (Value.int IntKind.i64 9)]) := by
              refine VC.run (fn := Try.f31) Try.func31 (W := [.r [] [], .r [] [PI.br true,
 PI.br true,
 PI.br false,
 PI.br true,
 PI.br true,
 PI.br true,
 PI.br false,
 PI.br true,
 PI.br true,
 PI.br true,
 PI.br
   false], .br false, .r [] [PI.n (ch * n.nk),
 PI.n (ch * n.nk * n.nk),
 PI.br false,
 PI.br false,
 PI.br false,
 PI.br false,
 PI.br false,
 PI.br true,
 PI.br false,
 PI.br false,
 PI.br false,
 PI.br false,
 PI.br false,
 PI.br false,
 PI.br true], .br true, .r [] []])
                (ob := [decide (ch < 1) = false,
                  decide (ch < 1) = false,
                  decide (ch < 1) = false,
                  decide (ch > 64) = false,
                  decide (ch > 64) = false,
                  decide (ch > 64) = false,
                  decide (ch > 64) = false,
                  decide (n.nk < 1) = false,
                  decide (n.nk < 1) = false,
                  decide (n.nk < 1) = false,
                  decide (n.nk < 1) = false,
                  decide (n.nk > 5) = false,
                  IntKind.i64.wrap (ch * n.nk) = ch * n.nk,
                  IntKind.i64.wrap (ch * n.nk * n.nk) = ch * n.nk * n.nk,
                  ((↑(List.map (row1 IntKind.i8) n.w).length : Int) != ch * n.nk * n.nk) = !false,
                  ((↑(List.map (row1 IntKind.i8) n.w).length : Int) != ch * n.nk * n.nk) = !false,
                  ((↑(List.map (row1 IntKind.i8) n.w).length : Int) != ch * n.nk * n.nk) = !false,
                  ((↑(List.map (row1 IntKind.i8) n.w).length : Int) != ch * n.nk * n.nk) = !false,
                  ((↑(List.map (row1 IntKind.i8) n.w).length : Int) != ch * n.nk * n.nk) = !false,
                  ((↑(List.map (row1 IntKind.i8) n.w).length : Int) != ch * n.nk * n.nk) = true,
                  true = !false,
                  true = !false,
                  true = !false,
                  true = !false,
                  true = !false,
                  true = !false,
                  true = true,
                  true = true]) (by kernel_rfl) ?_
              exact ⟨(by with_reducible assumption),
                                (by with_reducible assumption),
                                (by with_reducible assumption),
                                (by with_reducible assumption),
                                (by with_reducible assumption),
                                (by with_reducible assumption),
                                (by with_reducible assumption),
                                (by with_reducible assumption),
                                (by with_reducible assumption),
                                (by with_reducible assumption),
                                (by with_reducible assumption),
                                (by with_reducible assumption),
                                (by ((try simp only [List.length_map] at *); exact IntWalk.i64_in _ (by have g1 := mul_bd (a := ch) (A := 64) (b := n.nk) (B := 5) (by omega) (by omega) (by omega) (by omega); have g2 := mul_bd (a := ch * n.nk) (A := 320) (b := n.nk) (B := 5) (by omega) (by omega) (by omega) (by omega); have g3 := mul_bd (a := (n.w.length : Int)) (A := 2000) (b := ch) (B := 64) (by omega) (by omega) (by omega) (by omega); omega))),
                                (by ((try simp only [List.length_map] at *); exact IntWalk.i64_in _ (by have g1 := mul_bd (a := ch) (A := 64) (b := n.nk) (B := 5) (by omega) (by omega) (by omega) (by omega); have g2 := mul_bd (a := ch * n.nk) (A := 320) (b := n.nk) (B := 5) (by omega) (by omega) (by omega) (by omega); have g3 := mul_bd (a := (n.w.length : Int)) (A := 2000) (b := ch) (B := 64) (by omega) (by omega) (by omega) (by omega); omega))),
                                (by (simp at *; omega)),
                                (by (simp at *; omega)),
                                (by (simp at *; omega)),
                                (by (simp at *; omega)),
                                (by (simp at *; omega)),
                                (by with_reducible assumption),
                                (by (simp; done)),
                                (by (simp; done)),
                                (by (simp; done)),
                                (by (simp; done)),
                                (by (simp; done)),
                                (by (simp; done)),
                                (by with_reducible rfl),
                                (by with_reducible rfl),
                                trivial⟩
            exact hz
          · have gc4 : (↑(List.map (row1 IntKind.i8) n.w).length : Int) = ch * n.nk * n.nk := by first | exact hc4 | exact of_decide_eq_true hc4 | exact of_decide_eq_false hc4 | simpa [eqNums] using hc4 | (simp [eqNums] at hc4 ⊢; first | done | assumption | omega)
            rcases Bool.eq_false_or_eq_true ((↑(List.map (row1 IntKind.i32) n.b).length : Int) != ch) with hc5 | hc5
            · have gc5 : ¬(↑(List.map (row1 IntKind.i32) n.b).length : Int) = ch := by first | exact hc5 | exact of_decide_eq_true hc5 | exact of_decide_eq_false hc5 | simpa [eqNums] using hc5 | (simp [eqNums] at hc5 ⊢; first | done | assumption | omega)
              have hz : VC Try.prog 31 ([nod n, i64 ch]) (AV.tup
  [AV.agg
      [AV.lit (Value.int IntKind.i64 0), AV.lit (Value.int IntKind.i64 0), AV.lit (Value.int IntKind.i64 0),
        AV.lit (Value.int IntKind.i64 0), AV.lit (Value.int IntKind.i64 0), AV.lit (Value.int IntKind.i64 0),
        AV.lit (Value.int IntKind.i64 0), AV.lit (Value.int IntKind.i8 0), AV.lit (Value.int IntKind.i8 0),
        AV.lit (Value.slice none 0 0), AV.lit (Value.slice none 0 0), AV.lit (Value.int IntKind.i32 0),
        AV.lit (Value.int IntKind.i64 0), AV.lit (Value.int IntKind.i8 0), AV.lit (Value.int IntKind.i32 0),
        AV.lit (Value.int IntKind.i64 0), AV.lit (Value.int IntKind.i8 0), AV.lit (Value.int IntKind.i8 0),
        AV.lit (Value.int IntKind.i8 0)],
    AV.lit (Value.int IntKind.i64 9)]) := by
                refine VC.run (fn := Try.f31) Try.func31 (W := [.r [] [], .r [] [PI.br true,
 PI.br true,
 PI.br false,
 PI.br true,
 PI.br true,
 PI.br true,
 PI.br false,
 PI.br true,
 PI.br true,
 PI.br true,
 PI.br
   false], .br false, .r [] [PI.n (ch * n.nk),
 PI.n (ch * n.nk * n.nk),
 PI.br true,
 PI.br true,
 PI.br true,
 PI.br true,
 PI.br true,
 PI.br false,
 PI.br false,
 PI.br false,
 PI.br false,
 PI.br false,
 PI.br false,
 PI.br false,
 PI.br true], .br true, .r [] []])
                  (ob := [decide (ch < 1) = false,
                    decide (ch < 1) = false,
                    decide (ch < 1) = false,
                    decide (ch > 64) = false,
                    decide (ch > 64) = false,
                    decide (ch > 64) = false,
                    decide (ch > 64) = false,
                    decide (n.nk < 1) = false,
                    decide (n.nk < 1) = false,
                    decide (n.nk < 1) = false,
                    decide (n.nk < 1) = false,
                    decide (n.nk > 5) = false,
                    IntKind.i64.wrap (ch * n.nk) = ch * n.nk,
                    IntKind.i64.wrap (ch * n.nk * n.nk) = ch * n.nk * n.nk,
                    ((↑(List.map (row1 IntKind.i8) n.w).length : Int) != ch * n.nk * n.nk) = false,
                    ((↑(List.map (row1 IntKind.i8) n.w).length : Int) != ch * n.nk * n.nk) = false,
                    ((↑(List.map (row1 IntKind.i8) n.w).length : Int) != ch * n.nk * n.nk) = false,
                    ((↑(List.map (row1 IntKind.i8) n.w).length : Int) != ch * n.nk * n.nk) = false,
                    ((↑(List.map (row1 IntKind.i8) n.w).length : Int) != ch * n.nk * n.nk) = false,
                    ((↑(List.map (row1 IntKind.i8) n.w).length : Int) != ch * n.nk * n.nk) = false,
                    ((↑(List.map (row1 IntKind.i32) n.b).length : Int) != ch) = !false,
                    ((↑(List.map (row1 IntKind.i32) n.b).length : Int) != ch) = !false,
                    ((↑(List.map (row1 IntKind.i32) n.b).length : Int) != ch) = !false,
                    ((↑(List.map (row1 IntKind.i32) n.b).length : Int) != ch) = !false,
                    ((↑(List.map (row1 IntKind.i32) n.b).length : Int) != ch) = !false,
                    ((↑(List.map (row1 IntKind.i32) n.b).length : Int) != ch) = !false,
                    ((↑(List.map (row1 IntKind.i32) n.b).length : Int) != ch) = true,
                    true = true]) (by kernel_rfl) ?_
                exact ⟨(by with_reducible assumption),
                                    (by with_reducible assumption),
                                    (by with_reducible assumption),
                                    (by with_reducible assumption),
                                    (by with_reducible assumption),
                                    (by with_reducible assumption),
                                    (by with_reducible assumption),
                                    (by with_reducible assumption),
                                    (by with_reducible assumption),
                                    (by with_reducible assumption),
                                    (by with_reducible assumption),
                                    (by with_reducible assumption),
                                    (by ((try simp only [List.length_map] at *); exact IntWalk.i64_in _ (by have g1 := mul_bd (a := ch) (A := 64) (b := n.nk) (B := 5) (by omega) (by omega) (by omega) (by omega); have g2 := mul_bd (a := ch * n.nk) (A := 320) (b := n.nk) (B := 5) (by omega) (by omega) (by omega) (by omega); have g3 := mul_bd (a := (n.w.length : Int)) (A := 2000) (b := ch) (B := 64) (by omega) (by omega) (by omega) (by omega); omega))),
                                    (by ((try simp only [List.length_map] at *); exact IntWalk.i64_in _ (by have g1 := mul_bd (a := ch) (A := 64) (b := n.nk) (B := 5) (by omega) (by omega) (by omega) (by omega); have g2 := mul_bd (a := ch * n.nk) (A := 320) (b := n.nk) (B := 5) (by omega) (by omega) (by omega) (by omega); have g3 := mul_bd (a := (n.w.length : Int)) (A := 2000) (b := ch) (B := 64) (by omega) (by omega) (by omega) (by omega); omega))),
                                    (by with_reducible assumption),
                                    (by with_reducible assumption),
                                    (by with_reducible assumption),
                                    (by with_reducible assumption),
                                    (by with_reducible assumption),
                                    (by with_reducible assumption),
                                    (by (simp at *; omega)),
                                    (by (simp at *; omega)),
                                    (by (simp at *; omega)),
                                    (by (simp at *; omega)),
                                    (by (simp at *; omega)),
                                    (by (simp at *; omega)),
                                    (by with_reducible assumption),
                                    (by with_reducible rfl),
                                    trivial⟩
              exact hz
            · have gc5 : (↑(List.map (row1 IntKind.i32) n.b).length : Int) = ch := by first | exact hc5 | exact of_decide_eq_true hc5 | exact of_decide_eq_false hc5 | simpa [eqNums] using hc5 | (simp [eqNums] at hc5 ⊢; first | done | assumption | omega)
              have hz : VC Try.prog 31 ([nod n, i64 ch]) (AV.tup
  [AV.agg
      [AV.lit (Value.int IntKind.i64 0), AV.lit (Value.int IntKind.i64 0), AV.lit (Value.int IntKind.i64 0),
        AV.lit (Value.int IntKind.i64 0), AV.lit (Value.int IntKind.i64 0), AV.lit (Value.int IntKind.i64 0),
        AV.lit (Value.int IntKind.i64 0), AV.lit (Value.int IntKind.i8 0), AV.lit (Value.int IntKind.i8 0),
        AV.lit (Value.slice none 0 0), AV.lit (Value.slice none 0 0), AV.lit (Value.int IntKind.i32 0),
        AV.lit (Value.int IntKind.i64 0), AV.lit (Value.int IntKind.i8 0), AV.lit (Value.int IntKind.i32 0),
        AV.lit (Value.int IntKind.i64 0), AV.lit (Value.int IntKind.i8 0), AV.lit (Value.int IntKind.i8 0),
        AV.lit (Value.int IntKind.i8 0)],
    AV.lit (Value.int IntKind.i64 9)]) := by
                refine VC.run (fn := Try.f31) Try.func31 (W := [.r [] [], .r [] [PI.br true,
 PI.br true,
 PI.br false,
 PI.br true,
 PI.br true,
 PI.br true,
 PI.br false,
 PI.br true,
 PI.br true,
 PI.br true,
 PI.br
   false], .br false, .r [] [PI.n (ch * n.nk),
 PI.n (ch * n.nk * n.nk),
 PI.br true,
 PI.br true,
 PI.br true,
 PI.br true,
 PI.br true,
 PI.br false,
 PI.br true,
 PI.br true,
 PI.br true,
 PI.br true,
 PI.br true,
 PI.n ((↑(List.map (row1 IntKind.i8) n.w).length : Int) * ch),
 PI.br true,
 PI.br false], .br true, .r [] []])
                  (ob := [decide (ch < 1) = false,
                    decide (ch < 1) = false,
                    decide (ch < 1) = false,
                    decide (ch > 64) = false,
                    decide (ch > 64) = false,
                    decide (ch > 64) = false,
                    decide (ch > 64) = false,
                    decide (n.nk < 1) = false,
                    decide (n.nk < 1) = false,
                    decide (n.nk < 1) = false,
                    decide (n.nk < 1) = false,
                    decide (n.nk > 5) = false,
                    IntKind.i64.wrap (ch * n.nk) = ch * n.nk,
                    IntKind.i64.wrap (ch * n.nk * n.nk) = ch * n.nk * n.nk,
                    ((↑(List.map (row1 IntKind.i8) n.w).length : Int) != ch * n.nk * n.nk) = false,
                    ((↑(List.map (row1 IntKind.i8) n.w).length : Int) != ch * n.nk * n.nk) = false,
                    ((↑(List.map (row1 IntKind.i8) n.w).length : Int) != ch * n.nk * n.nk) = false,
                    ((↑(List.map (row1 IntKind.i8) n.w).length : Int) != ch * n.nk * n.nk) = false,
                    ((↑(List.map (row1 IntKind.i8) n.w).length : Int) != ch * n.nk * n.nk) = false,
                    ((↑(List.map (row1 IntKind.i8) n.w).length : Int) != ch * n.nk * n.nk) = false,
                    ((↑(List.map (row1 IntKind.i32) n.b).length : Int) != ch) = false,
                    ((↑(List.map (row1 IntKind.i32) n.b).length : Int) != ch) = false,
                    ((↑(List.map (row1 IntKind.i32) n.b).length : Int) != ch) = false,
                    ((↑(List.map (row1 IntKind.i32) n.b).length : Int) != ch) = false,
                    ((↑(List.map (row1 IntKind.i32) n.b).length : Int) != ch) = false,
                    IntKind.i64.wrap ((↑(List.map (row1 IntKind.i8) n.w).length : Int) * ch) =
  (↑(List.map (row1 IntKind.i8) n.w).length : Int) * ch,
                    ((↑(List.map (row1 IntKind.i32) n.b).length : Int) != ch) = false,
                    ((↑(List.map (row1 IntKind.i32) n.b).length : Int) != ch) = false,
                    decide ((↑(List.map (row1 IntKind.i8) n.w).length : Int) * ch > 16384) = true]) (by kernel_rfl) ?_
                exact ⟨(by with_reducible assumption),
                                    (by with_reducible assumption),
                                    (by with_reducible assumption),
                                    (by with_reducible assumption),
                                    (by with_reducible assumption),
                                    (by with_reducible assumption),
                                    (by with_reducible assumption),
                                    (by with_reducible assumption),
                                    (by with_reducible assumption),
                                    (by with_reducible assumption),
                                    (by with_reducible assumption),
                                    (by with_reducible assumption),
                                    (by ((try simp only [List.length_map] at *); exact IntWalk.i64_in _ (by have g1 := mul_bd (a := ch) (A := 64) (b := n.nk) (B := 5) (by omega) (by omega) (by omega) (by omega); have g2 := mul_bd (a := ch * n.nk) (A := 320) (b := n.nk) (B := 5) (by omega) (by omega) (by omega) (by omega); have g3 := mul_bd (a := (n.w.length : Int)) (A := 2000) (b := ch) (B := 64) (by omega) (by omega) (by omega) (by omega); omega))),
                                    (by ((try simp only [List.length_map] at *); exact IntWalk.i64_in _ (by have g1 := mul_bd (a := ch) (A := 64) (b := n.nk) (B := 5) (by omega) (by omega) (by omega) (by omega); have g2 := mul_bd (a := ch * n.nk) (A := 320) (b := n.nk) (B := 5) (by omega) (by omega) (by omega) (by omega); have g3 := mul_bd (a := (n.w.length : Int)) (A := 2000) (b := ch) (B := 64) (by omega) (by omega) (by omega) (by omega); omega))),
                                    (by with_reducible assumption),
                                    (by with_reducible assumption),
                                    (by with_reducible assumption),
                                    (by with_reducible assumption),
                                    (by with_reducible assumption),
                                    (by with_reducible assumption),
                                    (by with_reducible assumption),
                                    (by with_reducible assumption),
                                    (by with_reducible assumption),
                                    (by with_reducible assumption),
                                    (by with_reducible assumption),
                                    (by ((try simp only [List.length_map] at *); exact IntWalk.i64_in _ (by have g1 := mul_bd (a := ch) (A := 64) (b := n.nk) (B := 5) (by omega) (by omega) (by omega) (by omega); have g2 := mul_bd (a := ch * n.nk) (A := 320) (b := n.nk) (B := 5) (by omega) (by omega) (by omega) (by omega); have g3 := mul_bd (a := (n.w.length : Int)) (A := 2000) (b := ch) (B := 64) (by omega) (by omega) (by omega) (by omega); omega))),
                                    (by with_reducible assumption),
                                    (by with_reducible assumption),
                                    (by ((try simp only [fitsW, List.length_map] at *); exact decide_eq_true (by omega))),
                                    trivial⟩
              exact hz
end Go.Proofs.Ytcegfkmelcjdhaa

