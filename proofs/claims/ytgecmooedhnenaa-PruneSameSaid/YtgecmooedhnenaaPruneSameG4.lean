/- Texts of this claim, put together: Cl, KnA, KnB, KnC, KnD, KnE, Gs, RnA, RnB, Gd, GdN, Ds, RnC. No condition. -/
import Derived.Test.YtgecmooedhnenaaPruneSameG3
set_option linter.unusedVariables false
set_option linter.unusedSimpArgs false
set_option linter.unnecessarySimpa false
/- Copies of slices. No condition. -/
namespace Go.Proofs.Ytgecmooedhnenaa
open Go.RowKit
set_option linter.unusedSimpArgs false
set_option linter.unusedVariables false
set_option linter.unnecessarySimpa false

set_option maxRecDepth 100000 in
set_option maxHeartbeats 2000000 in
theorem clone32_a   : VC Try.prog 145 ([nilv]) (ints .i32 []) := by
  exact (VC.run (fn := Try.f145) (W := [.r [] [], .r [] [], .br true, .r [] []]) (r := AV.lit (Value.slice none 0 0)) Try.func145 (by kernel_rfl) (.c (show true = true by with_reducible rfl) <| .n)).weak (WeakL.refl _) (Weak.nil _)

set_option maxRecDepth 100000 in
set_option maxHeartbeats 2000000 in
theorem clone32_b (a : Addr) (cap : Nat) (h : cap ≤ maxLen) : VC Try.prog 145 ([.lit (.slice (some a) 0 cap)]) (ints .i32 []) := by
  exact VC.run (fn := Try.f145) (W := [.r [] [], .r [] [], .br false, .r [] [.code Exit.normal (VS.mk [AV.sl 1 []] [])]]) Try.func145 (by kernel_rfl) (.c (show false = false by with_reducible rfl) <| .c (show Weak (AV.lit (Value.slice (some a) 0 cap)) (AV.sl 1 []) from (Weak.empty _ _ (by assumption))) <| .c (show ((0 : Nat) + (0 : Nat)) * (4 : Nat) ≤ (140737488355328 : Nat) by omega) <| .c (show (0 : Nat) + (0 : Nat) ≤ (9223372036854775807 : Nat) by omega) <| .n)

set_option maxRecDepth 100000 in
set_option maxHeartbeats 2000000 in
theorem clone32_c (l : List Int) (h : l ≠ []) (hl : l.length ≤ 1000000) : VC Try.prog 145 ([ints .i32 l]) (ints .i32 l) := by
  exact (VC.run (fn := Try.f145) (W := [.r [] [], .r [] [], .br false, .r [] []]) (r := AV.sl 1 ([] ++ List.map (row1 IntKind.i32) l)) Try.func145 (by kernel_rfl) (.c (show List.map (row1 IntKind.i32) l ≠ [] by (simp; omega)) <| .c (show false = false by with_reducible rfl) <| .c (show (0 + (List.map (row1 IntKind.i32) l).length) * 4 ≤ 140737488355328 by (simp; omega)) <| .c (show 0 + (List.map (row1 IntKind.i32) l).length ≤ 9223372036854775807 by (simp; omega)) <| .n)).weak (WeakL.refl _) (Weak.rows (rows_to (row1 IntKind.i32) (r := [] ++ List.map (row1 IntKind.i32) l) (l := [] ++ l) (m := l) (by first | (simp only [List.map_append, List.map_cons, List.map_nil, List.map_set, List.map_replicate, List.map_take, List.map_drop]; done) | rfl | (simp only [List.map_append, List.map_cons, List.map_nil, List.map_set, List.map_replicate, List.map_take, List.map_drop]; rfl)) (show ([] ++ l) = (l) from (by (simp; done)))))
theorem clone32_v (l : List Int) (hl : l.length ≤ 1000000) : VC Try.prog 145 [ints .i32 l] (ints .i32 l) := by
  cases l with
  | nil => exact VC.empty1 clone32_a fun a cap h => clone32_b a cap h
  | cons x l => exact clone32_c _ (by simp) hl
set_option maxRecDepth 100000 in
set_option maxHeartbeats 2000000 in
theorem clone8_a   : VC Try.prog 144 ([nilv]) (ints .i8 []) := by
  exact (VC.run (fn := Try.f144) (W := [.r [] [], .r [] [], .br true, .r [] []]) (r := AV.lit (Value.slice none 0 0)) Try.func144 (by kernel_rfl) (.c (show true = true by with_reducible rfl) <| .n)).weak (WeakL.refl _) (Weak.nil _)

set_option maxRecDepth 100000 in
set_option maxHeartbeats 2000000 in
theorem clone8_b (a : Addr) (cap : Nat) (h : cap ≤ maxLen) : VC Try.prog 144 ([.lit (.slice (some a) 0 cap)]) (ints .i8 []) := by
  exact VC.run (fn := Try.f144) (W := [.r [] [], .r [] [], .br false, .r [] [.code Exit.normal (VS.mk [AV.sl 1 []] [])]]) Try.func144 (by kernel_rfl) (.c (show false = false by with_reducible rfl) <| .c (show Weak (AV.lit (Value.slice (some a) 0 cap)) (AV.sl 1 []) from (Weak.empty _ _ (by assumption))) <| .c (show ((0 : Nat) + (0 : Nat)) * (1 : Nat) ≤ (140737488355328 : Nat) by omega) <| .c (show (0 : Nat) + (0 : Nat) ≤ (9223372036854775807 : Nat) by omega) <| .n)

set_option maxRecDepth 100000 in
set_option maxHeartbeats 2000000 in
theorem clone8_c (l : List Int) (h : l ≠ []) (hl : l.length ≤ 1000000) : VC Try.prog 144 ([ints .i8 l]) (ints .i8 l) := by
  exact (VC.run (fn := Try.f144) (W := [.r [] [], .r [] [], .br false, .r [] []]) (r := AV.sl 1 ([] ++ List.map (row1 IntKind.i8) l)) Try.func144 (by kernel_rfl) (.c (show List.map (row1 IntKind.i8) l ≠ [] by (simp; omega)) <| .c (show false = false by with_reducible rfl) <| .c (show (0 + (List.map (row1 IntKind.i8) l).length) * 1 ≤ 140737488355328 by (simp; omega)) <| .c (show 0 + (List.map (row1 IntKind.i8) l).length ≤ 9223372036854775807 by (simp; omega)) <| .n)).weak (WeakL.refl _) (Weak.rows (rows_to (row1 IntKind.i8) (r := [] ++ List.map (row1 IntKind.i8) l) (l := [] ++ l) (m := l) (by first | (simp only [List.map_append, List.map_cons, List.map_nil, List.map_set, List.map_replicate, List.map_take, List.map_drop]; done) | rfl | (simp only [List.map_append, List.map_cons, List.map_nil, List.map_set, List.map_replicate, List.map_take, List.map_drop]; rfl)) (show ([] ++ l) = (l) from (by (simp; done)))))
theorem clone8_v (l : List Int) (hl : l.length ≤ 1000000) : VC Try.prog 144 [ints .i8 l] (ints .i8 l) := by
  cases l with
  | nil => exact VC.empty1 clone8_a fun a cap h => clone8_b a cap h
  | cons x l => exact clone8_c _ (by simp) hl
end Go.Proofs.Ytgecmooedhnenaa

/- What nodes' kinds are called. No condition. -/
namespace Go.Proofs.Ytgecmooedhnenaa
open Go.RowKit
set_option linter.unusedSimpArgs false
set_option linter.unusedVariables false
set_option linter.unnecessarySimpa false

def kindNames : List ByteArray := [⟨#[]⟩, ⟨#[99, 111, 110, 118]⟩, ⟨#[100, 101, 112, 116, 104]⟩, ⟨#[100, 101, 110, 115, 101]⟩, ⟨#[109, 97, 120, 112, 111, 111, 108]⟩, ⟨#[97, 118, 103, 112, 111, 111, 108]⟩, ⟨#[106, 111, 105, 110]⟩, ⟨#[97, 99, 116]⟩, ⟨#[112, 97, 100]⟩, ⟨#[102, 108, 97, 116]⟩]
def nameS (k : Int) : ByteArray := kindNames.getD k.toNat ⟨#[]⟩
abbrev strv (s : ByteArray) : AV := .lit (.string s)
theorem name_row {k : Int} (h1 : k < 10) : ([[strv ⟨#[]⟩], [strv ⟨#[99, 111, 110, 118]⟩], [strv ⟨#[100, 101, 112, 116, 104]⟩], [strv ⟨#[100, 101, 110, 115, 101]⟩], [strv ⟨#[109, 97, 120, 112, 111, 111, 108]⟩], [strv ⟨#[97, 118, 103, 112, 111, 111, 108]⟩], [strv ⟨#[106, 111, 105, 110]⟩], [strv ⟨#[97, 99, 116]⟩], [strv ⟨#[112, 97, 100]⟩], [strv ⟨#[102, 108, 97, 116]⟩]] : List (List AV))[k.toNat]? = some [strv (nameS k)] :=
  map_at (fun s => [strv s]) ⟨#[]⟩ (l := kindNames) (i := k.toNat) (by show k.toNat < 10; omega)
theorem name_out {k : Int} (h : k < 0 ∨ 10 ≤ k) : nameS k = ⟨#[]⟩ := by
  unfold nameS
  rcases h with h | h
  · rw [show k.toNat = 0 by omega]; rfl
  · rw [List.getD_eq_getElem?_getD, List.getElem?_eq_none (by show 10 ≤ k.toNat; omega)]; rfl
theorem name_in {k : Int} (h0 : 1 ≤ k) (h1 : k ≤ 9) : nameS k ≠ ⟨#[]⟩ := by
  have : k = 1 ∨ k = 2 ∨ k = 3 ∨ k = 4 ∨ k = 5 ∨ k = 6 ∨ k = 7 ∨ k = 8 ∨ k = 9 := by omega
  rcases this with rfl | rfl | rfl | rfl | rfl | rfl | rfl | rfl | rfl <;> (intro h; exact absurd (congrArg (fun b : ByteArray => b.size) h) (by decide))
theorem nameEq_in {k : Int} (h0 : 1 ≤ k) (h1 : k ≤ 9) : ((nameS k).toList == (ByteArray.mk #[]).toList) = false := by
  have : k = 1 ∨ k = 2 ∨ k = 3 ∨ k = 4 ∨ k = 5 ∨ k = 6 ∨ k = 7 ∨ k = 8 ∨ k = 9 := by omega
  have e1 : ((nameS 1).toList == (ByteArray.mk #[]).toList) = false := by kernel_rfl
  have e2 : ((nameS 2).toList == (ByteArray.mk #[]).toList) = false := by kernel_rfl
  have e3 : ((nameS 3).toList == (ByteArray.mk #[]).toList) = false := by kernel_rfl
  have e4 : ((nameS 4).toList == (ByteArray.mk #[]).toList) = false := by kernel_rfl
  have e5 : ((nameS 5).toList == (ByteArray.mk #[]).toList) = false := by kernel_rfl
  have e6 : ((nameS 6).toList == (ByteArray.mk #[]).toList) = false := by kernel_rfl
  have e7 : ((nameS 7).toList == (ByteArray.mk #[]).toList) = false := by kernel_rfl
  have e8 : ((nameS 8).toList == (ByteArray.mk #[]).toList) = false := by kernel_rfl
  have e9 : ((nameS 9).toList == (ByteArray.mk #[]).toList) = false := by kernel_rfl
  rcases this with rfl | rfl | rfl | rfl | rfl | rfl | rfl | rfl | rfl <;> assumption
theorem nameEq_out {k : Int} (h : k < 1 ∨ 9 < k) : ((nameS k).toList == (ByteArray.mk #[]).toList) = true := by
  have : nameS k = ⟨#[]⟩ := by
    by_cases h0 : k = 0
    · subst h0; rfl
    · exact name_out (by omega)
  rw [this]; exact beq_self_eq_true _
set_option maxRecDepth 100000 in
set_option maxHeartbeats 2000000 in
theorem name_v (k : Int) (hk : In64 k) : VC Try.prog 161 ([i64 k]) (strv (nameS k)) := by
  rcases Bool.eq_false_or_eq_true (decide (k < 0) || decide (k ≥ 10)) with hc0 | hc0
  · have gc0 : k < 0 ∨ k ≥ 10 := by first | (simp only [Bool.or_eq_true, Bool.or_eq_false_iff, Bool.and_eq_true, Bool.and_eq_false_iff, Bool.not_eq_true', Bool.not_eq_false', decide_eq_true_eq, decide_eq_false_iff_not, beq_iff_eq, bne_iff_ne, ne_eq, beq_eq_false_iff_ne, bne_eq_false_iff_eq, eqNums, Bool.and_true] at hc0; first | exact hc0 | omega) | simpa using hc0 | (simp at hc0 ⊢; omega) | (apply Classical.byContradiction; intro hn; simp_all [eqNums]; done) | (apply Classical.byContradiction; intro hn; simp [eqNums] at hc0 hn; omega)
    exact (VC.run (fn := Try.f161) (W := [.r [] [], .r [] [], .r [] [.op false, .op false, .sel 1], .br true, .r [] []]) (r := AV.lit (Value.string (ByteArray.mk #[]))) Try.func161 (by kernel_rfl) (.c hc0 <| .n)).weak (WeakL.refl _) (Weak.str (show ((ByteArray.mk #[]) : ByteArray) = (nameS k) from (by (rw [name_out (by omega)]))))
  · have gc0 : ¬k < 0 ∧ ¬k ≥ 10 := by first | (simp only [Bool.or_eq_true, Bool.or_eq_false_iff, Bool.and_eq_true, Bool.and_eq_false_iff, Bool.not_eq_true', Bool.not_eq_false', decide_eq_true_eq, decide_eq_false_iff_not, beq_iff_eq, bne_iff_ne, ne_eq, beq_eq_false_iff_ne, bne_eq_false_iff_eq, eqNums, Bool.and_true] at hc0; first | exact hc0 | omega) | simpa using hc0 | (simp at hc0 ⊢; omega) | (apply Classical.byContradiction; intro hn; simp_all [eqNums]; done) | (apply Classical.byContradiction; intro hn; simp [eqNums] at hc0 hn; omega)
    have oz3 := (show [[AV.lit (Value.string (ByteArray.mk #[]))], [AV.lit (Value.string (ByteArray.mk #[99, 111, 110, 118]))], [AV.lit (Value.string (ByteArray.mk #[100, 101, 112, 116, 104]))], [AV.lit (Value.string (ByteArray.mk #[100, 101, 110, 115, 101]))], [AV.lit (Value.string (ByteArray.mk #[109, 97, 120, 112, 111, 111, 108]))], [AV.lit (Value.string (ByteArray.mk #[97, 118, 103, 112, 111, 111, 108]))], [AV.lit (Value.string (ByteArray.mk #[106, 111, 105, 110]))], [AV.lit (Value.string (ByteArray.mk #[97, 99, 116]))], [AV.lit (Value.string (ByteArray.mk #[112, 97, 100]))], [AV.lit (Value.string (ByteArray.mk #[102, 108, 97, 116]))]][k.toNat]? = some [strv (nameS k)] by (exact name_row (by omega)))
    exact VC.run (fn := Try.f161) (W := [.r [] [], .r [] [], .r [] [.op false, .op false, .sel 1], .br false, .r [] [.row (sO oz3)]]) Try.func161 (by kernel_rfl) (.c hc0 <| .c (show 0 ≤ k by omega) <| .c (show k < (↑10 : Int) by omega) <| .c oz3 <| .n)

set_option maxRecDepth 100000 in
set_option maxHeartbeats 2000000 in
theorem refName_v (k : Int) (hk : In64 k) : VC Try.prog 170 ([i64 k]) (strv (nameS k)) := by
  rcases Bool.eq_false_or_eq_true (decide (k < 0) || decide (k > 9)) with hc0 | hc0
  · have gc0 : k < 0 ∨ k > 9 := by first | (simp only [Bool.or_eq_true, Bool.or_eq_false_iff, Bool.and_eq_true, Bool.and_eq_false_iff, Bool.not_eq_true', Bool.not_eq_false', decide_eq_true_eq, decide_eq_false_iff_not, beq_iff_eq, bne_iff_ne, ne_eq, beq_eq_false_iff_ne, bne_eq_false_iff_eq, eqNums, Bool.and_true] at hc0; first | exact hc0 | omega) | simpa using hc0 | (simp at hc0 ⊢; omega) | (apply Classical.byContradiction; intro hn; simp_all [eqNums]; done) | (apply Classical.byContradiction; intro hn; simp [eqNums] at hc0 hn; omega)
    exact (VC.run (fn := Try.f170) (W := [.r [] [], .r [] [], .r [] [.op false, .op false, .sel 1], .br true, .r [] []]) (r := AV.lit (Value.string (ByteArray.mk #[]))) Try.func170 (by kernel_rfl) (.c hc0 <| .n)).weak (WeakL.refl _) (Weak.str (show ((ByteArray.mk #[]) : ByteArray) = (nameS k) from (by (rw [name_out (by omega)]))))
  · have gc0 : ¬k < 0 ∧ ¬k > 9 := by first | (simp only [Bool.or_eq_true, Bool.or_eq_false_iff, Bool.and_eq_true, Bool.and_eq_false_iff, Bool.not_eq_true', Bool.not_eq_false', decide_eq_true_eq, decide_eq_false_iff_not, beq_iff_eq, bne_iff_ne, ne_eq, beq_eq_false_iff_ne, bne_eq_false_iff_eq, eqNums, Bool.and_true] at hc0; first | exact hc0 | omega) | simpa using hc0 | (simp at hc0 ⊢; omega) | (apply Classical.byContradiction; intro hn; simp_all [eqNums]; done) | (apply Classical.byContradiction; intro hn; simp [eqNums] at hc0 hn; omega)
    have oz3 := (show [[AV.lit (Value.string (ByteArray.mk #[]))], [AV.lit (Value.string (ByteArray.mk #[99, 111, 110, 118]))], [AV.lit (Value.string (ByteArray.mk #[100, 101, 112, 116, 104]))], [AV.lit (Value.string (ByteArray.mk #[100, 101, 110, 115, 101]))], [AV.lit (Value.string (ByteArray.mk #[109, 97, 120, 112, 111, 111, 108]))], [AV.lit (Value.string (ByteArray.mk #[97, 118, 103, 112, 111, 111, 108]))], [AV.lit (Value.string (ByteArray.mk #[106, 111, 105, 110]))], [AV.lit (Value.string (ByteArray.mk #[97, 99, 116]))], [AV.lit (Value.string (ByteArray.mk #[112, 97, 100]))], [AV.lit (Value.string (ByteArray.mk #[102, 108, 97, 116]))]][k.toNat]? = some [strv (nameS k)] by (exact name_row (by omega)))
    exact VC.run (fn := Try.f170) (W := [.r [] [], .r [] [], .r [] [.op false, .op false, .sel 1], .br false, .r [] [.row (sO oz3)]]) Try.func170 (by kernel_rfl) (.c hc0 <| .c (show 0 ≤ k by omega) <| .c (show k < (↑10 : Int) by omega) <| .c oz3 <| .n)
end Go.Proofs.Ytgecmooedhnenaa

/- A node with what its kind tells alone. No condition. -/
namespace Go.Proofs.Ytgecmooedhnenaa
open Go.RowKit
set_option linter.unusedSimpArgs false
set_option linter.unusedVariables false
set_option linter.unnecessarySimpa false

/-- What a kind tells. -/
def plainN (n : Nod) : Nod := if n.kd = 1 then ⟨n.kd, n.na, 0, n.nk, n.ns, n.np, n.no, n.za, 0, n.w, n.b, n.qm, n.qs, n.qz, 0, 0, 0, n.lo, n.hi⟩ else if n.kd = 2 then ⟨n.kd, n.na, 0, n.nk, n.ns, n.np, 0, n.za, 0, n.w, n.b, n.qm, n.qs, n.qz, 0, 0, 0, n.lo, n.hi⟩ else if n.kd = 3 then ⟨n.kd, n.na, 0, 0, 0, 0, n.no, n.za, 0, n.w, n.b, n.qm, n.qs, n.qz, 0, 0, 0, n.lo, n.hi⟩ else if n.kd = 4 then ⟨n.kd, n.na, 0, n.nk, n.ns, n.np, 0, 0, 0, [], [], 0, 0, 0, 0, 0, 0, 0, 0⟩ else if n.kd = 5 then ⟨n.kd, n.na, 0, n.nk, n.ns, n.np, 0, 0, 0, [], [], 0, 0, 0, 0, 0, 0, 0, 0⟩ else if n.kd = 6 then ⟨n.kd, n.na, n.nb, 0, 0, 0, 0, n.za, n.zb, [], [], n.qm, n.qs, n.qz, n.rm, n.rs, 0, n.lo, n.hi⟩ else if n.kd = 7 then ⟨n.kd, n.na, 0, 0, 0, 0, 0, n.za, 0, [], [], n.qm, n.qs, n.qz, 0, 0, 0, n.lo, n.hi⟩ else if n.kd = 8 then ⟨n.kd, n.na, 0, 0, 0, n.np, 0, n.za, 0, [], [], 0, 0, 0, 0, 0, 0, 0, 0⟩ else ⟨n.kd, n.na, 0, 0, 0, 0, 0, 0, 0, [], [], 0, 0, 0, 0, 0, 0, 0, 0⟩
end Go.Proofs.Ytgecmooedhnenaa

/- Whether nodes are alike; what is wrong with a node. No condition. -/
namespace Go.Proofs.Ytgecmooedhnenaa
open Go.RowKit
set_option linter.unusedSimpArgs false
set_option linter.unusedVariables false
set_option linter.unnecessarySimpa false

def nodEq (a b : Nod) : Bool := decide (a.w = b.w) && decide (a.b = b.b) && eqNums [(IntKind.i64, a.kd, b.kd), (IntKind.i64, a.na, b.na), (IntKind.i64, a.nb, b.nb), (IntKind.i64, a.nk, b.nk), (IntKind.i64, a.ns, b.ns), (IntKind.i64, a.np, b.np), (IntKind.i64, a.no, b.no), (IntKind.i64, 0, 0)] &&
  eqNums [(IntKind.i8, a.za, b.za), (IntKind.i8, a.zb, b.zb), (IntKind.i8, a.lo, b.lo), (IntKind.i8, a.hi, b.hi)] && eqNums [(IntKind.i32, a.qm, b.qm), (IntKind.i64, a.qs, b.qs), (IntKind.i8, a.qz, b.qz)] && eqNums [(IntKind.i32, a.rm, b.rm), (IntKind.i64, a.rs, b.rs), (IntKind.i8, a.rz, b.rz)]
theorem nodEq_iff (a b : Nod) : nodEq a b = true ↔ a = b := by
  obtain ⟨a1, a2, a3, a4, a5, a6, a7, a8, a9, a10, a11, a12, a13, a14, a15, a16, a17, a18, a19⟩ := a
  obtain ⟨b1, b2, b3, b4, b5, b6, b7, b8, b9, b10, b11, b12, b13, b14, b15, b16, b17, b18, b19⟩ := b
  simp only [nodEq, eqNums, Bool.and_eq_true, decide_eq_true_eq, beq_iff_eq, Nod.mk.injEq]
  constructor
  · rintro ⟨⟨⟨⟨⟨h1, h2⟩, h3⟩, h4⟩, h5⟩, h6⟩
    exact ⟨h3.1, h3.2.1, h3.2.2.1, h3.2.2.2.1, h3.2.2.2.2.1, h3.2.2.2.2.2.1, h3.2.2.2.2.2.2.1, h4.1, h4.2.1, h1, h2, h5.1, h5.2.1, h5.2.2.1, h6.1, h6.2.1, h6.2.2.1, h4.2.2.1, h4.2.2.2.1⟩
  · rintro ⟨h1, h2, h3, h4, h5, h6, h7, h8, h9, h10, h11, h12, h13, h14, h15, h16, h17, h18, h19⟩
    exact ⟨⟨⟨⟨⟨h10, h11⟩, h1, h2, h3, h4, h5, h6, h7, trivial, trivial⟩, h8, h9, h18, h19, trivial⟩, h12, h13, h14, trivial⟩, h15, h16, h17, trivial⟩
set_option maxRecDepth 100000 in
set_option maxHeartbeats 2000000 in
theorem refScaled_v (k : Int)  : VC Try.prog 172 ([i64 k]) (bv (((k == 1 || k == 2) || k == 3) || k == 6 || k == 7)) := by
  exact VC.run (fn := Try.f172) (W := [.r [] [], .r [] [.op false, .op false, .sel 1, .op false, .op false, .sel 1, .op false, .op false, .sel 1, .op false, .op false, .sel 1]]) Try.func172 (by kernel_rfl) (.n)
def scaledB (k : Int) : Bool := ((k == 1 || k == 2) || k == 3) || k == 6 || k == 7
/-- Something is told that the kind does not tell. -/
def moreE (n : Nod) : Bool :=
  (!(n.kd == 1 || n.kd == 2 || n.kd == 3) && (decide ((n.w.length : Int) > 0) || decide ((n.b.length : Int) > 0)) || n.kd != 1 && n.kd != 3 && n.no != 0) ||
  (!(n.kd == 1 || n.kd == 2 || n.kd == 4 || n.kd == 5) && (n.nk != 0 || n.ns != 0) || !(n.kd == 1 || n.kd == 2 || n.kd == 4 || n.kd == 5) && n.kd != 8 && n.np != 0) ||
  (n.kd != 6 && (n.nb != 0 || n.zb != 0 || n.rm != 0 || n.rs != 0) || n.rz != 0) ||
  (!scaledB n.kd && (n.qm != 0 || n.qs != 0 || n.qz != 0 || n.lo != 0 || n.hi != 0)) || (!scaledB n.kd && n.kd != 8 && n.za != 0)
theorem moreE_last {n : Nod} (h0 : (!(n.kd == 1 || n.kd == 2 || n.kd == 3) && (decide (((List.map (row1 .i8) n.w).length : Int) > 0) || decide (((List.map (row1 .i32) n.b).length : Int) > 0)) || n.kd != 1 && n.kd != 3 && n.no != 0) = false) (h1 : (!(n.kd == 1 || n.kd == 2 || n.kd == 4 || n.kd == 5) && (n.nk != 0 || n.ns != 0) || !(n.kd == 1 || n.kd == 2 || n.kd == 4 || n.kd == 5) && n.kd != 8 && n.np != 0) = false) (h2 : (n.kd != 6 && (n.nb != 0 || n.zb != 0 || n.rm != 0 || n.rs != 0) || n.rz != 0) = false) (h3 : (!(n.kd == 1 || n.kd == 2 || n.kd == 3 || n.kd == 6 || n.kd == 7) && (n.qm != 0 || n.qs != 0 || n.qz != 0 || n.lo != 0 || n.hi != 0)) = false) : (!(n.kd == 1 || n.kd == 2 || n.kd == 3 || n.kd == 6 || n.kd == 7) && n.kd != 8 && n.za != 0) = moreE n := by
  rw [List.length_map, List.length_map] at h0
  unfold moreE scaledB
  rw [h0, h1, h2, h3]; rfl
theorem moreE_0 {n : Nod} (h0 : (!(n.kd == 1 || n.kd == 2 || n.kd == 3) && (decide (((List.map (row1 .i8) n.w).length : Int) > 0) || decide (((List.map (row1 .i32) n.b).length : Int) > 0)) || n.kd != 1 && n.kd != 3 && n.no != 0) = true) : true = moreE n := by
  rw [List.length_map, List.length_map] at h0
  unfold moreE
  rw [h0]; rfl
theorem moreE_1 {n : Nod} (h1 : (!(n.kd == 1 || n.kd == 2 || n.kd == 4 || n.kd == 5) && (n.nk != 0 || n.ns != 0) || !(n.kd == 1 || n.kd == 2 || n.kd == 4 || n.kd == 5) && n.kd != 8 && n.np != 0) = true) : true = moreE n := by
  unfold moreE
  rw [h1, Bool.or_true]; rfl
theorem moreE_2 {n : Nod} (h1 : (n.kd != 6 && (n.nb != 0 || n.zb != 0 || n.rm != 0 || n.rs != 0) || n.rz != 0) = true) : true = moreE n := by
  unfold moreE
  rw [h1, Bool.or_true]; rfl
theorem moreE_3 {n : Nod} (h1 : (!(n.kd == 1 || n.kd == 2 || n.kd == 3 || n.kd == 6 || n.kd == 7) && (n.qm != 0 || n.qs != 0 || n.qz != 0 || n.lo != 0 || n.hi != 0)) = true) : true = moreE n := by
  unfold moreE scaledB
  rw [h1, Bool.or_true]; rfl
set_option maxRecDepth 100000 in
set_option maxHeartbeats 2000000 in
theorem refMore_v (n : Nod) (hw : n.w.length ≤ 100000) (hb : n.b.length ≤ 100000) : VC Try.prog 171 ([nod n]) (bv (moreE n)) := by
  rcases Bool.eq_false_or_eq_true (!(n.kd == 1 || n.kd == 2 || n.kd == 3) && (decide ((↑(List.map (row1 IntKind.i8) n.w).length : Int) > 0) || decide ((↑(List.map (row1 IntKind.i32) n.b).length : Int) > 0)) || n.kd != 1 && n.kd != 3 && n.no != 0) with hc0 | hc0
  · have gc0 : ((¬n.kd = 1 ∧ ¬n.kd = 2) ∧ ¬n.kd = 3) ∧ ((↑(List.map (row1 IntKind.i8) n.w).length : Int) > 0 ∨ (↑(List.map (row1 IntKind.i32) n.b).length : Int) > 0) ∨ (¬n.kd = 1 ∧ ¬n.kd = 3) ∧ ¬n.no = 0 := by first | (simp only [Bool.or_eq_true, Bool.or_eq_false_iff, Bool.and_eq_true, Bool.and_eq_false_iff, Bool.not_eq_true', Bool.not_eq_false', decide_eq_true_eq, decide_eq_false_iff_not, beq_iff_eq, bne_iff_ne, ne_eq, beq_eq_false_iff_ne, bne_eq_false_iff_eq, eqNums, Bool.and_true] at hc0; first | exact hc0 | omega) | simpa using hc0 | (simp at hc0 ⊢; omega) | (apply Classical.byContradiction; intro hn; simp_all [eqNums]; done) | (apply Classical.byContradiction; intro hn; simp [eqNums] at hc0 hn; omega)
    exact (VC.run (fn := Try.f171) (W := [.r [] [], .r [] [], .r [] [.op false, .op false, .sel 1, .op false, .op false, .sel 1, .op false, .op false, .sel 1], .r [] [.op false, .op false, .sel 1, .op false, .op false, .sel 1], .r [] [.op false, .op false, .op false, .op false, .op false, .op false, .op false, .op false, .op false, .op false, .sel 1, .sel 2, .op false, .op false, .op false, .op false, .op false, .op false, .sel 2, .op false, .op false, .op false, .op false, .op false, .sel 2, .sel 1], .br true, .r [] []]) (r := bv true) Try.func171 (by kernel_rfl) (.c hc0 <| .n)).weak (WeakL.refl _) (Weak.bool (show ((true) : Bool) = (moreE n) from (by (exact moreE_0 (by assumption)))))
  · have gc0 : (((n.kd = 1 ∨ n.kd = 2) ∨ n.kd = 3) ∨ ¬(↑(List.map (row1 IntKind.i8) n.w).length : Int) > 0 ∧ ¬(↑(List.map (row1 IntKind.i32) n.b).length : Int) > 0) ∧ ((n.kd = 1 ∨ n.kd = 3) ∨ n.no = 0) := by first | (simp only [Bool.or_eq_true, Bool.or_eq_false_iff, Bool.and_eq_true, Bool.and_eq_false_iff, Bool.not_eq_true', Bool.not_eq_false', decide_eq_true_eq, decide_eq_false_iff_not, beq_iff_eq, bne_iff_ne, ne_eq, beq_eq_false_iff_ne, bne_eq_false_iff_eq, eqNums, Bool.and_true] at hc0; first | exact hc0 | omega) | simpa using hc0 | (simp at hc0 ⊢; omega) | (apply Classical.byContradiction; intro hn; simp_all [eqNums]; done) | (apply Classical.byContradiction; intro hn; simp [eqNums] at hc0 hn; omega)
    rcases Bool.eq_false_or_eq_true (!(n.kd == 1 || n.kd == 2 || n.kd == 4 || n.kd == 5) && (n.nk != 0 || n.ns != 0) || !(n.kd == 1 || n.kd == 2 || n.kd == 4 || n.kd == 5) && n.kd != 8 && n.np != 0) with hc1 | hc1
    · have gc1 : (((¬n.kd = 1 ∧ ¬n.kd = 2) ∧ ¬n.kd = 4) ∧ ¬n.kd = 5) ∧ (¬n.nk = 0 ∨ ¬n.ns = 0) ∨ ((((¬n.kd = 1 ∧ ¬n.kd = 2) ∧ ¬n.kd = 4) ∧ ¬n.kd = 5) ∧ ¬n.kd = 8) ∧ ¬n.np = 0 := by first | (simp only [Bool.or_eq_true, Bool.or_eq_false_iff, Bool.and_eq_true, Bool.and_eq_false_iff, Bool.not_eq_true', Bool.not_eq_false', decide_eq_true_eq, decide_eq_false_iff_not, beq_iff_eq, bne_iff_ne, ne_eq, beq_eq_false_iff_ne, bne_eq_false_iff_eq, eqNums, Bool.and_true] at hc1; first | exact hc1 | omega) | simpa using hc1 | (simp at hc1 ⊢; omega) | (apply Classical.byContradiction; intro hn; simp_all [eqNums]; done) | (apply Classical.byContradiction; intro hn; simp [eqNums] at hc1 hn; omega)
      exact (VC.run (fn := Try.f171) (W := [.r [] [], .r [] [], .r [] [.op false, .op false, .sel 1, .op false, .op false, .sel 1, .op false, .op false, .sel 1], .r [] [.op false, .op false, .sel 1, .op false, .op false, .sel 1], .r [] [.op false, .op false, .op false, .op false, .op false, .op false, .op false, .op false, .op false, .op false, .sel 1, .sel 2, .op false, .op false, .op false, .op false, .op false, .op false, .sel 2, .op false, .op false, .op false, .op false, .op false, .sel 2, .sel 1], .br false, .r [] [.op false, .op false, .op false, .op false, .op false, .op false, .op false, .op false, .sel 1, .sel 2, .op false, .op false, .op false, .op false, .op false, .op false, .sel 2, .op false, .op false, .op false, .op false, .op false, .sel 2, .sel 1], .br true, .r [] []]) (r := bv true) Try.func171 (by kernel_rfl) (.c hc0 <| .c hc1 <| .n)).weak (WeakL.refl _) (Weak.bool (show ((true) : Bool) = (moreE n) from (by (exact moreE_1 (by assumption)))))
    · have gc1 : ((((n.kd = 1 ∨ n.kd = 2) ∨ n.kd = 4) ∨ n.kd = 5) ∨ n.nk = 0 ∧ n.ns = 0) ∧ (((((n.kd = 1 ∨ n.kd = 2) ∨ n.kd = 4) ∨ n.kd = 5) ∨ n.kd = 8) ∨ n.np = 0) := by first | (simp only [Bool.or_eq_true, Bool.or_eq_false_iff, Bool.and_eq_true, Bool.and_eq_false_iff, Bool.not_eq_true', Bool.not_eq_false', decide_eq_true_eq, decide_eq_false_iff_not, beq_iff_eq, bne_iff_ne, ne_eq, beq_eq_false_iff_ne, bne_eq_false_iff_eq, eqNums, Bool.and_true] at hc1; first | exact hc1 | omega) | simpa using hc1 | (simp at hc1 ⊢; omega) | (apply Classical.byContradiction; intro hn; simp_all [eqNums]; done) | (apply Classical.byContradiction; intro hn; simp [eqNums] at hc1 hn; omega)
      rcases Bool.eq_false_or_eq_true (n.kd != 6 && (n.nb != 0 || n.zb != 0 || n.rm != 0 || n.rs != 0) || n.rz != 0) with hc2 | hc2
      · have gc2 : ¬n.kd = 6 ∧ (((¬n.nb = 0 ∨ ¬n.zb = 0) ∨ ¬n.rm = 0) ∨ ¬n.rs = 0) ∨ ¬n.rz = 0 := by first | (simp only [Bool.or_eq_true, Bool.or_eq_false_iff, Bool.and_eq_true, Bool.and_eq_false_iff, Bool.not_eq_true', Bool.not_eq_false', decide_eq_true_eq, decide_eq_false_iff_not, beq_iff_eq, bne_iff_ne, ne_eq, beq_eq_false_iff_ne, bne_eq_false_iff_eq, eqNums, Bool.and_true] at hc2; first | exact hc2 | omega) | simpa using hc2 | (simp at hc2 ⊢; omega) | (apply Classical.byContradiction; intro hn; simp_all [eqNums]; done) | (apply Classical.byContradiction; intro hn; simp [eqNums] at hc2 hn; omega)
        exact (VC.run (fn := Try.f171) (W := [.r [] [], .r [] [], .r [] [.op false, .op false, .sel 1, .op false, .op false, .sel 1, .op false, .op false, .sel 1], .r [] [.op false, .op false, .sel 1, .op false, .op false, .sel 1], .r [] [.op false, .op false, .op false, .op false, .op false, .op false, .op false, .op false, .op false, .op false, .sel 1, .sel 2, .op false, .op false, .op false, .op false, .op false, .op false, .sel 2, .op false, .op false, .op false, .op false, .op false, .sel 2, .sel 1], .br false, .r [] [.op false, .op false, .op false, .op false, .op false, .op false, .op false, .op false, .sel 1, .sel 2, .op false, .op false, .op false, .op false, .op false, .op false, .sel 2, .op false, .op false, .op false, .op false, .op false, .sel 2, .sel 1], .br false, .r [] [.op false, .op false, .op false, .op false, .op false, .op false, .op false, .op false, .sel 1, .op false, .op false, .op false, .op false, .op false, .op false, .sel 1, .op false, .op false, .op false, .op false, .op false, .op false, .sel 1, .sel 2, .op false, .op false, .op false, .op false, .sel 1], .br true, .r [] []]) (r := bv true) Try.func171 (by kernel_rfl) (.c hc0 <| .c hc1 <| .c hc2 <| .n)).weak (WeakL.refl _) (Weak.bool (show ((true) : Bool) = (moreE n) from (by (exact moreE_2 (by assumption)))))
      · have gc2 : (n.kd = 6 ∨ ((n.nb = 0 ∧ n.zb = 0) ∧ n.rm = 0) ∧ n.rs = 0) ∧ n.rz = 0 := by first | (simp only [Bool.or_eq_true, Bool.or_eq_false_iff, Bool.and_eq_true, Bool.and_eq_false_iff, Bool.not_eq_true', Bool.not_eq_false', decide_eq_true_eq, decide_eq_false_iff_not, beq_iff_eq, bne_iff_ne, ne_eq, beq_eq_false_iff_ne, bne_eq_false_iff_eq, eqNums, Bool.and_true] at hc2; first | exact hc2 | omega) | simpa using hc2 | (simp at hc2 ⊢; omega) | (apply Classical.byContradiction; intro hn; simp_all [eqNums]; done) | (apply Classical.byContradiction; intro hn; simp [eqNums] at hc2 hn; omega)
        have oz3 := @refScaled_v (n.kd)
        rcases Bool.eq_false_or_eq_true (!(n.kd == 1 || n.kd == 2 || n.kd == 3 || n.kd == 6 || n.kd == 7) && (n.qm != 0 || n.qs != 0 || n.qz != 0 || n.lo != 0 || n.hi != 0)) with hc3 | hc3
        · have gc3 : ((((¬n.kd = 1 ∧ ¬n.kd = 2) ∧ ¬n.kd = 3) ∧ ¬n.kd = 6) ∧ ¬n.kd = 7) ∧ ((((¬n.qm = 0 ∨ ¬n.qs = 0) ∨ ¬n.qz = 0) ∨ ¬n.lo = 0) ∨ ¬n.hi = 0) := by first | (simp only [Bool.or_eq_true, Bool.or_eq_false_iff, Bool.and_eq_true, Bool.and_eq_false_iff, Bool.not_eq_true', Bool.not_eq_false', decide_eq_true_eq, decide_eq_false_iff_not, beq_iff_eq, bne_iff_ne, ne_eq, beq_eq_false_iff_ne, bne_eq_false_iff_eq, eqNums, Bool.and_true] at hc3; first | exact hc3 | omega) | simpa using hc3 | (simp at hc3 ⊢; omega) | (apply Classical.byContradiction; intro hn; simp_all [eqNums]; done) | (apply Classical.byContradiction; intro hn; simp [eqNums] at hc3 hn; omega)
          exact (VC.run (fn := Try.f171) (W := [.r [] [], .r [] [], .r [] [.op false, .op false, .sel 1, .op false, .op false, .sel 1, .op false, .op false, .sel 1], .r [] [.op false, .op false, .sel 1, .op false, .op false, .sel 1], .r [] [.op false, .op false, .op false, .op false, .op false, .op false, .op false, .op false, .op false, .op false, .sel 1, .sel 2, .op false, .op false, .op false, .op false, .op false, .op false, .sel 2, .op false, .op false, .op false, .op false, .op false, .sel 2, .sel 1], .br false, .r [] [.op false, .op false, .op false, .op false, .op false, .op false, .op false, .op false, .sel 1, .sel 2, .op false, .op false, .op false, .op false, .op false, .op false, .sel 2, .op false, .op false, .op false, .op false, .op false, .sel 2, .sel 1], .br false, .r [] [.op false, .op false, .op false, .op false, .op false, .op false, .op false, .op false, .sel 1, .op false, .op false, .op false, .op false, .op false, .op false, .sel 1, .op false, .op false, .op false, .op false, .op false, .op false, .sel 1, .sel 2, .op false, .op false, .op false, .op false, .sel 1], .br false, .r [] [.callr (rO oz3), .op false, .op false, .op false, .op false, .op false, .op false, .op false, .op false, .op false, .op false, .sel 1, .op false, .op false, .op false, .op false, .op false, .op false, .sel 1, .op false, .op false, .op false, .op false, .op false, .sel 1, .op false, .op false, .op false, .op false, .op false, .sel 1, .sel 2], .br true, .r [] []]) (r := bv true) Try.func171 (by kernel_rfl) (.c hc0 <| .c hc1 <| .c hc2 <| .c oz3 <| .c hc3 <| .n)).weak (WeakL.refl _) (Weak.bool (show ((true) : Bool) = (moreE n) from (by (exact moreE_3 (by assumption)))))
        · have gc3 : ((((n.kd = 1 ∨ n.kd = 2) ∨ n.kd = 3) ∨ n.kd = 6) ∨ n.kd = 7) ∨ (((n.qm = 0 ∧ n.qs = 0) ∧ n.qz = 0) ∧ n.lo = 0) ∧ n.hi = 0 := by first | (simp only [Bool.or_eq_true, Bool.or_eq_false_iff, Bool.and_eq_true, Bool.and_eq_false_iff, Bool.not_eq_true', Bool.not_eq_false', decide_eq_true_eq, decide_eq_false_iff_not, beq_iff_eq, bne_iff_ne, ne_eq, beq_eq_false_iff_ne, bne_eq_false_iff_eq, eqNums, Bool.and_true] at hc3; first | exact hc3 | omega) | simpa using hc3 | (simp at hc3 ⊢; omega) | (apply Classical.byContradiction; intro hn; simp_all [eqNums]; done) | (apply Classical.byContradiction; intro hn; simp [eqNums] at hc3 hn; omega)
          exact (VC.run (fn := Try.f171) (W := [.r [] [], .r [] [], .r [] [.op false, .op false, .sel 1, .op false, .op false, .sel 1, .op false, .op false, .sel 1], .r [] [.op false, .op false, .sel 1, .op false, .op false, .sel 1], .r [] [.op false, .op false, .op false, .op false, .op false, .op false, .op false, .op false, .op false, .op false, .sel 1, .sel 2, .op false, .op false, .op false, .op false, .op false, .op false, .sel 2, .op false, .op false, .op false, .op false, .op false, .sel 2, .sel 1], .br false, .r [] [.op false, .op false, .op false, .op false, .op false, .op false, .op false, .op false, .sel 1, .sel 2, .op false, .op false, .op false, .op false, .op false, .op false, .sel 2, .op false, .op false, .op false, .op false, .op false, .sel 2, .sel 1], .br false, .r [] [.op false, .op false, .op false, .op false, .op false, .op false, .op false, .op false, .sel 1, .op false, .op false, .op false, .op false, .op false, .op false, .sel 1, .op false, .op false, .op false, .op false, .op false, .op false, .sel 1, .sel 2, .op false, .op false, .op false, .op false, .sel 1], .br false, .r [] [.callr (rO oz3), .op false, .op false, .op false, .op false, .op false, .op false, .op false, .op false, .op false, .op false, .sel 1, .op false, .op false, .op false, .op false, .op false, .op false, .sel 1, .op false, .op false, .op false, .op false, .op false, .sel 1, .op false, .op false, .op false, .op false, .op false, .sel 1, .sel 2], .br false, .r [] [.callr (rO oz3), .op false, .op false, .sel 2, .op false, .op false, .op false, .sel 2]]) (r := bv (!(n.kd == 1 || n.kd == 2 || n.kd == 3 || n.kd == 6 || n.kd == 7) && n.kd != 8 && n.za != 0)) Try.func171 (by kernel_rfl) (.c hc0 <| .c hc1 <| .c hc2 <| .c oz3 <| .c hc3 <| .c oz3 <| .n)).weak (WeakL.refl _) (Weak.bool (show ((!(n.kd == 1 || n.kd == 2 || n.kd == 3 || n.kd == 6 || n.kd == 7) && n.kd != 8 && n.za != 0) : Bool) = (moreE n) from (by (exact moreE_last (by assumption) (by assumption) (by assumption) (by assumption)))))
/-- What is wrong with a node. -/
def checkE (n : Nod) : Int := if n.kd < 1 ∨ 9 < n.kd then 6 else if moreE n = true then 2 else if (scaledB n.kd && !rightQ n.qm n.qs || n.kd == 6 && !rightQ n.rm n.rs) = true then 7 else if (scaledB n.kd && decide (n.lo > n.hi)) = true then 2 else 0
end Go.Proofs.Ytgecmooedhnenaa

/- What is wrong with a node. No condition. -/
namespace Go.Proofs.Ytgecmooedhnenaa
open Go.RowKit
set_option linter.unusedSimpArgs false
set_option linter.unusedVariables false
set_option linter.unnecessarySimpa false

/-- A node is as its kind tells alone if, and only if, it tells no more. -/
theorem more1 (n : Nod) (h : n.kd = 1) : n = (⟨n.kd, n.na, 0, n.nk, n.ns, n.np, n.no, n.za, 0, n.w, n.b, n.qm, n.qs, n.qz, 0, 0, 0, n.lo, n.hi⟩ : Nod) ↔ moreE n = false := by
  unfold moreE scaledB
  cases n
  simp only at h
  subst h
  simp only [Nod.mk.injEq, true_and, and_true, Bool.or_eq_false_iff, Bool.and_eq_false_iff, bne_eq_false_iff_eq, beq_self_eq_true, Bool.true_or, Bool.or_true, Bool.not_true, Bool.false_and, Bool.or_false, Bool.and_false, true_or, or_true, and_self, Bool.or_self, Bool.false_or, Bool.not_eq_false', decide_eq_false_iff_not, Int.reduceBEq, Int.reduceBNe, Int.reduceEq, Bool.not_false, Bool.true_and, Bool.and_true, false_or, or_false, Int.not_lt, gt_iff_lt, Bool.false_eq_true, Bool.true_eq_false, Int.natCast_nonpos_iff, List.length_eq_zero_iff]
  first | done | (constructor <;> intro h <;> simp_all) | omega
theorem ck_eq {n : Nod} (h0 : 1 ≤ n.kd) (h9 : n.kd ≤ 9) : checkE n = if moreE n = true then 2 else if (((n.kd == 1 || n.kd == 2 || n.kd == 3 || n.kd == 6 || n.kd == 7) && !rightQ n.qm n.qs) || (n.kd == 6 && !rightQ n.rm n.rs)) = true then 7 else if ((n.kd == 1 || n.kd == 2 || n.kd == 3 || n.kd == 6 || n.kd == 7) && decide (n.lo > n.hi)) = true then 2 else 0 := by
  unfold checkE; rw [if_neg (by omega)]; rfl
theorem ck2 {n : Nod} (h0 : 1 ≤ n.kd) (h9 : n.kd ≤ 9) (h : moreE n = true) : 2 = checkE n := by rw [ck_eq h0 h9, if_pos h]
theorem ck7 {n : Nod} (h0 : 1 ≤ n.kd) (h9 : n.kd ≤ 9) (h : moreE n = false) (q : (((n.kd == 1 || n.kd == 2 || n.kd == 3 || n.kd == 6 || n.kd == 7) && !rightQ n.qm n.qs) || (n.kd == 6 && !rightQ n.rm n.rs)) = true) : 7 = checkE n := by rw [ck_eq h0 h9, if_neg (by simp [h]), if_pos q]
theorem ck2b {n : Nod} (h0 : 1 ≤ n.kd) (h9 : n.kd ≤ 9) (h : moreE n = false) (q : (((n.kd == 1 || n.kd == 2 || n.kd == 3 || n.kd == 6 || n.kd == 7) && !rightQ n.qm n.qs) || (n.kd == 6 && !rightQ n.rm n.rs)) = false) (l : ((n.kd == 1 || n.kd == 2 || n.kd == 3 || n.kd == 6 || n.kd == 7) && decide (n.lo > n.hi)) = true) : 2 = checkE n := by rw [ck_eq h0 h9, if_neg (by simp [h]), if_neg (by rw [q]; simp), if_pos l]
theorem ck0 {n : Nod} (h0 : 1 ≤ n.kd) (h9 : n.kd ≤ 9) (h : moreE n = false) (q : (((n.kd == 1 || n.kd == 2 || n.kd == 3 || n.kd == 6 || n.kd == 7) && !rightQ n.qm n.qs) || (n.kd == 6 && !rightQ n.rm n.rs)) = false) (l : ((n.kd == 1 || n.kd == 2 || n.kd == 3 || n.kd == 6 || n.kd == 7) && decide (n.lo > n.hi)) = false) : 0 = checkE n := by rw [ck_eq h0 h9, if_neg (by simp [h]), if_neg (by rw [q]; simp), if_neg (by rw [l]; simp)]
theorem nq {n : Nod} {b : Bool} (h2 : nodEq n (plainN n) = !moreE n) (h : (!nodEq n (plainN n)) = b) : moreE n = b := by rw [← h, h2, Bool.not_not]
set_option maxRecDepth 100000 in
set_option maxHeartbeats 2000000 in
theorem refCheck_n (n : Nod) (hk : In64 n.kd) (hn : n.kd < 1 ∨ 9 < n.kd) : VC Try.prog 106 ([nod n]) (i64 (checkE n)) := by
  have h2 := nameEq_out hn
  have oz0 := @refName_v (n.kd) hk
  exact (VC.run (fn := Try.f106) (W := [.r [] [], .r [] [.callr (rO oz0)], .br true, .r [] []]) (r := i64 6) Try.func106 (by kernel_rfl) (.c oz0 <| .c h2 <| .n)).to (by (simp only [checkE]; rw [if_pos hn]))

set_option maxRecDepth 100000 in
set_option maxHeartbeats 2000000 in
theorem refCheck_y (n : Nod) (hw : n.w.length ≤ 100000) (hb : n.b.length ≤ 100000) (hk : 1 ≤ n.kd) (hk9 : n.kd ≤ 9) : VC Try.prog 106 ([nod n]) (i64 (checkE n)) := by
  have h1 := nameEq_in hk hk9
  have oz0 := @refName_v (n.kd) (by omega)
  have oz2 := @refMore_v (n) hw hb
  rcases Bool.eq_false_or_eq_true (moreE n) with hc0 | hc0
  · have gc0 : moreE n = true := by first | exact hc0 | exact of_decide_eq_true hc0 | exact of_decide_eq_false hc0 | simpa [eqNums] using hc0 | (simp [eqNums] at hc0 ⊢; first | done | assumption | omega)
    exact (VC.run (fn := Try.f106) (W := [.r [] [], .r [] [.callr (rO oz0)], .br false, .r [] [.callr (rO oz2)], .br true, .r [] []]) (r := i64 2) Try.func106 (by kernel_rfl) (.c oz0 <| .c h1 <| .c oz2 <| .c hc0 <| .n)).weak (WeakL.refl _) (Weak.int (show ((2) : Int) = (checkE n) from (by (exact ck2 hk hk9 (by assumption)))))
  · have gc0 : moreE n = false := by first | exact hc0 | exact of_decide_eq_true hc0 | exact of_decide_eq_false hc0 | simpa [eqNums] using hc0 | (simp [eqNums] at hc0 ⊢; first | done | assumption | omega)
    have oz4 := @refScaled_v (n.kd)
    have oz5 := @refRight_v (n.qm) (n.qs) (n.qz)
    have oz6 := @refRight_v (n.rm) (n.rs) (n.rz)
    rcases Bool.eq_false_or_eq_true ((n.kd == 1 || n.kd == 2 || n.kd == 3 || n.kd == 6 || n.kd == 7) && !rightQ n.qm n.qs || n.kd == 6 && !rightQ n.rm n.rs) with hc1 | hc1
    · have gc1 : ((((n.kd = 1 ∨ n.kd = 2) ∨ n.kd = 3) ∨ n.kd = 6) ∨ n.kd = 7) ∧ rightQ n.qm n.qs = false ∨ n.kd = 6 ∧ rightQ n.rm n.rs = false := by first | (simp only [Bool.or_eq_true, Bool.or_eq_false_iff, Bool.and_eq_true, Bool.and_eq_false_iff, Bool.not_eq_true', Bool.not_eq_false', decide_eq_true_eq, decide_eq_false_iff_not, beq_iff_eq, bne_iff_ne, ne_eq, beq_eq_false_iff_ne, bne_eq_false_iff_eq, eqNums, Bool.and_true] at hc1; first | exact hc1 | omega) | simpa using hc1 | (simp at hc1 ⊢; omega) | (apply Classical.byContradiction; intro hn; simp_all [eqNums]; done) | (apply Classical.byContradiction; intro hn; simp [eqNums] at hc1 hn; omega)
      exact (VC.run (fn := Try.f106) (W := [.r [] [], .r [] [.callr (rO oz0)], .br false, .r [] [.callr (rO oz2)], .br false, .r [] [.callr (rO oz4), .op false, .op false, .op false, .callr (rO oz5), .op false, .sel 2, .op false, .op false, .op false, .op false, .op false, .op false, .op false, .callr (rO oz6), .op false, .op false, .sel 2, .sel 1], .br true, .r [] []]) (r := i64 7) Try.func106 (by kernel_rfl) (.c oz0 <| .c h1 <| .c oz2 <| .c hc0 <| .c oz4 <| .c oz5 <| .c oz6 <| .c hc1 <| .n)).weak (WeakL.refl _) (Weak.int (show ((7) : Int) = (checkE n) from (by (exact ck7 hk hk9 (by assumption) (by assumption)))))
    · have gc1 : ((((¬n.kd = 1 ∧ ¬n.kd = 2) ∧ ¬n.kd = 3) ∧ ¬n.kd = 6) ∧ ¬n.kd = 7 ∨ rightQ n.qm n.qs = true) ∧ (¬n.kd = 6 ∨ rightQ n.rm n.rs = true) := by first | (simp only [Bool.or_eq_true, Bool.or_eq_false_iff, Bool.and_eq_true, Bool.and_eq_false_iff, Bool.not_eq_true', Bool.not_eq_false', decide_eq_true_eq, decide_eq_false_iff_not, beq_iff_eq, bne_iff_ne, ne_eq, beq_eq_false_iff_ne, bne_eq_false_iff_eq, eqNums, Bool.and_true] at hc1; first | exact hc1 | omega) | simpa using hc1 | (simp at hc1 ⊢; omega) | (apply Classical.byContradiction; intro hn; simp_all [eqNums]; done) | (apply Classical.byContradiction; intro hn; simp [eqNums] at hc1 hn; omega)
      rcases Bool.eq_false_or_eq_true ((n.kd == 1 || n.kd == 2 || n.kd == 3 || n.kd == 6 || n.kd == 7) && decide (n.lo > n.hi)) with hc2 | hc2
      · have gc2 : ((((n.kd = 1 ∨ n.kd = 2) ∨ n.kd = 3) ∨ n.kd = 6) ∨ n.kd = 7) ∧ n.lo > n.hi := by first | (simp only [Bool.or_eq_true, Bool.or_eq_false_iff, Bool.and_eq_true, Bool.and_eq_false_iff, Bool.not_eq_true', Bool.not_eq_false', decide_eq_true_eq, decide_eq_false_iff_not, beq_iff_eq, bne_iff_ne, ne_eq, beq_eq_false_iff_ne, bne_eq_false_iff_eq, eqNums, Bool.and_true] at hc2; first | exact hc2 | omega) | simpa using hc2 | (simp at hc2 ⊢; omega) | (apply Classical.byContradiction; intro hn; simp_all [eqNums]; done) | (apply Classical.byContradiction; intro hn; simp [eqNums] at hc2 hn; omega)
        exact (VC.run (fn := Try.f106) (W := [.r [] [], .r [] [.callr (rO oz0)], .br false, .r [] [.callr (rO oz2)], .br false, .r [] [.callr (rO oz4), .op false, .op false, .op false, .callr (rO oz5), .op false, .sel 2, .op false, .op false, .op false, .op false, .op false, .op false, .op false, .callr (rO oz6), .op false, .op false, .sel 2, .sel 1], .br false, .r [] [.callr (rO oz4), .op false, .op false, .op false, .op false, .op false, .sel 2], .br true, .r [] []]) (r := i64 2) Try.func106 (by kernel_rfl) (.c oz0 <| .c h1 <| .c oz2 <| .c hc0 <| .c oz4 <| .c oz5 <| .c oz6 <| .c hc1 <| .c oz4 <| .c hc2 <| .n)).weak (WeakL.refl _) (Weak.int (show ((2) : Int) = (checkE n) from (by (exact ck2b hk hk9 (by assumption) (by assumption) (by assumption)))))
      · have gc2 : (((¬n.kd = 1 ∧ ¬n.kd = 2) ∧ ¬n.kd = 3) ∧ ¬n.kd = 6) ∧ ¬n.kd = 7 ∨ ¬n.lo > n.hi := by first | (simp only [Bool.or_eq_true, Bool.or_eq_false_iff, Bool.and_eq_true, Bool.and_eq_false_iff, Bool.not_eq_true', Bool.not_eq_false', decide_eq_true_eq, decide_eq_false_iff_not, beq_iff_eq, bne_iff_ne, ne_eq, beq_eq_false_iff_ne, bne_eq_false_iff_eq, eqNums, Bool.and_true] at hc2; first | exact hc2 | omega) | simpa using hc2 | (simp at hc2 ⊢; omega) | (apply Classical.byContradiction; intro hn; simp_all [eqNums]; done) | (apply Classical.byContradiction; intro hn; simp [eqNums] at hc2 hn; omega)
        exact (VC.run (fn := Try.f106) (W := [.r [] [], .r [] [.callr (rO oz0)], .br false, .r [] [.callr (rO oz2)], .br false, .r [] [.callr (rO oz4), .op false, .op false, .op false, .callr (rO oz5), .op false, .sel 2, .op false, .op false, .op false, .op false, .op false, .op false, .op false, .callr (rO oz6), .op false, .op false, .sel 2, .sel 1], .br false, .r [] [.callr (rO oz4), .op false, .op false, .op false, .op false, .op false, .sel 2], .br false, .r [] []]) (r := i64 0) Try.func106 (by kernel_rfl) (.c oz0 <| .c h1 <| .c oz2 <| .c hc0 <| .c oz4 <| .c oz5 <| .c oz6 <| .c hc1 <| .c oz4 <| .c hc2 <| .n)).weak (WeakL.refl _) (Weak.int (show ((0) : Int) = (checkE n) from (by (exact ck0 hk hk9 (by assumption) (by assumption) (by assumption)))))
theorem refCheck_v (n : Nod) (hw : n.w.length ≤ 100000) (hb : n.b.length ≤ 100000) (hk : In64 n.kd) : VC Try.prog 106 [nod n] (i64 (checkE n)) := by
  by_cases h : n.kd < 1 ∨ 9 < n.kd
  · exact refCheck_n n hk h
  · exact refCheck_y n hw hb (by omega) (by omega)
end Go.Proofs.Ytgecmooedhnenaa

/- The shape of what any node makes. No condition. -/
namespace Go.Proofs.Ytgecmooedhnenaa
open Go.RowKit
set_option linter.unusedSimpArgs false
set_option linter.unusedVariables false
set_option linter.unnecessarySimpa false

/-- A shape with more around it. -/
def aroundE (a : Shp) (p : Int) : Shp × Int := if p < 0 ∨ 4 < p then (⟨0, 0, 0⟩, 2) else if elems (a.h + 2 * p) (a.x + 2 * p) a.c = 0 then (⟨0, 0, 0⟩, 5) else (⟨a.h + 2 * p, a.x + 2 * p, a.c⟩, 0)
/-- The shape of what a node makes of one shape, or of two. -/
def shapeE (n : Nod) (a b : Shp) : Shp × Int :=
  if n.kd = 1 then convE a n else if n.kd = 2 then depthE a n else if n.kd = 3 then denseE a n else if n.kd = 4 ∨ n.kd = 5 then slideE a n.nk n.ns n.np a.c
  else if n.kd < 1 ∨ 9 < n.kd then (⟨0, 0, 0⟩, 6) else if elems a.h a.x a.c = 0 ∨ (n.kd = 6 ∧ ¬(a.h = b.h ∧ a.x = b.x ∧ a.c = b.c)) then (⟨0, 0, 0⟩, 5)
  else if n.kd = 9 then (⟨1, 1, elems a.h a.x a.c⟩, 0) else if n.kd = 8 then
    aroundE a n.np else (a, 0)
set_option maxRecDepth 100000 in
set_option maxHeartbeats 2000000 in
theorem around_v (a : Shp) (p : Int) (ok : a.Ok) (h0 : 0 < elems a.h a.x a.c) : VC Try.prog 235 ([shp a, i64 p]) (.tup [shp (aroundE a p).1, i64 (aroundE a p).2]) := by
  have q := elems_ok h0
  have q2 := elems_in (a.h + 2 * p) (a.x + 2 * p) a.c
  have q3 := ok.c
  rcases Bool.eq_false_or_eq_true (decide (p < 0) || decide (p > 4)) with hc0 | hc0
  · have gc0 : p < 0 ∨ p > 4 := by first | (simp only [Bool.or_eq_true, Bool.or_eq_false_iff, Bool.and_eq_true, Bool.and_eq_false_iff, Bool.not_eq_true', Bool.not_eq_false', decide_eq_true_eq, decide_eq_false_iff_not, beq_iff_eq, bne_iff_ne, ne_eq, beq_eq_false_iff_ne, bne_eq_false_iff_eq, eqNums, Bool.and_true] at hc0; first | exact hc0 | omega) | simpa using hc0 | (simp at hc0 ⊢; omega) | (apply Classical.byContradiction; intro hn; simp_all [eqNums]; done) | (apply Classical.byContradiction; intro hn; simp [eqNums] at hc0 hn; omega)
    exact (VC.run (fn := Try.f235) (W := [.r [] [], .r [] [.op false, .op false, .sel 1], .br true, .r [] []]) (r := AV.tup [AV.agg [i64 0, i64 0, i64 0], i64 2]) Try.func235 (by kernel_rfl) (.c hc0 <| .n)).weak (WeakL.refl _) (Weak.tup (.cons (Weak.agg (.cons (Weak.int (show ((0) : Int) = ((aroundE a p).fst.h) from (by (unfold aroundE; (repeat first | rw [if_pos (by omega)] | rw [if_neg (by omega)]))))) (.cons (Weak.int (show ((0) : Int) = ((aroundE a p).fst.x) from (by (unfold aroundE; (repeat first | rw [if_pos (by omega)] | rw [if_neg (by omega)]))))) (.cons (Weak.int (show ((0) : Int) = ((aroundE a p).fst.c) from (by (unfold aroundE; (repeat first | rw [if_pos (by omega)] | rw [if_neg (by omega)]))))) .nil)))) (.cons (Weak.int (show ((2) : Int) = ((aroundE a p).snd) from (by (unfold aroundE; (repeat first | rw [if_pos (by omega)] | rw [if_neg (by omega)]))))) .nil)))
  · have gc0 : ¬p < 0 ∧ ¬p > 4 := by first | (simp only [Bool.or_eq_true, Bool.or_eq_false_iff, Bool.and_eq_true, Bool.and_eq_false_iff, Bool.not_eq_true', Bool.not_eq_false', decide_eq_true_eq, decide_eq_false_iff_not, beq_iff_eq, bne_iff_ne, ne_eq, beq_eq_false_iff_ne, bne_eq_false_iff_eq, eqNums, Bool.and_true] at hc0; first | exact hc0 | omega) | simpa using hc0 | (simp at hc0 ⊢; omega) | (apply Classical.byContradiction; intro hn; simp_all [eqNums]; done) | (apply Classical.byContradiction; intro hn; simp [eqNums] at hc0 hn; omega)
    have oz1 := (IntWalk.i64_in (2 * p) (by omega))
    have oz2 := (IntWalk.i64_in (a.h + 2 * p) (by omega))
    have oz4 := (IntWalk.i64_in (a.x + 2 * p) (by omega))
    have oz5 := @sRight_v (Shp.mk (a.h + 2 * p) (a.x + 2 * p) a.c) (by (exact Shp.mk_ok ⟨by omega, by omega⟩ ⟨by omega, by omega⟩ q3))
    rcases Bool.eq_false_or_eq_true (!decide (0 < elems (a.h + 2 * p) (a.x + 2 * p) a.c)) with hc1 | hc1
    · have gc1 := bnt hc1
      exact (VC.run (fn := Try.f235) (W := [.r [] [], .r [] [.op false, .op false, .sel 1], .br false, .r [] [.n (nO oz1), .n (nO oz2), .n (nO oz1), .n (nO oz4)], .r [] [.callr (rO oz5)], .br true, .r [] []]) (r := AV.tup [AV.agg [i64 0, i64 0, i64 0], i64 5]) Try.func235 (by kernel_rfl) (.c hc0 <| .c oz1 <| .c oz2 <| .c oz1 <| .c oz4 <| .c oz5 <| .c hc1 <| .n)).weak (WeakL.refl _) (Weak.tup (.cons (Weak.agg (.cons (Weak.int (show ((0) : Int) = ((aroundE a p).fst.h) from (by (unfold aroundE; (repeat first | rw [if_pos (by omega)] | rw [if_neg (by omega)]))))) (.cons (Weak.int (show ((0) : Int) = ((aroundE a p).fst.x) from (by (unfold aroundE; (repeat first | rw [if_pos (by omega)] | rw [if_neg (by omega)]))))) (.cons (Weak.int (show ((0) : Int) = ((aroundE a p).fst.c) from (by (unfold aroundE; (repeat first | rw [if_pos (by omega)] | rw [if_neg (by omega)]))))) .nil)))) (.cons (Weak.int (show ((5) : Int) = ((aroundE a p).snd) from (by (unfold aroundE; (repeat first | rw [if_pos (by omega)] | rw [if_neg (by omega)]))))) .nil)))
    · have gc1 := bnf hc1
      exact (VC.run (fn := Try.f235) (W := [.r [] [], .r [] [.op false, .op false, .sel 1], .br false, .r [] [.n (nO oz1), .n (nO oz2), .n (nO oz1), .n (nO oz4)], .r [] [.callr (rO oz5)], .br false, .r [] []]) (r := AV.tup [AV.agg [i64 (a.h + 2 * p), i64 (a.x + 2 * p), i64 a.c], i64 0]) Try.func235 (by kernel_rfl) (.c hc0 <| .c oz1 <| .c oz2 <| .c oz1 <| .c oz4 <| .c oz5 <| .c hc1 <| .n)).weak (WeakL.refl _) (Weak.tup (.cons (Weak.agg (.cons (Weak.int (show ((a.h + 2 * p) : Int) = ((aroundE a p).fst.h) from (by (unfold aroundE; (repeat first | rw [if_pos (by omega)] | rw [if_neg (by omega)]))))) (.cons (Weak.int (show ((a.x + 2 * p) : Int) = ((aroundE a p).fst.x) from (by (unfold aroundE; (repeat first | rw [if_pos (by omega)] | rw [if_neg (by omega)]))))) (.cons (Weak.int (show ((a.c) : Int) = ((aroundE a p).fst.c) from (by (unfold aroundE; (repeat first | rw [if_pos (by omega)] | rw [if_neg (by omega)]))))) .nil)))) (.cons (Weak.int (show ((0) : Int) = ((aroundE a p).snd) from (by (unfold aroundE; (repeat first | rw [if_pos (by omega)] | rw [if_neg (by omega)]))))) .nil)))

set_option maxRecDepth 100000 in
set_option maxHeartbeats 2000000 in
theorem plainShape_v (n : Nod) (a b : Shp) (ok : a.Ok) (okb : b.Ok) (hk : 6 ≤ n.kd) (hk9 : n.kd ≤ 9) : VC Try.prog 228 ([nod n, shp a, shp b]) (.tup [shp (shapeE n a b).1, i64 (shapeE n a b).2]) := by
  obtain ⟨p1, p2, p3⟩ := id ok
  have q2 := elems_in a.h a.x a.c
  have oz0 := @sRight_v (a) ok
  rcases Bool.eq_false_or_eq_true (!decide (0 < elems a.h a.x a.c)) with hc0 | hc0
  · have gc0 := bnt hc0
    exact (VC.run (fn := Try.f228) (W := [.r [] [], .r [] [.callr (rO oz0)], .br true, .r [] []]) (r := AV.tup [AV.agg [i64 0, i64 0, i64 0], i64 5]) Try.func228 (by kernel_rfl) (.c oz0 <| .c hc0 <| .n)).weak (WeakL.refl _) (Weak.tup (.cons (Weak.agg (.cons (Weak.int (show ((0) : Int) = ((shapeE n a b).fst.h) from (by (unfold shapeE; (repeat first | rw [if_pos (by omega)] | rw [if_neg (by omega)]))))) (.cons (Weak.int (show ((0) : Int) = ((shapeE n a b).fst.x) from (by (unfold shapeE; (repeat first | rw [if_pos (by omega)] | rw [if_neg (by omega)]))))) (.cons (Weak.int (show ((0) : Int) = ((shapeE n a b).fst.c) from (by (unfold shapeE; (repeat first | rw [if_pos (by omega)] | rw [if_neg (by omega)]))))) .nil)))) (.cons (Weak.int (show ((5) : Int) = ((shapeE n a b).snd) from (by (unfold shapeE; (repeat first | rw [if_pos (by omega)] | rw [if_neg (by omega)]))))) .nil)))
  · have gc0 := bnf hc0
    rcases Bool.eq_false_or_eq_true (n.kd == 6) with hc1 | hc1
    · have gc1 : n.kd = 6 := bet hc1
      have oz3 := (show BinTo Try.prog BinOp.neq 24 (Operand.tmp 16) (Operand.tmp 17) (Value.agg #[Value.int IntKind.i64 a.h, Value.int IntKind.i64 a.x, Value.int IntKind.i64 a.c]) (Value.agg #[Value.int IntKind.i64 b.h, Value.int IntKind.i64 b.x, Value.int IntKind.i64 b.c]) (Value.bool !eqNums [(IntKind.i64, a.h, b.h), (IntKind.i64, a.x, b.x), (IntKind.i64, a.c, b.c)]) from ((bin_nums (l := [(IntKind.i64, a.h, b.h), (IntKind.i64, a.x, b.x), (IntKind.i64, a.c, b.c)]) (by kernel_rfl) (by kernel_rfl) (by kernel_rfl) (by kernel_rfl) _ _).2))
      rcases Bool.eq_false_or_eq_true (!eqNums [(IntKind.i64, a.h, b.h), (IntKind.i64, a.x, b.x), (IntKind.i64, a.c, b.c)]) with hc2 | hc2
      · have gc2 : ¬(a.h = b.h ∧ a.x = b.x ∧ a.c = b.c) := by first | (simp only [Bool.or_eq_true, Bool.or_eq_false_iff, Bool.and_eq_true, Bool.and_eq_false_iff, Bool.not_eq_true', Bool.not_eq_false', decide_eq_true_eq, decide_eq_false_iff_not, beq_iff_eq, bne_iff_ne, ne_eq, beq_eq_false_iff_ne, bne_eq_false_iff_eq, eqNums, Bool.and_true] at hc2; first | exact hc2 | omega) | simpa using hc2 | (simp at hc2 ⊢; omega) | (apply Classical.byContradiction; intro hn; simp_all [eqNums]; done) | (apply Classical.byContradiction; intro hn; simp [eqNums] at hc2 hn; omega)
        exact (VC.run (fn := Try.f228) (W := [.r [] [], .r [] [.callr (rO oz0)], .br false, .r [] [], .r [] [], .br true, .r [] [.v (Value.bool !eqNums [(IntKind.i64, a.h, b.h), (IntKind.i64, a.x, b.x), (IntKind.i64, a.c, b.c)])], .br true, .r [] []]) (r := AV.tup [AV.agg [i64 0, i64 0, i64 0], i64 5]) Try.func228 (by kernel_rfl) (.c oz0 <| .c hc0 <| .c hc1 <| .c oz3 <| .c hc2 <| .n)).weak (WeakL.refl _) (Weak.tup (.cons (Weak.agg (.cons (Weak.int (show ((0) : Int) = ((shapeE n a b).fst.h) from (by (unfold shapeE; (repeat first | rw [if_pos (by omega)] | rw [if_neg (by omega)]))))) (.cons (Weak.int (show ((0) : Int) = ((shapeE n a b).fst.x) from (by (unfold shapeE; (repeat first | rw [if_pos (by omega)] | rw [if_neg (by omega)]))))) (.cons (Weak.int (show ((0) : Int) = ((shapeE n a b).fst.c) from (by (unfold shapeE; (repeat first | rw [if_pos (by omega)] | rw [if_neg (by omega)]))))) .nil)))) (.cons (Weak.int (show ((5) : Int) = ((shapeE n a b).snd) from (by (unfold shapeE; (repeat first | rw [if_pos (by omega)] | rw [if_neg (by omega)]))))) .nil)))
      · have gc2 : a.h = b.h ∧ a.x = b.x ∧ a.c = b.c := by first | (simp only [Bool.or_eq_true, Bool.or_eq_false_iff, Bool.and_eq_true, Bool.and_eq_false_iff, Bool.not_eq_true', Bool.not_eq_false', decide_eq_true_eq, decide_eq_false_iff_not, beq_iff_eq, bne_iff_ne, ne_eq, beq_eq_false_iff_ne, bne_eq_false_iff_eq, eqNums, Bool.and_true] at hc2; first | exact hc2 | omega) | simpa using hc2 | (simp at hc2 ⊢; omega) | (apply Classical.byContradiction; intro hn; simp_all [eqNums]; done) | (apply Classical.byContradiction; intro hn; simp [eqNums] at hc2 hn; omega)
        exact (VC.run (fn := Try.f228) (W := [.r [] [], .r [] [.callr (rO oz0)], .br false, .r [] [], .r [] [], .br true, .r [] [.v (Value.bool !eqNums [(IntKind.i64, a.h, b.h), (IntKind.i64, a.x, b.x), (IntKind.i64, a.c, b.c)])], .br false, .r [] []]) (r := AV.tup [AV.agg [i64 a.h, i64 a.x, i64 a.c], i64 0]) Try.func228 (by kernel_rfl) (.c oz0 <| .c hc0 <| .c hc1 <| .c oz3 <| .c hc2 <| .n)).weak (WeakL.refl _) (Weak.tup (.cons (Weak.agg (.cons (Weak.int (show ((a.h) : Int) = ((shapeE n a b).fst.h) from (by (unfold shapeE; (repeat first | rw [if_pos (by omega)] | rw [if_neg (by omega)]))))) (.cons (Weak.int (show ((a.x) : Int) = ((shapeE n a b).fst.x) from (by (unfold shapeE; (repeat first | rw [if_pos (by omega)] | rw [if_neg (by omega)]))))) (.cons (Weak.int (show ((a.c) : Int) = ((shapeE n a b).fst.c) from (by (unfold shapeE; (repeat first | rw [if_pos (by omega)] | rw [if_neg (by omega)]))))) .nil)))) (.cons (Weak.int (show ((0) : Int) = ((shapeE n a b).snd) from (by (unfold shapeE; (repeat first | rw [if_pos (by omega)] | rw [if_neg (by omega)]))))) .nil)))
    · have gc1 : ¬n.kd = 6 := bef hc1
      rcases Bool.eq_false_or_eq_true (n.kd == 8) with hc2 | hc2
      · have gc2 : n.kd = 8 := bet hc2
        have oz4 := @around_v (a) (n.np) ok gc0
        exact (VC.run (fn := Try.f228) (W := [.r [] [], .r [] [.callr (rO oz0)], .br false, .r [] [], .r [] [], .br false, .r [] [], .br true, .r [] [.callr (rO oz4)]]) (r := AV.tup [AV.agg [i64 (aroundE a n.np).fst.h, i64 (aroundE a n.np).fst.x, i64 (aroundE a n.np).fst.c], i64 (aroundE a n.np).snd]) Try.func228 (by kernel_rfl) (.c oz0 <| .c hc0 <| .c hc1 <| .c hc2 <| .c oz4 <| .n)).weak (WeakL.refl _) (Weak.tup (.cons (Weak.agg (.cons (Weak.int (show (((aroundE a n.np).fst.h) : Int) = ((shapeE n a b).fst.h) from (by (unfold shapeE; (repeat first | rw [if_pos (by omega)] | rw [if_neg (by omega)]))))) (.cons (Weak.int (show (((aroundE a n.np).fst.x) : Int) = ((shapeE n a b).fst.x) from (by (unfold shapeE; (repeat first | rw [if_pos (by omega)] | rw [if_neg (by omega)]))))) (.cons (Weak.int (show (((aroundE a n.np).fst.c) : Int) = ((shapeE n a b).fst.c) from (by (unfold shapeE; (repeat first | rw [if_pos (by omega)] | rw [if_neg (by omega)]))))) .nil)))) (.cons (Weak.int (show (((aroundE a n.np).snd) : Int) = ((shapeE n a b).snd) from (by (unfold shapeE; (repeat first | rw [if_pos (by omega)] | rw [if_neg (by omega)]))))) .nil)))
      · have gc2 : ¬n.kd = 8 := bef hc2
        rcases Bool.eq_false_or_eq_true (n.kd == 9) with hc3 | hc3
        · have gc3 : n.kd = 9 := bet hc3
          have oz5 := @elems_v (a.h) (a.x) (a.c) p1 p2 p3
          exact (VC.run (fn := Try.f228) (W := [.r [] [], .r [] [.callr (rO oz0)], .br false, .r [] [], .r [] [], .br false, .r [] [], .br false, .r [] [], .br true, .r [] [.callr (rO oz5)]]) (r := AV.tup [AV.agg [i64 1, i64 1, i64 (elems a.h a.x a.c)], i64 0]) Try.func228 (by kernel_rfl) (.c oz0 <| .c hc0 <| .c hc1 <| .c hc2 <| .c hc3 <| .c oz5 <| .n)).weak (WeakL.refl _) (Weak.tup (.cons (Weak.agg (.cons (Weak.int (show ((1) : Int) = ((shapeE n a b).fst.h) from (by (unfold shapeE; (repeat first | rw [if_pos (by omega)] | rw [if_neg (by omega)]))))) (.cons (Weak.int (show ((1) : Int) = ((shapeE n a b).fst.x) from (by (unfold shapeE; (repeat first | rw [if_pos (by omega)] | rw [if_neg (by omega)]))))) (.cons (Weak.int (show ((elems a.h a.x a.c) : Int) = ((shapeE n a b).fst.c) from (by (unfold shapeE; (repeat first | rw [if_pos (by omega)] | rw [if_neg (by omega)]))))) .nil)))) (.cons (Weak.int (show ((0) : Int) = ((shapeE n a b).snd) from (by (unfold shapeE; (repeat first | rw [if_pos (by omega)] | rw [if_neg (by omega)]))))) .nil)))
        · have gc3 : ¬n.kd = 9 := bef hc3
          exact (VC.run (fn := Try.f228) (W := [.r [] [], .r [] [.callr (rO oz0)], .br false, .r [] [], .r [] [], .br false, .r [] [], .br false, .r [] [], .br false, .r [] []]) (r := AV.tup [AV.agg [i64 a.h, i64 a.x, i64 a.c], i64 0]) Try.func228 (by kernel_rfl) (.c oz0 <| .c hc0 <| .c hc1 <| .c hc2 <| .c hc3 <| .n)).weak (WeakL.refl _) (Weak.tup (.cons (Weak.agg (.cons (Weak.int (show ((a.h) : Int) = ((shapeE n a b).fst.h) from (by (unfold shapeE; (repeat first | rw [if_pos (by omega)] | rw [if_neg (by omega)]))))) (.cons (Weak.int (show ((a.x) : Int) = ((shapeE n a b).fst.x) from (by (unfold shapeE; (repeat first | rw [if_pos (by omega)] | rw [if_neg (by omega)]))))) (.cons (Weak.int (show ((a.c) : Int) = ((shapeE n a b).fst.c) from (by (unfold shapeE; (repeat first | rw [if_pos (by omega)] | rw [if_neg (by omega)]))))) .nil)))) (.cons (Weak.int (show ((0) : Int) = ((shapeE n a b).snd) from (by (unfold shapeE; (repeat first | rw [if_pos (by omega)] | rw [if_neg (by omega)]))))) .nil)))

set_option maxRecDepth 100000 in
set_option maxHeartbeats 2000000 in
theorem refKshape_v (n : Nod) (a b : Shp) (ok : a.Ok) (okb : b.Ok) (okn : n.Ok) : VC Try.prog 132 ([nod n, shp a, shp b]) (.tup [shp (shapeE n a b).1, i64 (shapeE n a b).2]) := by
  obtain ⟨p1, p2, p3⟩ := id ok
  have q2 := elems_in a.h a.x a.c
  have q4 := fun (h : 0 < elems a.h a.x a.c) => elems_ok h
  rcases Bool.eq_false_or_eq_true (n.kd == 1) with hc0 | hc0
  · have gc0 : n.kd = 1 := bet hc0
    have oz1 := @refConvShape_v (a) (n) ok okn
    exact (VC.run (fn := Try.f132) (W := [.r [] [], .r [] [], .br true, .r [] [.callr (rO oz1)]]) (r := AV.tup [AV.agg [i64 (convE a n).fst.h, i64 (convE a n).fst.x, i64 (convE a n).fst.c], i64 (convE a n).snd]) Try.func132 (by kernel_rfl) (.c hc0 <| .c oz1 <| .n)).weak (WeakL.refl _) (Weak.tup (.cons (Weak.agg (.cons (Weak.int (show (((convE a n).fst.h) : Int) = ((shapeE n a b).fst.h) from (by (unfold shapeE; try unfold aroundE; (repeat first | rw [if_pos (by omega)] | rw [if_neg (by omega)]))))) (.cons (Weak.int (show (((convE a n).fst.x) : Int) = ((shapeE n a b).fst.x) from (by (unfold shapeE; try unfold aroundE; (repeat first | rw [if_pos (by omega)] | rw [if_neg (by omega)]))))) (.cons (Weak.int (show (((convE a n).fst.c) : Int) = ((shapeE n a b).fst.c) from (by (unfold shapeE; try unfold aroundE; (repeat first | rw [if_pos (by omega)] | rw [if_neg (by omega)]))))) .nil)))) (.cons (Weak.int (show (((convE a n).snd) : Int) = ((shapeE n a b).snd) from (by (unfold shapeE; try unfold aroundE; (repeat first | rw [if_pos (by omega)] | rw [if_neg (by omega)]))))) .nil)))
  · have gc0 : ¬n.kd = 1 := bef hc0
    rcases Bool.eq_false_or_eq_true (n.kd == 2) with hc1 | hc1
    · have gc1 : n.kd = 2 := bet hc1
      have oz2 := @refDepthShape_v (a) (n) ok okn
      exact (VC.run (fn := Try.f132) (W := [.r [] [], .r [] [], .br false, .r [] [], .br true, .r [] [.callr (rO oz2)]]) (r := AV.tup [AV.agg [i64 (depthE a n).fst.h, i64 (depthE a n).fst.x, i64 (depthE a n).fst.c], i64 (depthE a n).snd]) Try.func132 (by kernel_rfl) (.c hc0 <| .c hc1 <| .c oz2 <| .n)).weak (WeakL.refl _) (Weak.tup (.cons (Weak.agg (.cons (Weak.int (show (((depthE a n).fst.h) : Int) = ((shapeE n a b).fst.h) from (by (unfold shapeE; try unfold aroundE; (repeat first | rw [if_pos (by omega)] | rw [if_neg (by omega)]))))) (.cons (Weak.int (show (((depthE a n).fst.x) : Int) = ((shapeE n a b).fst.x) from (by (unfold shapeE; try unfold aroundE; (repeat first | rw [if_pos (by omega)] | rw [if_neg (by omega)]))))) (.cons (Weak.int (show (((depthE a n).fst.c) : Int) = ((shapeE n a b).fst.c) from (by (unfold shapeE; try unfold aroundE; (repeat first | rw [if_pos (by omega)] | rw [if_neg (by omega)]))))) .nil)))) (.cons (Weak.int (show (((depthE a n).snd) : Int) = ((shapeE n a b).snd) from (by (unfold shapeE; try unfold aroundE; (repeat first | rw [if_pos (by omega)] | rw [if_neg (by omega)]))))) .nil)))
    · have gc1 : ¬n.kd = 2 := bef hc1
      rcases Bool.eq_false_or_eq_true (n.kd == 3) with hc2 | hc2
      · have gc2 : n.kd = 3 := bet hc2
        have oz3 := @refDenseShape_v (a) (n) ok okn
        exact (VC.run (fn := Try.f132) (W := [.r [] [], .r [] [], .br false, .r [] [], .br false, .r [] [], .br true, .r [] [.callr (rO oz3)]]) (r := AV.tup [AV.agg [i64 (denseE a n).fst.h, i64 (denseE a n).fst.x, i64 (denseE a n).fst.c], i64 (denseE a n).snd]) Try.func132 (by kernel_rfl) (.c hc0 <| .c hc1 <| .c hc2 <| .c oz3 <| .n)).weak (WeakL.refl _) (Weak.tup (.cons (Weak.agg (.cons (Weak.int (show (((denseE a n).fst.h) : Int) = ((shapeE n a b).fst.h) from (by (unfold shapeE; try unfold aroundE; (repeat first | rw [if_pos (by omega)] | rw [if_neg (by omega)]))))) (.cons (Weak.int (show (((denseE a n).fst.x) : Int) = ((shapeE n a b).fst.x) from (by (unfold shapeE; try unfold aroundE; (repeat first | rw [if_pos (by omega)] | rw [if_neg (by omega)]))))) (.cons (Weak.int (show (((denseE a n).fst.c) : Int) = ((shapeE n a b).fst.c) from (by (unfold shapeE; try unfold aroundE; (repeat first | rw [if_pos (by omega)] | rw [if_neg (by omega)]))))) .nil)))) (.cons (Weak.int (show (((denseE a n).snd) : Int) = ((shapeE n a b).snd) from (by (unfold shapeE; try unfold aroundE; (repeat first | rw [if_pos (by omega)] | rw [if_neg (by omega)]))))) .nil)))
      · have gc2 : ¬n.kd = 3 := bef hc2
        rcases Bool.eq_false_or_eq_true (n.kd == 4 || n.kd == 5) with hc3 | hc3
        · have gc3 : n.kd = 4 ∨ n.kd = 5 := by first | (simp only [Bool.or_eq_true, Bool.or_eq_false_iff, Bool.and_eq_true, Bool.and_eq_false_iff, Bool.not_eq_true', Bool.not_eq_false', decide_eq_true_eq, decide_eq_false_iff_not, beq_iff_eq, bne_iff_ne, ne_eq, beq_eq_false_iff_ne, bne_eq_false_iff_eq, eqNums, Bool.and_true] at hc3; first | exact hc3 | omega) | simpa using hc3 | (simp at hc3 ⊢; omega) | (apply Classical.byContradiction; intro hn; simp_all [eqNums]; done) | (apply Classical.byContradiction; intro hn; simp [eqNums] at hc3 hn; omega)
          have oz4 := @refSlide_v (a) (n.nk) (n.ns) (n.np) (a.c) ok p3
          exact (VC.run (fn := Try.f132) (W := [.r [] [], .r [] [], .br false, .r [] [], .br false, .r [] [], .br false, .r [] [.op false, .op false, .op false, .sel 1], .br true, .r [] [.callr (rO oz4)]]) (r := AV.tup [AV.agg [i64 (slideE a n.nk n.ns n.np a.c).fst.h, i64 (slideE a n.nk n.ns n.np a.c).fst.x, i64 (slideE a n.nk n.ns n.np a.c).fst.c], i64 (slideE a n.nk n.ns n.np a.c).snd]) Try.func132 (by kernel_rfl) (.c hc0 <| .c hc1 <| .c hc2 <| .c hc3 <| .c oz4 <| .n)).weak (WeakL.refl _) (Weak.tup (.cons (Weak.agg (.cons (Weak.int (show (((slideE a n.nk n.ns n.np a.c).fst.h) : Int) = ((shapeE n a b).fst.h) from (by (unfold shapeE; try unfold aroundE; (repeat first | rw [if_pos (by omega)] | rw [if_neg (by omega)]))))) (.cons (Weak.int (show (((slideE a n.nk n.ns n.np a.c).fst.x) : Int) = ((shapeE n a b).fst.x) from (by (unfold shapeE; try unfold aroundE; (repeat first | rw [if_pos (by omega)] | rw [if_neg (by omega)]))))) (.cons (Weak.int (show (((slideE a n.nk n.ns n.np a.c).fst.c) : Int) = ((shapeE n a b).fst.c) from (by (unfold shapeE; try unfold aroundE; (repeat first | rw [if_pos (by omega)] | rw [if_neg (by omega)]))))) .nil)))) (.cons (Weak.int (show (((slideE a n.nk n.ns n.np a.c).snd) : Int) = ((shapeE n a b).snd) from (by (unfold shapeE; try unfold aroundE; (repeat first | rw [if_pos (by omega)] | rw [if_neg (by omega)]))))) .nil)))
        · have gc3 : ¬n.kd = 4 ∧ ¬n.kd = 5 := by first | (simp only [Bool.or_eq_true, Bool.or_eq_false_iff, Bool.and_eq_true, Bool.and_eq_false_iff, Bool.not_eq_true', Bool.not_eq_false', decide_eq_true_eq, decide_eq_false_iff_not, beq_iff_eq, bne_iff_ne, ne_eq, beq_eq_false_iff_ne, bne_eq_false_iff_eq, eqNums, Bool.and_true] at hc3; first | exact hc3 | omega) | simpa using hc3 | (simp at hc3 ⊢; omega) | (apply Classical.byContradiction; intro hn; simp_all [eqNums]; done) | (apply Classical.byContradiction; intro hn; simp [eqNums] at hc3 hn; omega)
          rcases Bool.eq_false_or_eq_true (decide (n.kd < 1) || decide (n.kd > 9)) with hc4 | hc4
          · have gc4 : n.kd < 1 ∨ n.kd > 9 := by first | (simp only [Bool.or_eq_true, Bool.or_eq_false_iff, Bool.and_eq_true, Bool.and_eq_false_iff, Bool.not_eq_true', Bool.not_eq_false', decide_eq_true_eq, decide_eq_false_iff_not, beq_iff_eq, bne_iff_ne, ne_eq, beq_eq_false_iff_ne, bne_eq_false_iff_eq, eqNums, Bool.and_true] at hc4; first | exact hc4 | omega) | simpa using hc4 | (simp at hc4 ⊢; omega) | (apply Classical.byContradiction; intro hn; simp_all [eqNums]; done) | (apply Classical.byContradiction; intro hn; simp [eqNums] at hc4 hn; omega)
            exact (VC.run (fn := Try.f132) (W := [.r [] [], .r [] [], .br false, .r [] [], .br false, .r [] [], .br false, .r [] [.op false, .op false, .op false, .sel 1], .br false, .r [] [.op false, .op false, .op false, .sel 1], .br true, .r [] []]) (r := AV.tup [AV.agg [i64 0, i64 0, i64 0], i64 6]) Try.func132 (by kernel_rfl) (.c hc0 <| .c hc1 <| .c hc2 <| .c hc3 <| .c hc4 <| .n)).weak (WeakL.refl _) (Weak.tup (.cons (Weak.agg (.cons (Weak.int (show ((0) : Int) = ((shapeE n a b).fst.h) from (by (unfold shapeE; try unfold aroundE; (repeat first | rw [if_pos (by omega)] | rw [if_neg (by omega)]))))) (.cons (Weak.int (show ((0) : Int) = ((shapeE n a b).fst.x) from (by (unfold shapeE; try unfold aroundE; (repeat first | rw [if_pos (by omega)] | rw [if_neg (by omega)]))))) (.cons (Weak.int (show ((0) : Int) = ((shapeE n a b).fst.c) from (by (unfold shapeE; try unfold aroundE; (repeat first | rw [if_pos (by omega)] | rw [if_neg (by omega)]))))) .nil)))) (.cons (Weak.int (show ((6) : Int) = ((shapeE n a b).snd) from (by (unfold shapeE; try unfold aroundE; (repeat first | rw [if_pos (by omega)] | rw [if_neg (by omega)]))))) .nil)))
          · have gc4 : ¬n.kd < 1 ∧ ¬n.kd > 9 := by first | (simp only [Bool.or_eq_true, Bool.or_eq_false_iff, Bool.and_eq_true, Bool.and_eq_false_iff, Bool.not_eq_true', Bool.not_eq_false', decide_eq_true_eq, decide_eq_false_iff_not, beq_iff_eq, bne_iff_ne, ne_eq, beq_eq_false_iff_ne, bne_eq_false_iff_eq, eqNums, Bool.and_true] at hc4; first | exact hc4 | omega) | simpa using hc4 | (simp at hc4 ⊢; omega) | (apply Classical.byContradiction; intro hn; simp_all [eqNums]; done) | (apply Classical.byContradiction; intro hn; simp [eqNums] at hc4 hn; omega)
            have oz5 := @refElems_v (a.h) (a.x) (a.c) p1 p2 p3
            have oz6 := (show BinTo Try.prog BinOp.neq 24 (Operand.tmp 70) (Operand.tmp 71) (Value.agg #[Value.int IntKind.i64 a.h, Value.int IntKind.i64 a.x, Value.int IntKind.i64 a.c]) (Value.agg #[Value.int IntKind.i64 b.h, Value.int IntKind.i64 b.x, Value.int IntKind.i64 b.c]) (Value.bool !eqNums [(IntKind.i64, a.h, b.h), (IntKind.i64, a.x, b.x), (IntKind.i64, a.c, b.c)]) from ((bin_nums (l := [(IntKind.i64, a.h, b.h), (IntKind.i64, a.x, b.x), (IntKind.i64, a.c, b.c)]) (by kernel_rfl) (by kernel_rfl) (by kernel_rfl) (by kernel_rfl) _ _).2))
            rcases Bool.eq_false_or_eq_true (elems a.h a.x a.c == 0 || n.kd == 6 && !eqNums [(IntKind.i64, a.h, b.h), (IntKind.i64, a.x, b.x), (IntKind.i64, a.c, b.c)]) with hc5 | hc5
            · have gc5 : elems a.h a.x a.c = 0 ∨ n.kd = 6 ∧ ¬(a.h = b.h ∧ a.x = b.x ∧ a.c = b.c) := by first | (simp only [Bool.or_eq_true, Bool.or_eq_false_iff, Bool.and_eq_true, Bool.and_eq_false_iff, Bool.not_eq_true', Bool.not_eq_false', decide_eq_true_eq, decide_eq_false_iff_not, beq_iff_eq, bne_iff_ne, ne_eq, beq_eq_false_iff_ne, bne_eq_false_iff_eq, eqNums, Bool.and_true] at hc5; first | exact hc5 | omega) | simpa using hc5 | (simp at hc5 ⊢; omega) | (apply Classical.byContradiction; intro hn; simp_all [eqNums]; done) | (apply Classical.byContradiction; intro hn; simp [eqNums] at hc5 hn; omega)
              exact (VC.run (fn := Try.f132) (W := [.r [] [], .r [] [], .br false, .r [] [], .br false, .r [] [], .br false, .r [] [.op false, .op false, .op false, .sel 1], .br false, .r [] [.op false, .op false, .op false, .sel 1], .br false, .r [] [.callr (rO oz5), .op false, .op false, .op false, .op false, .op false, .op false, .op false, .v (Value.bool !eqNums [(IntKind.i64, a.h, b.h), (IntKind.i64, a.x, b.x), (IntKind.i64, a.c, b.c)]), .op false, .sel 2, .sel 1], .br true, .r [] []]) (r := AV.tup [AV.agg [i64 0, i64 0, i64 0], i64 5]) Try.func132 (by kernel_rfl) (.c hc0 <| .c hc1 <| .c hc2 <| .c hc3 <| .c hc4 <| .c oz5 <| .c oz6 <| .c hc5 <| .n)).weak (WeakL.refl _) (Weak.tup (.cons (Weak.agg (.cons (Weak.int (show ((0) : Int) = ((shapeE n a b).fst.h) from (by (unfold shapeE; try unfold aroundE; (repeat first | rw [if_pos (by omega)] | rw [if_neg (by omega)]))))) (.cons (Weak.int (show ((0) : Int) = ((shapeE n a b).fst.x) from (by (unfold shapeE; try unfold aroundE; (repeat first | rw [if_pos (by omega)] | rw [if_neg (by omega)]))))) (.cons (Weak.int (show ((0) : Int) = ((shapeE n a b).fst.c) from (by (unfold shapeE; try unfold aroundE; (repeat first | rw [if_pos (by omega)] | rw [if_neg (by omega)]))))) .nil)))) (.cons (Weak.int (show ((5) : Int) = ((shapeE n a b).snd) from (by (unfold shapeE; try unfold aroundE; (repeat first | rw [if_pos (by omega)] | rw [if_neg (by omega)]))))) .nil)))
            · have gc5 : ¬elems a.h a.x a.c = 0 ∧ (¬n.kd = 6 ∨ a.h = b.h ∧ a.x = b.x ∧ a.c = b.c) := by first | (simp only [Bool.or_eq_true, Bool.or_eq_false_iff, Bool.and_eq_true, Bool.and_eq_false_iff, Bool.not_eq_true', Bool.not_eq_false', decide_eq_true_eq, decide_eq_false_iff_not, beq_iff_eq, bne_iff_ne, ne_eq, beq_eq_false_iff_ne, bne_eq_false_iff_eq, eqNums, Bool.and_true] at hc5; first | exact hc5 | omega) | simpa using hc5 | (simp at hc5 ⊢; omega) | (apply Classical.byContradiction; intro hn; simp_all [eqNums]; done) | (apply Classical.byContradiction; intro hn; simp [eqNums] at hc5 hn; omega)
              rcases Bool.eq_false_or_eq_true (n.kd == 9) with hc6 | hc6
              · have gc6 : n.kd = 9 := bet hc6
                exact (VC.run (fn := Try.f132) (W := [.r [] [], .r [] [], .br false, .r [] [], .br false, .r [] [], .br false, .r [] [.op false, .op false, .op false, .sel 1], .br false, .r [] [.op false, .op false, .op false, .sel 1], .br false, .r [] [.callr (rO oz5), .op false, .op false, .op false, .op false, .op false, .op false, .op false, .v (Value.bool !eqNums [(IntKind.i64, a.h, b.h), (IntKind.i64, a.x, b.x), (IntKind.i64, a.c, b.c)]), .op false, .sel 2, .sel 1], .br false, .r [] [], .br true, .r [] [.callr (rO oz5)]]) (r := AV.tup [AV.agg [i64 1, i64 1, i64 (elems a.h a.x a.c)], i64 0]) Try.func132 (by kernel_rfl) (.c hc0 <| .c hc1 <| .c hc2 <| .c hc3 <| .c hc4 <| .c oz5 <| .c oz6 <| .c hc5 <| .c hc6 <| .c oz5 <| .n)).weak (WeakL.refl _) (Weak.tup (.cons (Weak.agg (.cons (Weak.int (show ((1) : Int) = ((shapeE n a b).fst.h) from (by (unfold shapeE; try unfold aroundE; (repeat first | rw [if_pos (by omega)] | rw [if_neg (by omega)]))))) (.cons (Weak.int (show ((1) : Int) = ((shapeE n a b).fst.x) from (by (unfold shapeE; try unfold aroundE; (repeat first | rw [if_pos (by omega)] | rw [if_neg (by omega)]))))) (.cons (Weak.int (show ((elems a.h a.x a.c) : Int) = ((shapeE n a b).fst.c) from (by (unfold shapeE; try unfold aroundE; (repeat first | rw [if_pos (by omega)] | rw [if_neg (by omega)]))))) .nil)))) (.cons (Weak.int (show ((0) : Int) = ((shapeE n a b).snd) from (by (unfold shapeE; try unfold aroundE; (repeat first | rw [if_pos (by omega)] | rw [if_neg (by omega)]))))) .nil)))
              · have gc6 : ¬n.kd = 9 := bef hc6
                rcases Bool.eq_false_or_eq_true (n.kd == 8) with hc7 | hc7
                · have gc7 : n.kd = 8 := bet hc7
                  rcases Bool.eq_false_or_eq_true (decide (n.np < 0) || decide (n.np > 4)) with hc8 | hc8
                  · have gc8 : n.np < 0 ∨ n.np > 4 := by first | (simp only [Bool.or_eq_true, Bool.or_eq_false_iff, Bool.and_eq_true, Bool.and_eq_false_iff, Bool.not_eq_true', Bool.not_eq_false', decide_eq_true_eq, decide_eq_false_iff_not, beq_iff_eq, bne_iff_ne, ne_eq, beq_eq_false_iff_ne, bne_eq_false_iff_eq, eqNums, Bool.and_true] at hc8; first | exact hc8 | omega) | simpa using hc8 | (simp at hc8 ⊢; omega) | (apply Classical.byContradiction; intro hn; simp_all [eqNums]; done) | (apply Classical.byContradiction; intro hn; simp [eqNums] at hc8 hn; omega)
                    exact (VC.run (fn := Try.f132) (W := [.r [] [], .r [] [], .br false, .r [] [], .br false, .r [] [], .br false, .r [] [.op false, .op false, .op false, .sel 1], .br false, .r [] [.op false, .op false, .op false, .sel 1], .br false, .r [] [.callr (rO oz5), .op false, .op false, .op false, .op false, .op false, .op false, .op false, .v (Value.bool !eqNums [(IntKind.i64, a.h, b.h), (IntKind.i64, a.x, b.x), (IntKind.i64, a.c, b.c)]), .op false, .sel 2, .sel 1], .br false, .r [] [], .br false, .r [] [], .br true, .r [] [.op false, .op false, .op false, .sel 1], .br true, .r [] []]) (r := AV.tup [AV.agg [i64 0, i64 0, i64 0], i64 2]) Try.func132 (by kernel_rfl) (.c hc0 <| .c hc1 <| .c hc2 <| .c hc3 <| .c hc4 <| .c oz5 <| .c oz6 <| .c hc5 <| .c hc6 <| .c hc7 <| .c hc8 <| .n)).weak (WeakL.refl _) (Weak.tup (.cons (Weak.agg (.cons (Weak.int (show ((0) : Int) = ((shapeE n a b).fst.h) from (by (unfold shapeE; try unfold aroundE; (repeat first | rw [if_pos (by omega)] | rw [if_neg (by omega)]))))) (.cons (Weak.int (show ((0) : Int) = ((shapeE n a b).fst.x) from (by (unfold shapeE; try unfold aroundE; (repeat first | rw [if_pos (by omega)] | rw [if_neg (by omega)]))))) (.cons (Weak.int (show ((0) : Int) = ((shapeE n a b).fst.c) from (by (unfold shapeE; try unfold aroundE; (repeat first | rw [if_pos (by omega)] | rw [if_neg (by omega)]))))) .nil)))) (.cons (Weak.int (show ((2) : Int) = ((shapeE n a b).snd) from (by (unfold shapeE; try unfold aroundE; (repeat first | rw [if_pos (by omega)] | rw [if_neg (by omega)]))))) .nil)))
                  · have gc8 : ¬n.np < 0 ∧ ¬n.np > 4 := by first | (simp only [Bool.or_eq_true, Bool.or_eq_false_iff, Bool.and_eq_true, Bool.and_eq_false_iff, Bool.not_eq_true', Bool.not_eq_false', decide_eq_true_eq, decide_eq_false_iff_not, beq_iff_eq, bne_iff_ne, ne_eq, beq_eq_false_iff_ne, bne_eq_false_iff_eq, eqNums, Bool.and_true] at hc8; first | exact hc8 | omega) | simpa using hc8 | (simp at hc8 ⊢; omega) | (apply Classical.byContradiction; intro hn; simp_all [eqNums]; done) | (apply Classical.byContradiction; intro hn; simp [eqNums] at hc8 hn; omega)
                    have oz11 := (IntWalk.i64_in (2 * n.np) (by omega))
                    have oz12 := (IntWalk.i64_in (a.h + 2 * n.np) (by omega))
                    have oz14 := (IntWalk.i64_in (a.x + 2 * n.np) (by omega))
                    have oz15 := @refElems_v (a.h + 2 * n.np) (a.x + 2 * n.np) (a.c) (by omega) (by omega) p3
                    rcases Bool.eq_false_or_eq_true (elems (a.h + 2 * n.np) (a.x + 2 * n.np) a.c == 0) with hc9 | hc9
                    · have gc9 : elems (a.h + 2 * n.np) (a.x + 2 * n.np) a.c = 0 := bet hc9
                      exact (VC.run (fn := Try.f132) (W := [.r [] [], .r [] [], .br false, .r [] [], .br false, .r [] [], .br false, .r [] [.op false, .op false, .op false, .sel 1], .br false, .r [] [.op false, .op false, .op false, .sel 1], .br false, .r [] [.callr (rO oz5), .op false, .op false, .op false, .op false, .op false, .op false, .op false, .v (Value.bool !eqNums [(IntKind.i64, a.h, b.h), (IntKind.i64, a.x, b.x), (IntKind.i64, a.c, b.c)]), .op false, .sel 2, .sel 1], .br false, .r [] [], .br false, .r [] [], .br true, .r [] [.op false, .op false, .op false, .sel 1], .br false, .r [] [.n (nO oz11), .n (nO oz12), .n (nO oz11), .n (nO oz14)], .r [] [.callr (rO oz15)], .br true, .r [] []]) (r := AV.tup [AV.agg [i64 0, i64 0, i64 0], i64 5]) Try.func132 (by kernel_rfl) (.c hc0 <| .c hc1 <| .c hc2 <| .c hc3 <| .c hc4 <| .c oz5 <| .c oz6 <| .c hc5 <| .c hc6 <| .c hc7 <| .c hc8 <| .c oz11 <| .c oz12 <| .c oz11 <| .c oz14 <| .c oz15 <| .c hc9 <| .n)).weak (WeakL.refl _) (Weak.tup (.cons (Weak.agg (.cons (Weak.int (show ((0) : Int) = ((shapeE n a b).fst.h) from (by (unfold shapeE; try unfold aroundE; (repeat first | rw [if_pos (by omega)] | rw [if_neg (by omega)]))))) (.cons (Weak.int (show ((0) : Int) = ((shapeE n a b).fst.x) from (by (unfold shapeE; try unfold aroundE; (repeat first | rw [if_pos (by omega)] | rw [if_neg (by omega)]))))) (.cons (Weak.int (show ((0) : Int) = ((shapeE n a b).fst.c) from (by (unfold shapeE; try unfold aroundE; (repeat first | rw [if_pos (by omega)] | rw [if_neg (by omega)]))))) .nil)))) (.cons (Weak.int (show ((5) : Int) = ((shapeE n a b).snd) from (by (unfold shapeE; try unfold aroundE; (repeat first | rw [if_pos (by omega)] | rw [if_neg (by omega)]))))) .nil)))
                    · have gc9 : ¬elems (a.h + 2 * n.np) (a.x + 2 * n.np) a.c = 0 := bef hc9
                      exact (VC.run (fn := Try.f132) (W := [.r [] [], .r [] [], .br false, .r [] [], .br false, .r [] [], .br false, .r [] [.op false, .op false, .op false, .sel 1], .br false, .r [] [.op false, .op false, .op false, .sel 1], .br false, .r [] [.callr (rO oz5), .op false, .op false, .op false, .op false, .op false, .op false, .op false, .v (Value.bool !eqNums [(IntKind.i64, a.h, b.h), (IntKind.i64, a.x, b.x), (IntKind.i64, a.c, b.c)]), .op false, .sel 2, .sel 1], .br false, .r [] [], .br false, .r [] [], .br true, .r [] [.op false, .op false, .op false, .sel 1], .br false, .r [] [.n (nO oz11), .n (nO oz12), .n (nO oz11), .n (nO oz14)], .r [] [.callr (rO oz15)], .br false, .r [] []]) (r := AV.tup [AV.agg [i64 (a.h + 2 * n.np), i64 (a.x + 2 * n.np), i64 a.c], i64 0]) Try.func132 (by kernel_rfl) (.c hc0 <| .c hc1 <| .c hc2 <| .c hc3 <| .c hc4 <| .c oz5 <| .c oz6 <| .c hc5 <| .c hc6 <| .c hc7 <| .c hc8 <| .c oz11 <| .c oz12 <| .c oz11 <| .c oz14 <| .c oz15 <| .c hc9 <| .n)).weak (WeakL.refl _) (Weak.tup (.cons (Weak.agg (.cons (Weak.int (show ((a.h + 2 * n.np) : Int) = ((shapeE n a b).fst.h) from (by (unfold shapeE; try unfold aroundE; (repeat first | rw [if_pos (by omega)] | rw [if_neg (by omega)]))))) (.cons (Weak.int (show ((a.x + 2 * n.np) : Int) = ((shapeE n a b).fst.x) from (by (unfold shapeE; try unfold aroundE; (repeat first | rw [if_pos (by omega)] | rw [if_neg (by omega)]))))) (.cons (Weak.int (show ((a.c) : Int) = ((shapeE n a b).fst.c) from (by (unfold shapeE; try unfold aroundE; (repeat first | rw [if_pos (by omega)] | rw [if_neg (by omega)]))))) .nil)))) (.cons (Weak.int (show ((0) : Int) = ((shapeE n a b).snd) from (by (unfold shapeE; try unfold aroundE; (repeat first | rw [if_pos (by omega)] | rw [if_neg (by omega)]))))) .nil)))
                · have gc7 : ¬n.kd = 8 := bef hc7
                  exact (VC.run (fn := Try.f132) (W := [.r [] [], .r [] [], .br false, .r [] [], .br false, .r [] [], .br false, .r [] [.op false, .op false, .op false, .sel 1], .br false, .r [] [.op false, .op false, .op false, .sel 1], .br false, .r [] [.callr (rO oz5), .op false, .op false, .op false, .op false, .op false, .op false, .op false, .v (Value.bool !eqNums [(IntKind.i64, a.h, b.h), (IntKind.i64, a.x, b.x), (IntKind.i64, a.c, b.c)]), .op false, .sel 2, .sel 1], .br false, .r [] [], .br false, .r [] [], .br false, .r [] []]) (r := AV.tup [AV.agg [i64 a.h, i64 a.x, i64 a.c], i64 0]) Try.func132 (by kernel_rfl) (.c hc0 <| .c hc1 <| .c hc2 <| .c hc3 <| .c hc4 <| .c oz5 <| .c oz6 <| .c hc5 <| .c hc6 <| .c hc7 <| .n)).weak (WeakL.refl _) (Weak.tup (.cons (Weak.agg (.cons (Weak.int (show ((a.h) : Int) = ((shapeE n a b).fst.h) from (by (unfold shapeE; try unfold aroundE; (repeat first | rw [if_pos (by omega)] | rw [if_neg (by omega)]))))) (.cons (Weak.int (show ((a.x) : Int) = ((shapeE n a b).fst.x) from (by (unfold shapeE; try unfold aroundE; (repeat first | rw [if_pos (by omega)] | rw [if_neg (by omega)]))))) (.cons (Weak.int (show ((a.c) : Int) = ((shapeE n a b).fst.c) from (by (unfold shapeE; try unfold aroundE; (repeat first | rw [if_pos (by omega)] | rw [if_neg (by omega)]))))) .nil)))) (.cons (Weak.int (show ((0) : Int) = ((shapeE n a b).snd) from (by (unfold shapeE; try unfold aroundE; (repeat first | rw [if_pos (by omega)] | rw [if_neg (by omega)]))))) .nil)))

end Go.Proofs.Ytgecmooedhnenaa

/- The shapes of a block's values, by the program and by the document. No condition. -/
namespace Go.Proofs.Ytgecmooedhnenaa
open Go.RowKit
set_option linter.unusedSimpArgs false
set_option linter.unusedVariables false
set_option linter.unnecessarySimpa false

instance : Inhabited Nod := ⟨⟨0, 0, 0, 0, 0, 0, 0, 0, 0, [], [], 0, 0, 0, 0, 0, 0, 0, 0⟩⟩
instance : Inhabited Shp := ⟨⟨0, 0, 0⟩⟩
abbrev shpC (s : Shp) : List AV := [i64 s.h, i64 s.x, i64 s.c]
/-- The first place below n where p fails; n, if there is none. -/
def firstBad (p : Nat → Bool) : Nat → Nat
  | 0 => 0
  | n + 1 => if firstBad p n < n then firstBad p n else if p n = true then n + 1 else n
theorem firstBad_all {p : Nat → Bool} : ∀ {n}, (∀ k, k < n → p k = true) → firstBad p n = n
  | 0, _ => rfl
  | n + 1, h => by rw [firstBad, firstBad_all fun k hk => h k (by omega), if_neg (by omega), if_pos (h n (by omega))]
theorem firstBad_at {p : Nat → Bool} {m : Nat} (hp : p m = false) (h : ∀ k, k < m → p k = true) : ∀ {n}, m < n → firstBad p n = m
  | n + 1, hm => by
    by_cases e : m = n
    · subst e; rw [firstBad, firstBad_all h, if_neg (by omega), if_neg (by simp [hp])]
    · rw [firstBad, firstBad_at hp h (show m < n by omega), if_pos (by omega)]
theorem firstBad_le {p : Nat → Bool} : ∀ n, firstBad p n ≤ n
  | 0 => Nat.le_refl _
  | n + 1 => by have := firstBad_le (p := p) n; rw [firstBad]; split <;> (try split) <;> omega
/-- Values, one behind the other, each made of a node and of those ahead. -/
def growL {α : Type} (f : Nod → List α → α × Int) (l : List Nod) (x : α) : Nat → List α
  | 0 => [x]
  | k + 1 => growL f l x k ++ [(f (l.getD k default) (growL f l x k)).1]
/-- What is wrong with the value k. -/
def errL {α : Type} (f : Nod → List α → α × Int) (l : List Nod) (x : α) (k : Nat) : Int := (f (l.getD k default) (growL f l x k)).2
theorem growL_len {α : Type} (f : Nod → List α → α × Int) (l : List Nod) (x : α) : ∀ k, (growL f l x k).length = k + 1
  | 0 => rfl
  | k + 1 => by rw [growL, List.length_append, growL_len f l x k]; rfl
theorem growL_all {α : Type} {f : Nod → List α → α × Int} {l : List Nod} {x : α} {p : α → Prop} (h0 : p x) {n : Nat} (h : ∀ k, k < n → (∀ y ∈ growL f l x k, p y) → p (f (l.getD k default) (growL f l x k)).1) : ∀ k, k ≤ n → ∀ y ∈ growL f l x k, p y
  | 0, _ => by intro y hy; simp only [growL, List.mem_singleton] at hy; subst hy; exact h0
  | k + 1, hk => by
    have ih := growL_all h0 h k (by omega)
    intro y hy
    rw [growL, List.mem_append, List.mem_singleton] at hy
    rcases hy with hy | rfl
    · exact ih y hy
    · exact h k (by omega) ih
theorem getD_in {α : Type} [Inhabited α] {l : List α} {p : α → Prop} (h : ∀ y ∈ l, p y) {i : Nat} (hi : i < l.length) : p (l.getD i default) := by
  rw [List.getD_eq_getElem?_getD, List.getElem?_eq_getElem hi]; exact h _ (List.getElem_mem hi)
def takesL (n : Nod) : List Int := if n.kd = 6 then [n.na, n.nb] else [n.na]
def secN (n : Nod) : Int := if n.kd = 6 then n.nb else n.na
def thereB (n : Nod) (m : Int) : Bool := decide (0 ≤ n.na) && decide (n.na < m) && decide (0 ≤ secN n) && decide (secN n < m)
theorem takes_len (n : Nod) : 1 ≤ (takesL n).length ∧ (takesL n).length ≤ 2 := by unfold takesL; split <;> simp
theorem takes_there (n : Nod) (m : Int) : (∀ k, k < (takesL n).length → decide (0 ≤ (takesL n).getD k 0 ∧ (takesL n).getD k 0 < m) = true) ↔ thereB n m = true := by
  unfold takesL thereB secN
  split
  · simp only [List.length_cons, List.length_nil, Bool.and_eq_true, decide_eq_true_eq]
    constructor
    · intro h
      have h0 := h 0 (by omega); have h1 := h 1 (by omega)
      simp only [List.getD_cons_zero, List.getD_cons_succ] at h0 h1
      omega
    · intro h k hk
      match k, hk with
      | 0, _ => simp only [List.getD_cons_zero]; omega
      | 1, _ => simp only [List.getD_cons_zero, List.getD_cons_succ]; omega
      | k + 2, hk => omega
  · simp only [List.length_cons, List.length_nil, Bool.and_eq_true, decide_eq_true_eq]
    constructor
    · intro h
      have h0 := h 0 (by omega)
      simp only [List.getD_cons_zero] at h0
      omega
    · intro h k hk
      have : k = 0 := by omega
      subst this
      simp only [List.getD_cons_zero]; omega
set_option maxRecDepth 100000 in
set_option maxHeartbeats 2000000 in
theorem refThere_v (n : Nod) (m : Int)  : VC Try.prog 131 ([nod n, i64 m]) (bv (thereB n m)) := by
  exact (VC.run (fn := Try.f131) (W := [.r [] [], .r [] [.op false, .op false, .op false, .op false, .sel 2, .op false, .op false, .op false, .op false, .op false, .op false, .op false, .op false, .op false, .op false, .op false, .op false, .op false, .sel 2, .op false, .sel 1, .sel 2]]) (r := bv (decide (n.na ≥ 0) && decide (n.na < m) && (n.kd != 6 || decide (n.nb ≥ 0) && decide (n.nb < m)))) Try.func131 (by kernel_rfl) (.n)).weak (WeakL.refl _) (Weak.bool (show ((decide (n.na ≥ 0) && decide (n.na < m) && (n.kd != 6 || decide (n.nb ≥ 0) && decide (n.nb < m))) : Bool) = (thereB n m) from (by (unfold thereB secN; rw [Bool.eq_iff_iff]; by_cases e6 : n.kd = 6 <;> simp [e6] <;> omega))))

set_option maxRecDepth 100000 in
set_option maxHeartbeats 2000000 in
theorem refSecond_v (n : Nod)  : VC Try.prog 73 ([nod n]) (i64 (secN n)) := by
  rcases Bool.eq_false_or_eq_true (n.kd == 6) with hc0 | hc0
  · have gc0 : n.kd = 6 := bet hc0
    exact (VC.run (fn := Try.f73) (W := [.r [] [], .r [] [], .br true, .r [] []]) (r := i64 n.nb) Try.func73 (by kernel_rfl) (.c hc0 <| .n)).weak (WeakL.refl _) (Weak.int (show ((n.nb) : Int) = (secN n) from (by (unfold secN; rw [if_pos (by simp_all)]))))
  · have gc0 : ¬n.kd = 6 := bef hc0
    exact (VC.run (fn := Try.f73) (W := [.r [] [], .r [] [], .br false, .r [] []]) (r := i64 n.na) Try.func73 (by kernel_rfl) (.c hc0 <| .n)).weak (WeakL.refl _) (Weak.int (show ((n.na) : Int) = (secN n) from (by (unfold secN; rw [if_neg (by simp_all)]))))
/-- The shape of the next value, or what is wrong with it. -/
def nextE (n : Nod) (L : List Shp) : Shp × Int := if checkE n ≠ 0 then (⟨0, 0, 0⟩, checkE n) else if thereB n L.length = true then shapeE n (L.getD n.na.toNat default) (L.getD (secN n).toNat default) else (⟨0, 0, 0⟩, 8)
theorem there_iff {n : Nod} {m : Int} : thereB n m = true ↔ 0 ≤ n.na ∧ n.na < m ∧ 0 ≤ secN n ∧ secN n < m := by
  unfold thereB; simp only [Bool.and_eq_true, decide_eq_true_eq]; omega
end Go.Proofs.Ytgecmooedhnenaa

/- Tensors with numbers around them, by the document. No condition. -/
namespace Go.Proofs.Ytgecmooedhnenaa
open Go.RowKit
set_option linter.unusedSimpArgs false
set_option linter.unusedVariables false
set_option linter.unnecessarySimpa false

abbrev ten0 : Ten := ⟨0, 0, 0, []⟩
structure TRt (T : Ten) : Prop where
  h1 : 1 ≤ T.h
  h16 : T.h ≤ 16
  x1 : 1 ≤ T.x
  x16 : T.x ≤ 16
  c1 : 1 ≤ T.c
  c2 : T.c ≤ 1024
  el : T.h * T.x * T.c ≤ 1024
  dl : (T.d.length : Int) = T.h * T.x * T.c
  en : elems T.h T.x T.c = T.h * T.x * T.c
theorem tenRight.rt {T : Ten} (h : tenRight T = true) : TRt T := by
  unfold tenRight at h
  simp only [Bool.and_eq_true, decide_eq_true_eq] at h
  have c := elems_ok h.1
  have e : elems T.h T.x T.c = T.h * T.x * T.c := by
    have h1 := h.1
    unfold elems at h1 ⊢
    split
    · rfl
    · rename_i hn; rw [if_neg hn] at h1; omega
  exact ⟨by omega, by omega, by omega, by omega, by omega, by omega, by omega, by omega, e⟩
/-- A place within lies among the numbers. -/
theorem TRt.place {T : Ten} (r : TRt T) {h w c : Int} (hi : inT T h w) (c0 : 0 ≤ c) (c1 : c < T.c) : 0 ≤ h * T.x ∧ h * T.x ≤ 1024 ∧ 0 ≤ (h * T.x + w) * T.c ∧ (h * T.x + w) * T.c + c < T.d.length := by
  obtain ⟨h0, h1, w0, w1⟩ := hi
  obtain ⟨q1, q2, q3, q4, q5, q6, q7, q8, _⟩ := r
  have a1 := idx_bd h0 h1 w0 w1
  have a2 := idx_bd a1.1 a1.2 c0 c1
  have a3 : 0 ≤ h * T.x := Int.mul_nonneg h0 (by omega)
  have a4 : h * T.x ≤ 16 * 16 := Int.mul_le_mul (by omega) (by omega) (by omega) (by omega)
  have a5 : 0 ≤ (h * T.x + w) * T.c := Int.mul_nonneg (by omega) (by omega)
  exact ⟨a3, by omega, a5, by omega⟩
/-- The number at a place; z, where there is none. -/
def pixE (T : Ten) (h w c z : Int) : Int := if inT T h w then T.d.getD ((h * T.x + w) * T.c + c).toNat 0 else z
theorem pix8 {T : Ten} (ok : T.Ok) {z : Int} (hz : In8 z) (h w c : Int) : In8 (pixE T h w c z) := by
  unfold pixE; split
  · exact gt8 ok.d _
  · exact hz
set_option maxRecDepth 100000 in
set_option maxHeartbeats 2000000 in
theorem pixel_v (T : Ten) (h w c z : Int) (r : TRt T) (h0 : -4 ≤ h) (h1 : h ≤ 20) (w0 : -4 ≤ w) (w1 : w ≤ 20) (c0 : 0 ≤ c) (c1 : c < T.c) : VC Try.prog 222 ([ten .i8 T, i64 h, i64 w, i64 c, i8 z]) (i8 (pixE T h w c z)) := by
  have q1 := fun (a : inT T h w) => r.place a c0 c1
  have q2 := r.el
  have q3 := r.dl
  rcases Bool.eq_false_or_eq_true (decide (h < 0) || decide (h ≥ T.h) || decide (w < 0) || decide (w ≥ T.x)) with hc0 | hc0
  · have gc0 : ((h < 0 ∨ h ≥ T.h) ∨ w < 0) ∨ w ≥ T.x := by first | (simp only [Bool.or_eq_true, Bool.or_eq_false_iff, Bool.and_eq_true, Bool.and_eq_false_iff, Bool.not_eq_true', Bool.not_eq_false', decide_eq_true_eq, decide_eq_false_iff_not, beq_iff_eq, bne_iff_ne, ne_eq, beq_eq_false_iff_ne, bne_eq_false_iff_eq, eqNums, Bool.and_true] at hc0; first | exact hc0 | omega) | simpa using hc0 | (simp at hc0 ⊢; omega) | (apply Classical.byContradiction; intro hn; simp_all [eqNums]; done) | (apply Classical.byContradiction; intro hn; simp [eqNums] at hc0 hn; omega)
    exact (VC.run (fn := Try.f222) (W := [.r [] [], .r [] [.op false, .op false, .op false, .op false, .op false, .sel 1, .op false, .op false, .sel 1, .op false, .op false, .op false, .op false, .op false, .sel 1], .br true, .r [] []]) (r := i8 z) Try.func222 (by kernel_rfl) (.c hc0 <| .n)).weak (WeakL.refl _) (Weak.int (show ((z) : Int) = (pixE T h w c z) from (by (unfold pixE inT; rw [if_neg (by omega)]))))
  · have gc0 : ((¬h < 0 ∧ ¬h ≥ T.h) ∧ ¬w < 0) ∧ ¬w ≥ T.x := by first | (simp only [Bool.or_eq_true, Bool.or_eq_false_iff, Bool.and_eq_true, Bool.and_eq_false_iff, Bool.not_eq_true', Bool.not_eq_false', decide_eq_true_eq, decide_eq_false_iff_not, beq_iff_eq, bne_iff_ne, ne_eq, beq_eq_false_iff_ne, bne_eq_false_iff_eq, eqNums, Bool.and_true] at hc0; first | exact hc0 | omega) | simpa using hc0 | (simp at hc0 ⊢; omega) | (apply Classical.byContradiction; intro hn; simp_all [eqNums]; done) | (apply Classical.byContradiction; intro hn; simp [eqNums] at hc0 hn; omega)
    have oz1 := @get_v (T) (h) (w) (c) (by omega) (by omega) (by omega) (by omega) (by omega) c0 (by omega) (by omega)
    exact (VC.run (fn := Try.f222) (W := [.r [] [], .r [] [.op false, .op false, .op false, .op false, .op false, .sel 1, .op false, .op false, .sel 1, .op false, .op false, .op false, .op false, .op false, .sel 1], .br false, .r [] [.callr (rO oz1)]]) (r := i8 (T.d.getD ((h * T.x + w) * T.c + c).toNat 0)) Try.func222 (by kernel_rfl) (.c hc0 <| .c oz1 <| .n)).weak (WeakL.refl _) (Weak.int (show ((T.d.getD ((h * T.x + w) * T.c + c).toNat 0) : Int) = (pixE T h w c z) from (by (unfold pixE inT; rw [if_pos (by omega)]))))
/-- The numbers of a tensor moved. -/
abbrev movF (T : Ten) (a b z : Int) (h w c : Nat) : Int := pixE T ((h : Int) - a) ((w : Int) - b) c z
theorem gH_in8 {f : Nat → Nat → Nat → Int} (hf : ∀ h w c, In8 (f h w c)) (m x : Nat) : ∀ y, ∀ v ∈ gH f m x y, In8 v
  | 0 => by simp [gH]
  | y + 1 => by
    have gW8 : ∀ w, ∀ v ∈ gW f m y w, In8 v := by
      intro w
      induction w with
      | zero => simp [gW]
      | succ w ih =>
        intro v hv
        rw [gW, List.mem_append] at hv
        rcases hv with hv | hv
        · exact ih v hv
        · unfold gO at hv
          obtain ⟨c, _, rfl⟩ := List.mem_map.1 hv
          exact hf _ _ _
    intro v hv
    rw [gH, List.mem_append] at hv
    rcases hv with hv | hv
    · exact gH_in8 hf m x y v hv
    · exact gW8 x v hv
structure MvOk (T : Ten) (s : Shp) (a b : Int) : Prop where
  r : TRt T
  h1 : 1 ≤ s.h
  h2 : s.h ≤ 16
  x1 : 1 ≤ s.x
  x2 : s.x ≤ 16
  c : s.c = T.c
  el : s.h.toNat * (s.x.toNat * s.c.toNat) ≤ 2000
  a0 : 0 ≤ a
  a4 : a ≤ 4
  b0 : 0 ≤ b
  b4 : b ≤ 4
noncomputable def move_c_I (T : Ten) (s : Shp) (a b z : Int) (h w : Nat) (k : Nat) : VS := stt 51 [(2, i64 a), (3, i64 b), (4, i8 z), (5, .ptr 5 0 0), (6, .ptr 6 0 0), (10, .ptr 10 0 0), (11, .ptr 11 0 0), (12, i64 h), (13, i64 w), (14, i64 k)] [(5, .var (shpC s)), (6, .var [i64 T.h, i64 T.x, i64 T.c, ints .i8 T.d]), (10, .var [i64 0, i64 0, i64 0, nilv]), (11, .var [i64 s.h, i64 s.x, i64 s.c, .own 900]), (900, .slc 30 1 ((gH (movF T a b z) s.c.toNat s.x.toNat h ++ (gW (movF T a b z) s.c.toNat h w ++ gO (movF T a b z) h w k)).map (row1 .i8)))]
noncomputable def move_c_Z (T : Ten) (s : Shp) (a b z : Int) (h w : Nat) : VS := move_c_I T s a b z h w (s.c.toNat)
set_option maxRecDepth 100000 in
set_option maxHeartbeats 2000000 in
theorem move_c_s (T : Ten) (s : Shp) (a b z : Int) (h w : Nat) (ok : MvOk T s a b) (hh : h < s.h.toNat) (hw : w < s.x.toNat) (k : Nat) (hk : k < s.c.toNat) : VT Try.prog (fnC Try.f200 [1, 1, 0, 1, 0, 0, 1, 0, 0, 1, 0, 0, 1, 0, 0, 1, 0, 0]) (move_c_I T s a b z h w k) .normal (move_c_I T s a b z h w (k + 1)) := by
  obtain ⟨r, g1, g2, g3, g4, g5, g6, g7, g8, g9, g10⟩ := id ok
  have q1 := r.c1
  have q2 := r.c2
  have q3 := g_len (f := movF T a b z) hh hw g6
  have q4 := gO_len (movF T a b z) h w k
  have oz3 := @pixel_v (T) ((↑h : Int) - a) ((↑w : Int) - b) ((↑k : Int)) (z) r (by omega) (by omega) (by omega) (by omega) (by omega) (by omega)
  exact VT.run (W := [.r [] [], .br true, .r [] [.n ((↑h : Int) - a), .n ((↑w : Int) - b), .callr (rO oz3)], .r [] [.n ((↑k : Int) + 1)]]) (G := [.any (rg [(29, 21)]), .drop [47], .ren 48 900, .weak 14 (i64 (↑(k + 1) : Int)), .blk 900 (Blk.slc 30 1 (List.map (row1 IntKind.i8) (gH (movF T a b z) s.c.toNat s.x.toNat h ++ (gW (movF T a b z) s.c.toNat h w ++ gO (movF T a b z) h w (k + 1))))), .sort]) (by kernel_rfl) (.c (decide_eq_true (p := ((↑k : Int) < s.c)) (by omega)) <| .c (IntWalk.i64_in ((↑h : Int) - a) (by omega)) <| .c (IntWalk.i64_in ((↑w : Int) - b) (by omega)) <| .c oz3 <| .c (show ((List.map (row1 IntKind.i8) (gH (movF T a b z) s.c.toNat s.x.toNat h ++ (gW (movF T a b z) s.c.toNat h w ++ gO (movF T a b z) h w k))).length + 1) * 1 ≤ 140737488355328 by (simp; omega)) <| .c (show (List.map (row1 IntKind.i8) (gH (movF T a b z) s.c.toNat s.x.toNat h ++ (gW (movF T a b z) s.c.toNat h w ++ gO (movF T a b z) h w k))).length + 1 ≤ 9223372036854775807 by (simp; omega)) <| .c (IntWalk.i64_in ((↑k : Int) + 1) (by omega)) <| .c (Weak.int (k := .i64) (show (((↑k : Int) + 1) : Int) = ((↑(k + 1) : Int)) from (by omega))) <| .c (show BlkW (Blk.slc 30 1 (List.map (row1 IntKind.i8) (gH (movF T a b z) s.c.toNat s.x.toNat h ++ (gW (movF T a b z) s.c.toNat h w ++ gO (movF T a b z) h w k)) ++ [[i8 (pixE T ((↑h : Int) - a) ((↑w : Int) - b) (↑k : Int) z)]])) (Blk.slc 30 1 (List.map (row1 IntKind.i8) (gH (movF T a b z) s.c.toNat s.x.toNat h ++ (gW (movF T a b z) s.c.toNat h w ++ gO (movF T a b z) h w (k + 1))))) from (BlkW.rows (rows_to (row1 IntKind.i8) (r := List.map (row1 IntKind.i8) (gH (movF T a b z) s.c.toNat s.x.toNat h ++ (gW (movF T a b z) s.c.toNat h w ++ gO (movF T a b z) h w k)) ++ [[i8 (pixE T ((↑h : Int) - a) ((↑w : Int) - b) (↑k : Int) z)]]) (l := gH (movF T a b z) s.c.toNat s.x.toNat h ++ (gW (movF T a b z) s.c.toNat h w ++ gO (movF T a b z) h w k) ++ [pixE T ((↑h : Int) - a) ((↑w : Int) - b) (↑k : Int) z]) (m := gH (movF T a b z) s.c.toNat s.x.toNat h ++ (gW (movF T a b z) s.c.toNat h w ++ gO (movF T a b z) h w (k + 1))) (by first | (simp only [List.map_append, List.map_cons, List.map_nil, List.map_set, List.map_replicate, List.map_take, List.map_drop]; done) | rfl | (simp only [List.map_append, List.map_cons, List.map_nil, List.map_set, List.map_replicate, List.map_take, List.map_drop]; rfl)) (show (gH (movF T a b z) s.c.toNat s.x.toNat h ++ (gW (movF T a b z) s.c.toNat h w ++ gO (movF T a b z) h w k) ++ [pixE T ((↑h : Int) - a) ((↑w : Int) - b) (↑k : Int) z]) = (gH (movF T a b z) s.c.toNat s.x.toNat h ++ (gW (movF T a b z) s.c.toNat h w ++ gO (movF T a b z) h w (k + 1))) from (by (rw [gO_succ]; simp)))))) <| .n)
set_option maxRecDepth 100000 in
set_option maxHeartbeats 2000000 in
theorem move_c_e (T : Ten) (s : Shp) (a b z : Int) (h w : Nat) (ok : MvOk T s a b) (hh : h < s.h.toNat) (hw : w < s.x.toNat) : VT Try.prog (fnC Try.f200 [1, 1, 0, 1, 0, 0, 1, 0, 0, 1, 0, 0, 1, 0, 0, 1, 0, 0]) (move_c_I T s a b z h w (s.c.toNat)) (.exit 4) (move_c_Z T s a b z h w) := by
  obtain ⟨r, g1, g2, g3, g4, g5, g6, g7, g8, g9, g10⟩ := id ok
  have q1 := r.c1
  have q2 := r.c2
  exact VT.run (W := [.r [] [], .br false]) (G := [.any (rg [(29, 4)]), .sort]) (by kernel_rfl) (.c (decide_eq_false (p := ((↑s.c.toNat : Int) < s.c)) (by omega)) <| .n)
theorem move_c (T : Ten) (s : Shp) (a b z : Int) (h w : Nat) (ok : MvOk T s a b) (hh : h < s.h.toNat) (hw : w < s.x.toNat) : VT Try.prog (fnC Try.f200 [1, 1, 0, 1, 0, 0, 1, 0, 0, 1, 0, 0, 1, 0, 0, 1, 0]) (move_c_I T s a b z h w 0) (.exit 4) (move_c_Z T s a b z h w) :=
  VT.loop (fun k => move_c_I T s a b z h w k) (s.c.toNat) (fun k hk => move_c_s T s a b z h w ok hh hw k hk) (move_c_e T s a b z h w ok hh hw) (by intro h; cases h)

noncomputable def move_w_I (T : Ten) (s : Shp) (a b z : Int) (h : Nat) (k : Nat) : VS := stt 51 [(2, i64 a), (3, i64 b), (4, i8 z), (5, .ptr 5 0 0), (6, .ptr 6 0 0), (10, .ptr 10 0 0), (11, .ptr 11 0 0), (12, i64 h), (13, i64 k)] [(5, .var (shpC s)), (6, .var [i64 T.h, i64 T.x, i64 T.c, ints .i8 T.d]), (10, .var [i64 0, i64 0, i64 0, nilv]), (11, .var [i64 s.h, i64 s.x, i64 s.c, .own 900]), (900, .slc 30 1 ((gH (movF T a b z) s.c.toNat s.x.toNat h ++ gW (movF T a b z) s.c.toNat h k).map (row1 .i8)))]
noncomputable def move_w_Z (T : Ten) (s : Shp) (a b z : Int) (h : Nat) : VS := move_w_I T s a b z h (s.x.toNat)
set_option maxRecDepth 100000 in
set_option maxHeartbeats 2000000 in
theorem move_w_s (T : Ten) (s : Shp) (a b z : Int) (h : Nat) (ok : MvOk T s a b) (hh : h < s.h.toNat) (k : Nat) (hk : k < s.x.toNat) : VT Try.prog (fnC Try.f200 [1, 1, 0, 1, 0, 0, 1, 0, 0, 1, 0, 0]) (move_w_I T s a b z h k) .normal (move_w_I T s a b z h (k + 1)) := by
  obtain ⟨r, g1, g2, g3, g4, g5, g6, g7, g8, g9, g10⟩ := id ok
  have oz3 := @move_c (T) (s) (a) (b) (z) (h) (k) ok hh hk
  exact VT.run (W := [.r [] [], .br true, .r [] [], .code [.any (rg [(23, 4)]), .weak 14 (i64 (↑0 : Int)), .blk 900 (Blk.slc 30 1 (List.map (row1 IntKind.i8) (gH (movF T a b z) s.c.toNat s.x.toNat h ++ (gW (movF T a b z) s.c.toNat h k ++ gO (movF T a b z) h k 0)))), .sort] (Exit.exit 4) (zO oz3), .r [] [.n ((↑k : Int) + 1)]]) (G := [.any [14, 27, 28], .weak 13 (i64 (↑(k + 1) : Int)), .blk 900 (Blk.slc 30 1 (List.map (row1 IntKind.i8) (gH (movF T a b z) s.c.toNat s.x.toNat h ++ gW (movF T a b z) s.c.toNat h (k + 1)))), .sort]) (by kernel_rfl) (.c (decide_eq_true (p := ((↑k : Int) < s.x)) (by omega)) <| .c (Weak.int (k := .i64) (show ((0) : Int) = ((↑0 : Int)) from (by omega))) <| .c (show BlkW (Blk.slc 30 1 (List.map (row1 IntKind.i8) (gH (movF T a b z) s.c.toNat s.x.toNat h ++ gW (movF T a b z) s.c.toNat h k))) (Blk.slc 30 1 (List.map (row1 IntKind.i8) (gH (movF T a b z) s.c.toNat s.x.toNat h ++ (gW (movF T a b z) s.c.toNat h k ++ gO (movF T a b z) h k 0)))) from (BlkW.rows (rows_to (row1 IntKind.i8) (r := List.map (row1 IntKind.i8) (gH (movF T a b z) s.c.toNat s.x.toNat h ++ gW (movF T a b z) s.c.toNat h k)) (l := gH (movF T a b z) s.c.toNat s.x.toNat h ++ gW (movF T a b z) s.c.toNat h k) (m := gH (movF T a b z) s.c.toNat s.x.toNat h ++ (gW (movF T a b z) s.c.toNat h k ++ gO (movF T a b z) h k 0)) rfl (show (gH (movF T a b z) s.c.toNat s.x.toNat h ++ gW (movF T a b z) s.c.toNat h k) = (gH (movF T a b z) s.c.toNat s.x.toNat h ++ (gW (movF T a b z) s.c.toNat h k ++ gO (movF T a b z) h k 0)) from (by (simp [gO]; done)))))) <| .c oz3 <| .c (IntWalk.i64_in ((↑k : Int) + 1) (by omega)) <| .c (Weak.int (k := .i64) (show (((↑k : Int) + 1) : Int) = ((↑(k + 1) : Int)) from (by omega))) <| .c (show BlkW (Blk.slc 30 1 (List.map (row1 IntKind.i8) (gH (movF T a b z) s.c.toNat s.x.toNat h ++ (gW (movF T a b z) s.c.toNat h k ++ gO (movF T a b z) h k s.c.toNat)))) (Blk.slc 30 1 (List.map (row1 IntKind.i8) (gH (movF T a b z) s.c.toNat s.x.toNat h ++ gW (movF T a b z) s.c.toNat h (k + 1)))) from (BlkW.rows (rows_to (row1 IntKind.i8) (r := List.map (row1 IntKind.i8) (gH (movF T a b z) s.c.toNat s.x.toNat h ++ (gW (movF T a b z) s.c.toNat h k ++ gO (movF T a b z) h k s.c.toNat))) (l := gH (movF T a b z) s.c.toNat s.x.toNat h ++ (gW (movF T a b z) s.c.toNat h k ++ gO (movF T a b z) h k s.c.toNat)) (m := gH (movF T a b z) s.c.toNat s.x.toNat h ++ gW (movF T a b z) s.c.toNat h (k + 1)) rfl (show (gH (movF T a b z) s.c.toNat s.x.toNat h ++ (gW (movF T a b z) s.c.toNat h k ++ gO (movF T a b z) h k s.c.toNat)) = (gH (movF T a b z) s.c.toNat s.x.toNat h ++ gW (movF T a b z) s.c.toNat h (k + 1)) from (by rfl))))) <| .n)
set_option maxRecDepth 100000 in
set_option maxHeartbeats 2000000 in
theorem move_w_e (T : Ten) (s : Shp) (a b z : Int) (h : Nat) (ok : MvOk T s a b) (hh : h < s.h.toNat) : VT Try.prog (fnC Try.f200 [1, 1, 0, 1, 0, 0, 1, 0, 0, 1, 0, 0]) (move_w_I T s a b z h (s.x.toNat)) (.exit 2) (move_w_Z T s a b z h) := by
  obtain ⟨r, g1, g2, g3, g4, g5, g6, g7, g8, g9, g10⟩ := id ok
  exact VT.run (W := [.r [] [], .br false]) (G := [.any (rg [(23, 4)]), .sort]) (by kernel_rfl) (.c (decide_eq_false (p := ((↑s.x.toNat : Int) < s.x)) (by omega)) <| .n)
theorem move_w (T : Ten) (s : Shp) (a b z : Int) (h : Nat) (ok : MvOk T s a b) (hh : h < s.h.toNat) : VT Try.prog (fnC Try.f200 [1, 1, 0, 1, 0, 0, 1, 0, 0, 1, 0]) (move_w_I T s a b z h 0) (.exit 2) (move_w_Z T s a b z h) :=
  VT.loop (fun k => move_w_I T s a b z h k) (s.x.toNat) (fun k hk => move_w_s T s a b z h ok hh k hk) (move_w_e T s a b z h ok hh) (by intro h; cases h)

noncomputable def move_h_I (T : Ten) (s : Shp) (a b z : Int) (k : Nat) : VS := stt 51 [(2, i64 a), (3, i64 b), (4, i8 z), (5, .ptr 5 0 0), (6, .ptr 6 0 0), (10, .ptr 10 0 0), (11, .ptr 11 0 0), (12, i64 k)] [(5, .var (shpC s)), (6, .var [i64 T.h, i64 T.x, i64 T.c, ints .i8 T.d]), (10, .var [i64 0, i64 0, i64 0, nilv]), (11, .var [i64 s.h, i64 s.x, i64 s.c, .own 900]), (900, .slc 30 1 ((gH (movF T a b z) s.c.toNat s.x.toNat k).map (row1 .i8)))]
noncomputable def move_h_Z (T : Ten) (s : Shp) (a b z : Int) : VS := move_h_I T s a b z (s.h.toNat)
set_option maxRecDepth 100000 in
set_option maxHeartbeats 2000000 in
theorem move_h_s (T : Ten) (s : Shp) (a b z : Int) (ok : MvOk T s a b) (k : Nat) (hk : k < s.h.toNat) : VT Try.prog (fnC Try.f200 [1, 1, 0, 1, 0, 0]) (move_h_I T s a b z k) .normal (move_h_I T s a b z (k + 1)) := by
  obtain ⟨r, g1, g2, g3, g4, g5, g6, g7, g8, g9, g10⟩ := id ok
  have oz3 := @move_w (T) (s) (a) (b) (z) (k) ok hk
  exact VT.run (W := [.r [] [], .br true, .r [] [], .code [.any (rg [(17, 4)]), .weak 13 (i64 (↑0 : Int)), .blk 900 (Blk.slc 30 1 (List.map (row1 IntKind.i8) (gH (movF T a b z) s.c.toNat s.x.toNat k ++ gW (movF T a b z) s.c.toNat k 0))), .sort] (Exit.exit 2) (zO oz3), .r [] [.n ((↑k : Int) + 1)]]) (G := [.any [13, 21, 22], .weak 12 (i64 (↑(k + 1) : Int)), .blk 900 (Blk.slc 30 1 (List.map (row1 IntKind.i8) (gH (movF T a b z) s.c.toNat s.x.toNat (k + 1)))), .sort]) (by kernel_rfl) (.c (decide_eq_true (p := ((↑k : Int) < s.h)) (by omega)) <| .c (Weak.int (k := .i64) (show ((0) : Int) = ((↑0 : Int)) from (by omega))) <| .c (show BlkW (Blk.slc 30 1 (List.map (row1 IntKind.i8) (gH (movF T a b z) s.c.toNat s.x.toNat k))) (Blk.slc 30 1 (List.map (row1 IntKind.i8) (gH (movF T a b z) s.c.toNat s.x.toNat k ++ gW (movF T a b z) s.c.toNat k 0))) from (BlkW.rows (rows_to (row1 IntKind.i8) (r := List.map (row1 IntKind.i8) (gH (movF T a b z) s.c.toNat s.x.toNat k)) (l := gH (movF T a b z) s.c.toNat s.x.toNat k) (m := gH (movF T a b z) s.c.toNat s.x.toNat k ++ gW (movF T a b z) s.c.toNat k 0) rfl (show (gH (movF T a b z) s.c.toNat s.x.toNat k) = (gH (movF T a b z) s.c.toNat s.x.toNat k ++ gW (movF T a b z) s.c.toNat k 0) from (by (simp [gW]; done)))))) <| .c oz3 <| .c (IntWalk.i64_in ((↑k : Int) + 1) (by omega)) <| .c (Weak.int (k := .i64) (show (((↑k : Int) + 1) : Int) = ((↑(k + 1) : Int)) from (by omega))) <| .c (show BlkW (Blk.slc 30 1 (List.map (row1 IntKind.i8) (gH (movF T a b z) s.c.toNat s.x.toNat k ++ gW (movF T a b z) s.c.toNat k s.x.toNat))) (Blk.slc 30 1 (List.map (row1 IntKind.i8) (gH (movF T a b z) s.c.toNat s.x.toNat (k + 1)))) from (BlkW.rows (rows_to (row1 IntKind.i8) (r := List.map (row1 IntKind.i8) (gH (movF T a b z) s.c.toNat s.x.toNat k ++ gW (movF T a b z) s.c.toNat k s.x.toNat)) (l := gH (movF T a b z) s.c.toNat s.x.toNat k ++ gW (movF T a b z) s.c.toNat k s.x.toNat) (m := gH (movF T a b z) s.c.toNat s.x.toNat (k + 1)) rfl (show (gH (movF T a b z) s.c.toNat s.x.toNat k ++ gW (movF T a b z) s.c.toNat k s.x.toNat) = (gH (movF T a b z) s.c.toNat s.x.toNat (k + 1)) from (by rfl))))) <| .n)
set_option maxRecDepth 100000 in
set_option maxHeartbeats 2000000 in
theorem move_h_e (T : Ten) (s : Shp) (a b z : Int) (ok : MvOk T s a b) : VT Try.prog (fnC Try.f200 [1, 1, 0, 1, 0, 0]) (move_h_I T s a b z (s.h.toNat)) (.exit 0) (move_h_Z T s a b z) := by
  obtain ⟨r, g1, g2, g3, g4, g5, g6, g7, g8, g9, g10⟩ := id ok
  exact VT.run (W := [.r [] [], .br false]) (G := [.any (rg [(17, 4)]), .sort]) (by kernel_rfl) (.c (decide_eq_false (p := ((↑s.h.toNat : Int) < s.h)) (by omega)) <| .n)
theorem move_h (T : Ten) (s : Shp) (a b z : Int) (ok : MvOk T s a b) : VT Try.prog (fnC Try.f200 [1, 1, 0, 1, 0]) (move_h_I T s a b z 0) (.exit 0) (move_h_Z T s a b z) :=
  VT.loop (fun k => move_h_I T s a b z k) (s.h.toNat) (fun k hk => move_h_s T s a b z ok k hk) (move_h_e T s a b z ok) (by intro h; cases h)

set_option maxRecDepth 100000 in
set_option maxHeartbeats 2000000 in
theorem move_v (T : Ten) (s : Shp) (a b z : Int) (ok : MvOk T s a b) : VC Try.prog 200 ([shp s, ten .i8 T, i64 a, i64 b, i8 z]) (ten .i8 ⟨s.h, s.x, s.c, gH (movF T a b z) s.c.toNat s.x.toNat s.h.toNat⟩) := by
  have oz1 := @move_h (T) (s) (a) (b) (z) ok
  exact VC.run (fn := Try.f200) (W := [.r [] [], .r [] [], .r [] [], .code [.any [0, 1, 15, 16], .weak 12 (i64 (↑0 : Int)), .nilc 900 30 1 11 3, .sort] (Exit.exit 0) (zO oz1), .r [] []]) Try.func200 (by kernel_rfl) (.c (Weak.int (k := .i64) (show ((0) : Int) = ((↑0 : Int)) from (by omega))) <| .c oz1 <| .n)
/-- A tensor with p numbers around it. -/
def padOf (T : Ten) (p z : Int) : Ten × Int := if elems (T.h + 2 * p) (T.x + 2 * p) T.c = 0 then (ten0, 5) else (⟨T.h + 2 * p, T.x + 2 * p, T.c, gH (movF T p p z) T.c.toNat (T.x + 2 * p).toNat (T.h + 2 * p).toNat⟩, 0)
theorem mv_of {T : Ten} (r : TRt T) {p : Int} (p0 : 0 ≤ p) (p4 : p ≤ 4) (h : elems (T.h + 2 * p) (T.x + 2 * p) T.c ≠ 0) : MvOk T ⟨T.h + 2 * p, T.x + 2 * p, T.c⟩ p p := by
  have hb := elems_bd (T.h + 2 * p) (T.x + 2 * p) T.c
  have c := elems_ok (h := T.h + 2 * p) (x := T.x + 2 * p) (c := T.c) (by omega)
  obtain ⟨q1, q2, q3, q4, q5, q6, q7, q8, q9⟩ := id r
  refine ⟨r, by dsimp only; omega, by dsimp only; omega, by dsimp only; omega, by dsimp only; omega, rfl, ?_, p0, p4, p0, p4⟩
  have : (((T.h + 2 * p).toNat * ((T.x + 2 * p).toNat * T.c.toNat) : Nat) : Int) = (T.h + 2 * p) * (T.x + 2 * p) * T.c := by
    rw [Int.natCast_mul, Int.natCast_mul, Int.toNat_of_nonneg (by omega), Int.toNat_of_nonneg (by omega), Int.toNat_of_nonneg (by omega), Int.mul_assoc]
  dsimp only; omega
set_option maxRecDepth 100000 in
set_option maxHeartbeats 2000000 in
theorem resize_v (T : Ten) (p z : Int) (r : TRt T) (p0 : 0 ≤ p) (p4 : p ≤ 4) : VC Try.prog 136 ([ten .i8 T, i64 p, i8 z]) (.tup [ten .i8 (padOf T p z).1, i64 (padOf T p z).2]) := by
  obtain ⟨q1, q2, q3, q4, q5, q6, q7, q8, q9⟩ := id r
  have m := @mv_of T r p p0 p4
  have oz0 := (IntWalk.i64_in (2 * p) (by omega))
  have oz1 := (IntWalk.i64_in (T.h + 2 * p) (by omega))
  have oz3 := (IntWalk.i64_in (T.x + 2 * p) (by omega))
  have oz4 := @refElems_v (T.h + 2 * p) (T.x + 2 * p) (T.c) (by omega) (by omega) (by omega)
  rcases Bool.eq_false_or_eq_true (elems (T.h + 2 * p) (T.x + 2 * p) T.c == 0) with hc0 | hc0
  · have gc0 : elems (T.h + 2 * p) (T.x + 2 * p) T.c = 0 := bet hc0
    exact (VC.run (fn := Try.f136) (W := [.r [] [], .r [] [.n (nO oz0), .n (nO oz1), .n (nO oz0), .n (nO oz3)], .r [] [.callr (rO oz4)], .br true, .r [] []]) (r := AV.tup [AV.agg [i64 0, i64 0, i64 0, AV.lit (Value.slice none 0 0)], i64 5]) Try.func136 (by kernel_rfl) (.c oz0 <| .c oz1 <| .c oz0 <| .c oz3 <| .c oz4 <| .c hc0 <| .n)).weak (WeakL.refl _) (Weak.tup (.cons (Weak.agg (.cons (Weak.int (show ((0) : Int) = ((padOf T p z).fst.h) from (by (unfold padOf; rw [if_pos (by simp_all)])))) (.cons (Weak.int (show ((0) : Int) = ((padOf T p z).fst.x) from (by (unfold padOf; rw [if_pos (by simp_all)])))) (.cons (Weak.int (show ((0) : Int) = ((padOf T p z).fst.c) from (by (unfold padOf; rw [if_pos (by simp_all)])))) (.cons (Weak.nilr (show [] = (List.map (row1 IntKind.i8) (padOf T p z).fst.d) from (by (unfold padOf; rw [if_pos (by simp_all)]; rfl)))) .nil))))) (.cons (Weak.int (show ((5) : Int) = ((padOf T p z).snd) from (by (unfold padOf; rw [if_pos (by simp_all)])))) .nil)))
  · have gc0 : ¬elems (T.h + 2 * p) (T.x + 2 * p) T.c = 0 := bef hc0
    have oz6 := @move_v (T) (Shp.mk (T.h + 2 * p) (T.x + 2 * p) T.c) (p) (p) (z) (by (exact m (by simp_all)))
    exact (VC.run (fn := Try.f136) (W := [.r [] [], .r [] [.n (nO oz0), .n (nO oz1), .n (nO oz0), .n (nO oz3)], .r [] [.callr (rO oz4)], .br false, .r [] [.callr (rO oz6)]]) (r := AV.tup [AV.agg [i64 (Ten.mk (T.h + 2 * p) (T.x + 2 * p) T.c (gH (movF T p p z) T.c.toNat (T.x + 2 * p).toNat (T.h + 2 * p).toNat)).h, i64 (Ten.mk (T.h + 2 * p) (T.x + 2 * p) T.c (gH (movF T p p z) T.c.toNat (T.x + 2 * p).toNat (T.h + 2 * p).toNat)).x, i64 (Ten.mk (T.h + 2 * p) (T.x + 2 * p) T.c (gH (movF T p p z) T.c.toNat (T.x + 2 * p).toNat (T.h + 2 * p).toNat)).c, AV.sl 1 (List.map (row1 IntKind.i8) (Ten.mk (T.h + 2 * p) (T.x + 2 * p) T.c (gH (movF T p p z) T.c.toNat (T.x + 2 * p).toNat (T.h + 2 * p).toNat)).d)], i64 0]) Try.func136 (by kernel_rfl) (.c oz0 <| .c oz1 <| .c oz0 <| .c oz3 <| .c oz4 <| .c hc0 <| .c oz6 <| .n)).weak (WeakL.refl _) (Weak.tup (.cons (Weak.agg (.cons (Weak.int (show (((Ten.mk (T.h + 2 * p) (T.x + 2 * p) T.c (gH (movF T p p z) T.c.toNat (T.x + 2 * p).toNat (T.h + 2 * p).toNat)).h) : Int) = ((padOf T p z).fst.h) from (by (unfold padOf; rw [if_neg (by simp_all)])))) (.cons (Weak.int (show (((Ten.mk (T.h + 2 * p) (T.x + 2 * p) T.c (gH (movF T p p z) T.c.toNat (T.x + 2 * p).toNat (T.h + 2 * p).toNat)).x) : Int) = ((padOf T p z).fst.x) from (by (unfold padOf; rw [if_neg (by simp_all)])))) (.cons (Weak.int (show (((Ten.mk (T.h + 2 * p) (T.x + 2 * p) T.c (gH (movF T p p z) T.c.toNat (T.x + 2 * p).toNat (T.h + 2 * p).toNat)).c) : Int) = ((padOf T p z).fst.c) from (by (unfold padOf; rw [if_neg (by simp_all)])))) (.cons (Weak.rows (rows_to (row1 IntKind.i8) (r := List.map (row1 IntKind.i8) (Ten.mk (T.h + 2 * p) (T.x + 2 * p) T.c (gH (movF T p p z) T.c.toNat (T.x + 2 * p).toNat (T.h + 2 * p).toNat)).d) (l := (Ten.mk (T.h + 2 * p) (T.x + 2 * p) T.c (gH (movF T p p z) T.c.toNat (T.x + 2 * p).toNat (T.h + 2 * p).toNat)).d) (m := (padOf T p z).fst.d) rfl (show ((Ten.mk (T.h + 2 * p) (T.x + 2 * p) T.c (gH (movF T p p z) T.c.toNat (T.x + 2 * p).toNat (T.h + 2 * p).toNat)).d) = ((padOf T p z).fst.d) from (by (unfold padOf; rw [if_neg (by simp_all)]))))) .nil))))) (.cons (Weak.int (show ((0) : Int) = ((padOf T p z).snd) from (by (unfold padOf; rw [if_neg (by simp_all)])))) .nil)))
/-- What is wrong with a tensor and what is laid around it. -/
def mayE (T : Ten) (p : Int) : Int := if tenRight T = true then (if 0 ≤ p ∧ p ≤ 4 then 0 else 2) else 5
set_option maxRecDepth 100000 in
set_option maxHeartbeats 2000000 in
theorem may_v (T : Ten) (p : Int) (ok : T.Ok) : VC Try.prog 135 ([ten .i8 T, i64 p]) (i64 (mayE T p)) := by
  have oz0 := @refTRight_v (T) ok
  rcases Bool.eq_false_or_eq_true (!tenRight T) with hc0 | hc0
  · have gc0 : tenRight T = false := by first | exact hc0 | exact of_decide_eq_true hc0 | exact of_decide_eq_false hc0 | simpa [eqNums] using hc0 | (simp [eqNums] at hc0 ⊢; first | done | assumption | omega)
    exact (VC.run (fn := Try.f135) (W := [.r [] [], .r [] [.callr (rO oz0)], .br true, .r [] []]) (r := i64 5) Try.func135 (by kernel_rfl) (.c oz0 <| .c hc0 <| .n)).weak (WeakL.refl _) (Weak.int (show ((5) : Int) = (mayE T p) from (by (unfold mayE; rw [if_neg (by simp_all)]))))
  · have gc0 : tenRight T = true := by first | exact hc0 | exact of_decide_eq_true hc0 | exact of_decide_eq_false hc0 | simpa [eqNums] using hc0 | (simp [eqNums] at hc0 ⊢; first | done | assumption | omega)
    rcases Bool.eq_false_or_eq_true (decide (p < 0) || decide (p > 4)) with hc1 | hc1
    · have gc1 : p < 0 ∨ p > 4 := by first | (simp only [Bool.or_eq_true, Bool.or_eq_false_iff, Bool.and_eq_true, Bool.and_eq_false_iff, Bool.not_eq_true', Bool.not_eq_false', decide_eq_true_eq, decide_eq_false_iff_not, beq_iff_eq, bne_iff_ne, ne_eq, beq_eq_false_iff_ne, bne_eq_false_iff_eq, eqNums, Bool.and_true] at hc1; first | exact hc1 | omega) | simpa using hc1 | (simp at hc1 ⊢; omega) | (apply Classical.byContradiction; intro hn; simp_all [eqNums]; done) | (apply Classical.byContradiction; intro hn; simp [eqNums] at hc1 hn; omega)
      exact (VC.run (fn := Try.f135) (W := [.r [] [], .r [] [.callr (rO oz0)], .br false, .r [] [.op false, .op false, .sel 1], .br true, .r [] []]) (r := i64 2) Try.func135 (by kernel_rfl) (.c oz0 <| .c hc0 <| .c hc1 <| .n)).weak (WeakL.refl _) (Weak.int (show ((2) : Int) = (mayE T p) from (by (unfold mayE; rw [if_pos (by simp_all), if_neg (by omega)]))))
    · have gc1 : ¬p < 0 ∧ ¬p > 4 := by first | (simp only [Bool.or_eq_true, Bool.or_eq_false_iff, Bool.and_eq_true, Bool.and_eq_false_iff, Bool.not_eq_true', Bool.not_eq_false', decide_eq_true_eq, decide_eq_false_iff_not, beq_iff_eq, bne_iff_ne, ne_eq, beq_eq_false_iff_ne, bne_eq_false_iff_eq, eqNums, Bool.and_true] at hc1; first | exact hc1 | omega) | simpa using hc1 | (simp at hc1 ⊢; omega) | (apply Classical.byContradiction; intro hn; simp_all [eqNums]; done) | (apply Classical.byContradiction; intro hn; simp [eqNums] at hc1 hn; omega)
      exact (VC.run (fn := Try.f135) (W := [.r [] [], .r [] [.callr (rO oz0)], .br false, .r [] [.op false, .op false, .sel 1], .br false, .r [] []]) (r := i64 0) Try.func135 (by kernel_rfl) (.c oz0 <| .c hc0 <| .c hc1 <| .n)).weak (WeakL.refl _) (Weak.int (show ((0) : Int) = (mayE T p) from (by (unfold mayE; rw [if_pos (by simp_all), if_pos (by omega)]))))
end Go.Proofs.Ytgecmooedhnenaa

/- The greatest ones and the means of windows, by the document. No condition. -/
namespace Go.Proofs.Ytgecmooedhnenaa
open Go.RowKit
set_option linter.unusedSimpArgs false
set_option linter.unusedVariables false
set_option linter.unnecessarySimpa false

/-- The numbers that a row of a window has of a channel, and those that a window has. -/
def winJ (T : Ten) (y x c : Int) (A : List Int) : Nat → List Int
  | 0 => A
  | j + 1 => winJ T y x c A j ++ (if inT T y (x + j) then [T.d.getD ((y * T.x + (x + j)) * T.c + c).toNat 0] else [])
def winI (T : Ten) (k : Nat) (y x c : Int) : Nat → List Int
  | 0 => []
  | i + 1 => winJ T (y + i) x c (winI T k y x c i) k
abbrev winL (T : Ten) (n : Nod) (h w c : Int) : List Int := winI T n.nk.toNat (h * n.ns - n.np) (w * n.ns - n.np) c n.nk.toNat
theorem winJ_len (T : Ten) (y x c : Int) (A : List Int) : ∀ j, (winJ T y x c A j).length ≤ A.length + j
  | 0 => Nat.le_refl _
  | j + 1 => by have := winJ_len T y x c A j; rw [winJ, List.length_append]; split <;> simp <;> omega
theorem winI_len (T : Ten) (k : Nat) (y x c : Int) : ∀ i, (winI T k y x c i).length ≤ i * k
  | 0 => by simp [winI]
  | i + 1 => by have h1 := winI_len T k y x c i; have h2 := winJ_len T (y + i) x c (winI T k y x c i) k; rw [winI, Nat.add_mul]; omega
theorem winJ_yes {T : Ten} {y x c : Int} {A : List Int} {j : Nat} (h : inT T y (x + j)) : winJ T y x c A (j + 1) = winJ T y x c A j ++ [T.d.getD ((y * T.x + (x + j)) * T.c + c).toNat 0] := by rw [winJ, if_pos h]
theorem winJ_no {T : Ten} {y x c : Int} {A : List Int} {j : Nat} (h : ¬ inT T y (x + j)) : winJ T y x c A (j + 1) = winJ T y x c A j := by rw [winJ, if_neg h, List.append_nil]
theorem winJ_8 {T : Ten} (ok : T.Ok) (y x c : Int) {A : List Int} (hA : ∀ v ∈ A, In8 v) : ∀ j, ∀ v ∈ winJ T y x c A j, In8 v
  | 0 => hA
  | j + 1 => by
    intro v hv
    rw [winJ, List.mem_append] at hv
    rcases hv with hv | hv
    · exact winJ_8 ok y x c hA j v hv
    · split at hv
      · rw [List.mem_singleton] at hv; subst hv; exact gt8 ok.d _
      · simp at hv
theorem winI_8 {T : Ten} (ok : T.Ok) (k : Nat) (y x c : Int) : ∀ i, ∀ v ∈ winI T k y x c i, In8 v
  | 0 => by simp [winI]
  | i + 1 => winJ_8 ok _ x c (winI_8 ok k y x c i) k
structure WnOk (T : Ten) (n : Nod) (h w c : Int) : Prop where
  r : TRt T
  k1 : 1 ≤ n.nk
  k5 : n.nk ≤ 5
  s1 : 1 ≤ n.ns
  s4 : n.ns ≤ 4
  p0 : 0 ≤ n.np
  p4 : n.np ≤ 4
  h0 : 0 ≤ h
  h1 : h ≤ 100
  w0 : 0 ≤ w
  w1 : w ≤ 100
  c0 : 0 ≤ c
  c1 : c < T.c
noncomputable def win_j_I (T : Ten) (n : Nod) (h w c : Int) (i : Nat) (A : List Int) (k : Nat) : VS := stt 75 [(2, i64 h), (3, i64 w), (4, i64 c), (5, .ptr 5 0 0), (6, .ptr 6 0 0), (11, .own 900), (12, i64 i), (13, i64 k)] [(5, .var [i64 T.h, i64 T.x, i64 T.c, ints .i8 T.d]), (6, .var (nodC n)), (900, .slc 30 1 ((winJ T (h * n.ns - n.np + i) (w * n.ns - n.np) c A k).map (row1 .i8)))]
noncomputable def win_j_Z (T : Ten) (n : Nod) (h w c : Int) (i : Nat) (A : List Int) : VS := win_j_I T n h w c i A (n.nk.toNat)
set_option maxRecDepth 100000 in
set_option maxHeartbeats 2000000 in
theorem win_j_s (T : Ten) (n : Nod) (h w c : Int) (i : Nat) (A : List Int) (ok : WnOk T n h w c) (hi : i < n.nk.toNat) (hA : A.length ≤ 25) (k : Nat) (hk : k < n.nk.toNat) : VT Try.prog (fnC Try.f197 [1, 1, 0, 1, 0, 0, 1, 0, 0, 1, 0, 0]) (win_j_I T n h w c i A k) .normal (win_j_I T n h w c i A (k + 1)) := by
  obtain ⟨r, k1, k5, s1, s4, p0, p4, h0, h1, w0, w1, c0, c1⟩ := id ok
  have g1 := mul_bd (A := 100) (B := 4) h0 h1 (show 0 ≤ n.ns by omega) s4
  have g2 := mul_bd (A := 100) (B := 4) w0 w1 (show 0 ≤ n.ns by omega) s4
  have g3 := winJ_len T (h * n.ns - n.np + i) (w * n.ns - n.np) c A k
  have g4 : (List.map (row1 .i8) (winJ T (h * n.ns - n.np + i) (w * n.ns - n.np) c A k)).length ≤ 60 := by rw [List.length_map]; omega
  have g5 := fun (a : inT T (h * n.ns - n.np + i) (w * n.ns - n.np + k)) => r.place a c0 c1
  have g6 : h * n.ns + i - n.np = h * n.ns - n.np + i := by omega
  have g7 : w * n.ns + k - n.np = w * n.ns - n.np + k := by omega
  have g8 := r.el
  have g9 := r.dl
  have ga := r.x16
  have gb := r.h16
  have y1 := @winJ_yes T (h * n.ns - n.np + i) (w * n.ns - n.np) c A k
  have y2 := @winJ_no T (h * n.ns - n.np + i) (w * n.ns - n.np) c A k
  rw [← g6, ← g7] at g5
  rw [← g7] at y1 y2
  have oz0 := (decide_eq_true (p := ((↑k : Int) < n.nk)) (by omega))
  have oz1 := (IntWalk.i64_in (h * n.ns) (by omega))
  have oz2 := (IntWalk.i64_in (h * n.ns + (↑i : Int)) (by omega))
  have oz3 := (IntWalk.i64_in (h * n.ns + (↑i : Int) - n.np) (by omega))
  have oz4 := (IntWalk.i64_in (w * n.ns) (by omega))
  have oz5 := (IntWalk.i64_in (w * n.ns + (↑k : Int)) (by omega))
  have oz6 := (IntWalk.i64_in (w * n.ns + (↑k : Int) - n.np) (by omega))
  rcases Bool.eq_false_or_eq_true (decide (h * n.ns + (↑i : Int) - n.np ≥ 0) && decide (h * n.ns + (↑i : Int) - n.np < T.h) && decide (w * n.ns + (↑k : Int) - n.np ≥ 0) && decide (w * n.ns + (↑k : Int) - n.np < T.x)) with hc0 | hc0
  · have gc0 : ((h * n.ns + (↑i : Int) - n.np ≥ 0 ∧ h * n.ns + (↑i : Int) - n.np < T.h) ∧ w * n.ns + (↑k : Int) - n.np ≥ 0) ∧ w * n.ns + (↑k : Int) - n.np < T.x := by first | (simp only [Bool.or_eq_true, Bool.or_eq_false_iff, Bool.and_eq_true, Bool.and_eq_false_iff, Bool.not_eq_true', Bool.not_eq_false', decide_eq_true_eq, decide_eq_false_iff_not, beq_iff_eq, bne_iff_ne, ne_eq, beq_eq_false_iff_ne, bne_eq_false_iff_eq, eqNums, Bool.and_true] at hc0; first | exact hc0 | omega) | simpa using hc0 | (simp at hc0 ⊢; omega) | (apply Classical.byContradiction; intro hn; simp_all [eqNums]; done) | (apply Classical.byContradiction; intro hn; simp [eqNums] at hc0 hn; omega)
    have oz8 := @get_v (T) (h * n.ns + (↑i : Int) - n.np) (w * n.ns + (↑k : Int) - n.np) (c) (by omega) (by omega) (by omega) (by omega) (by omega) c0 (by omega) (by omega)
    exact VT.run (W := [.r [] [], .br true, .r [] [.n (nO oz1), .n (nO oz2), .n (nO oz3), .n (nO oz4), .n (nO oz5), .n (nO oz6)], .r [] [.op false, .op false, .op false, .op false, .op false, .sel 2, .op false, .op false, .sel 2, .op false, .op false, .op false, .op false, .op false, .sel 2], .br true, .r [] [.callr (rO oz8)], .r [] [.n ((↑k : Int) + 1)]]) (G := [.any (rg [(14, 2), (22, 27), (54, 2), (58, 2), (65, 9)]), .drop [72], .ren 73 900, .weak 13 (i64 (↑(k + 1) : Int)), .blk 900 (Blk.slc 30 1 (List.map (row1 IntKind.i8) (winJ T (h * n.ns - n.np + (↑i : Int)) (w * n.ns - n.np) c A (k + 1)))), .sort]) (by kernel_rfl) (.c oz0 <| .c oz1 <| .c oz2 <| .c oz3 <| .c oz4 <| .c oz5 <| .c oz6 <| .c hc0 <| .c oz8 <| .c (show ((List.map (row1 IntKind.i8) (winJ T (h * n.ns - n.np + (↑i : Int)) (w * n.ns - n.np) c A k)).length + 1) * 1 ≤ 140737488355328 by omega) <| .c (show (List.map (row1 IntKind.i8) (winJ T (h * n.ns - n.np + (↑i : Int)) (w * n.ns - n.np) c A k)).length + 1 ≤ 9223372036854775807 by omega) <| .c (IntWalk.i64_in ((↑k : Int) + 1) (by omega)) <| .c (Weak.int (k := .i64) (show (((↑k : Int) + 1) : Int) = ((↑(k + 1) : Int)) from (by omega))) <| .c (show BlkW (Blk.slc 30 1 (List.map (row1 IntKind.i8) (winJ T (h * n.ns - n.np + (↑i : Int)) (w * n.ns - n.np) c A k) ++ [[i8 (T.d.getD (((h * n.ns + (↑i : Int) - n.np) * T.x + (w * n.ns + (↑k : Int) - n.np)) * T.c + c).toNat 0)]])) (Blk.slc 30 1 (List.map (row1 IntKind.i8) (winJ T (h * n.ns - n.np + (↑i : Int)) (w * n.ns - n.np) c A (k + 1)))) from (BlkW.rows (rows_to (row1 IntKind.i8) (r := List.map (row1 IntKind.i8) (winJ T (h * n.ns - n.np + (↑i : Int)) (w * n.ns - n.np) c A k) ++ [[i8 (T.d.getD (((h * n.ns + (↑i : Int) - n.np) * T.x + (w * n.ns + (↑k : Int) - n.np)) * T.c + c).toNat 0)]]) (l := winJ T (h * n.ns - n.np + (↑i : Int)) (w * n.ns - n.np) c A k ++ [T.d.getD (((h * n.ns + (↑i : Int) - n.np) * T.x + (w * n.ns + (↑k : Int) - n.np)) * T.c + c).toNat 0]) (m := winJ T (h * n.ns - n.np + (↑i : Int)) (w * n.ns - n.np) c A (k + 1)) (by first | (simp only [List.map_append, List.map_cons, List.map_nil, List.map_set, List.map_replicate, List.map_take, List.map_drop]; done) | rfl | (simp only [List.map_append, List.map_cons, List.map_nil, List.map_set, List.map_replicate, List.map_take, List.map_drop]; rfl)) (show (winJ T (h * n.ns - n.np + (↑i : Int)) (w * n.ns - n.np) c A k ++ [T.d.getD (((h * n.ns + (↑i : Int) - n.np) * T.x + (w * n.ns + (↑k : Int) - n.np)) * T.c + c).toNat 0]) = (winJ T (h * n.ns - n.np + (↑i : Int)) (w * n.ns - n.np) c A (k + 1)) from (by (rw [y1 (by unfold inT; omega), g6])))))) <| .n)
  · have gc0 : ((¬h * n.ns + (↑i : Int) - n.np ≥ 0 ∨ ¬h * n.ns + (↑i : Int) - n.np < T.h) ∨ ¬w * n.ns + (↑k : Int) - n.np ≥ 0) ∨ ¬w * n.ns + (↑k : Int) - n.np < T.x := by first | (simp only [Bool.or_eq_true, Bool.or_eq_false_iff, Bool.and_eq_true, Bool.and_eq_false_iff, Bool.not_eq_true', Bool.not_eq_false', decide_eq_true_eq, decide_eq_false_iff_not, beq_iff_eq, bne_iff_ne, ne_eq, beq_eq_false_iff_ne, bne_eq_false_iff_eq, eqNums, Bool.and_true] at hc0; first | exact hc0 | omega) | simpa using hc0 | (simp at hc0 ⊢; omega) | (apply Classical.byContradiction; intro hn; simp_all [eqNums]; done) | (apply Classical.byContradiction; intro hn; simp [eqNums] at hc0 hn; omega)
    exact VT.run (W := [.r [] [], .br true, .r [] [.n (nO oz1), .n (nO oz2), .n (nO oz3), .n (nO oz4), .n (nO oz5), .n (nO oz6)], .r [] [.op false, .op false, .op false, .op false, .op false, .sel 2, .op false, .op false, .sel 2, .op false, .op false, .op false, .op false, .op false, .sel 2], .br false, .r [] [.n ((↑k : Int) + 1)]]) (G := [.any (rg [(14, 2), (22, 27), (54, 2), (58, 2), (65, 1)]), .weak 13 (i64 (↑(k + 1) : Int)), .blk 900 (Blk.slc 30 1 (List.map (row1 IntKind.i8) (winJ T (h * n.ns - n.np + (↑i : Int)) (w * n.ns - n.np) c A (k + 1)))), .sort]) (by kernel_rfl) (.c oz0 <| .c oz1 <| .c oz2 <| .c oz3 <| .c oz4 <| .c oz5 <| .c oz6 <| .c hc0 <| .c (IntWalk.i64_in ((↑k : Int) + 1) (by omega)) <| .c (Weak.int (k := .i64) (show (((↑k : Int) + 1) : Int) = ((↑(k + 1) : Int)) from (by omega))) <| .c (show BlkW (Blk.slc 30 1 (List.map (row1 IntKind.i8) (winJ T (h * n.ns - n.np + (↑i : Int)) (w * n.ns - n.np) c A k))) (Blk.slc 30 1 (List.map (row1 IntKind.i8) (winJ T (h * n.ns - n.np + (↑i : Int)) (w * n.ns - n.np) c A (k + 1)))) from (BlkW.rows (rows_to (row1 IntKind.i8) (r := List.map (row1 IntKind.i8) (winJ T (h * n.ns - n.np + (↑i : Int)) (w * n.ns - n.np) c A k)) (l := winJ T (h * n.ns - n.np + (↑i : Int)) (w * n.ns - n.np) c A k) (m := winJ T (h * n.ns - n.np + (↑i : Int)) (w * n.ns - n.np) c A (k + 1)) rfl (show (winJ T (h * n.ns - n.np + (↑i : Int)) (w * n.ns - n.np) c A k) = (winJ T (h * n.ns - n.np + (↑i : Int)) (w * n.ns - n.np) c A (k + 1)) from (by (rw [y2 (by unfold inT; omega)])))))) <| .n)
set_option maxRecDepth 100000 in
set_option maxHeartbeats 2000000 in
theorem win_j_e (T : Ten) (n : Nod) (h w c : Int) (i : Nat) (A : List Int) (ok : WnOk T n h w c) (hi : i < n.nk.toNat) (hA : A.length ≤ 25) : VT Try.prog (fnC Try.f197 [1, 1, 0, 1, 0, 0, 1, 0, 0, 1, 0, 0]) (win_j_I T n h w c i A (n.nk.toNat)) (.exit 2) (win_j_Z T n h w c i A) := by
  obtain ⟨r, k1, k5, s1, s4, p0, p4, h0, h1, w0, w1, c0, c1⟩ := id ok
  exact VT.run (W := [.r [] [], .br false]) (G := [.any (rg [(22, 4)]), .sort]) (by kernel_rfl) (.c (decide_eq_false (p := ((↑n.nk.toNat : Int) < n.nk)) (by omega)) <| .n)
theorem win_j (T : Ten) (n : Nod) (h w c : Int) (i : Nat) (A : List Int) (ok : WnOk T n h w c) (hi : i < n.nk.toNat) (hA : A.length ≤ 25) : VT Try.prog (fnC Try.f197 [1, 1, 0, 1, 0, 0, 1, 0, 0, 1, 0]) (win_j_I T n h w c i A 0) (.exit 2) (win_j_Z T n h w c i A) :=
  VT.loop (fun k => win_j_I T n h w c i A k) (n.nk.toNat) (fun k hk => win_j_s T n h w c i A ok hi hA k hk) (win_j_e T n h w c i A ok hi hA) (by intro h; cases h)

noncomputable def win_i_I (T : Ten) (n : Nod) (h w c : Int) (k : Nat) : VS := stt 75 [(2, i64 h), (3, i64 w), (4, i64 c), (5, .ptr 5 0 0), (6, .ptr 6 0 0), (11, .own 900), (12, i64 k)] [(5, .var [i64 T.h, i64 T.x, i64 T.c, ints .i8 T.d]), (6, .var (nodC n)), (900, .slc 30 1 ((winI T n.nk.toNat (h * n.ns - n.np) (w * n.ns - n.np) c k).map (row1 .i8)))]
noncomputable def win_i_Z (T : Ten) (n : Nod) (h w c : Int) : VS := win_i_I T n h w c (n.nk.toNat)
set_option maxRecDepth 100000 in
set_option maxHeartbeats 2000000 in
theorem win_i_s (T : Ten) (n : Nod) (h w c : Int) (ok : WnOk T n h w c) (k : Nat) (hk : k < n.nk.toNat) : VT Try.prog (fnC Try.f197 [1, 1, 0, 1, 0, 0]) (win_i_I T n h w c k) .normal (win_i_I T n h w c (k + 1)) := by
  obtain ⟨r, k1, k5, s1, s4, p0, p4, h0, h1, w0, w1, c0, c1⟩ := id ok
  have g1 := winI_len T n.nk.toNat (h * n.ns - n.np) (w * n.ns - n.np) c k
  have g2 : k * n.nk.toNat ≤ 5 * 5 := Nat.mul_le_mul (by omega) (by omega)
  have oz3 := @win_j (T) (n) (h) (w) (c) (k) (winI T n.nk.toNat (h * n.ns - n.np) (w * n.ns - n.np) c k) ok hk (by omega)
  exact VT.run (W := [.r [] [], .br true, .r [] [], .code [.any (rg [(16, 4)]), .weak 13 (i64 (↑0 : Int)), .blk 900 (Blk.slc 30 1 (List.map (row1 IntKind.i8) (winJ T (h * n.ns - n.np + (↑k : Int)) (w * n.ns - n.np) c (winI T n.nk.toNat (h * n.ns - n.np) (w * n.ns - n.np) c k) 0))), .sort] (Exit.exit 2) (zO oz3), .r [] [.n ((↑k : Int) + 1)]]) (G := [.any [13, 20, 21], .weak 12 (i64 (↑(k + 1) : Int)), .blk 900 (Blk.slc 30 1 (List.map (row1 IntKind.i8) (winI T n.nk.toNat (h * n.ns - n.np) (w * n.ns - n.np) c (k + 1)))), .sort]) (by kernel_rfl) (.c (decide_eq_true (p := ((↑k : Int) < n.nk)) (by omega)) <| .c (Weak.int (k := .i64) (show ((0) : Int) = ((↑0 : Int)) from (by omega))) <| .c (show BlkW (Blk.slc 30 1 (List.map (row1 IntKind.i8) (winI T n.nk.toNat (h * n.ns - n.np) (w * n.ns - n.np) c k))) (Blk.slc 30 1 (List.map (row1 IntKind.i8) (winJ T (h * n.ns - n.np + (↑k : Int)) (w * n.ns - n.np) c (winI T n.nk.toNat (h * n.ns - n.np) (w * n.ns - n.np) c k) 0))) from (BlkW.rows (rows_to (row1 IntKind.i8) (r := List.map (row1 IntKind.i8) (winI T n.nk.toNat (h * n.ns - n.np) (w * n.ns - n.np) c k)) (l := winI T n.nk.toNat (h * n.ns - n.np) (w * n.ns - n.np) c k) (m := winJ T (h * n.ns - n.np + (↑k : Int)) (w * n.ns - n.np) c (winI T n.nk.toNat (h * n.ns - n.np) (w * n.ns - n.np) c k) 0) rfl (show (winI T n.nk.toNat (h * n.ns - n.np) (w * n.ns - n.np) c k) = (winJ T (h * n.ns - n.np + (↑k : Int)) (w * n.ns - n.np) c (winI T n.nk.toNat (h * n.ns - n.np) (w * n.ns - n.np) c k) 0) from (by rfl))))) <| .c oz3 <| .c (IntWalk.i64_in ((↑k : Int) + 1) (by omega)) <| .c (Weak.int (k := .i64) (show (((↑k : Int) + 1) : Int) = ((↑(k + 1) : Int)) from (by omega))) <| .c (show BlkW (Blk.slc 30 1 (List.map (row1 IntKind.i8) (winJ T (h * n.ns - n.np + (↑k : Int)) (w * n.ns - n.np) c (winI T n.nk.toNat (h * n.ns - n.np) (w * n.ns - n.np) c k) n.nk.toNat))) (Blk.slc 30 1 (List.map (row1 IntKind.i8) (winI T n.nk.toNat (h * n.ns - n.np) (w * n.ns - n.np) c (k + 1)))) from (BlkW.rows (rows_to (row1 IntKind.i8) (r := List.map (row1 IntKind.i8) (winJ T (h * n.ns - n.np + (↑k : Int)) (w * n.ns - n.np) c (winI T n.nk.toNat (h * n.ns - n.np) (w * n.ns - n.np) c k) n.nk.toNat)) (l := winJ T (h * n.ns - n.np + (↑k : Int)) (w * n.ns - n.np) c (winI T n.nk.toNat (h * n.ns - n.np) (w * n.ns - n.np) c k) n.nk.toNat) (m := winI T n.nk.toNat (h * n.ns - n.np) (w * n.ns - n.np) c (k + 1)) rfl (show (winJ T (h * n.ns - n.np + (↑k : Int)) (w * n.ns - n.np) c (winI T n.nk.toNat (h * n.ns - n.np) (w * n.ns - n.np) c k) n.nk.toNat) = (winI T n.nk.toNat (h * n.ns - n.np) (w * n.ns - n.np) c (k + 1)) from (by (rw [winI])))))) <| .n)
set_option maxRecDepth 100000 in
set_option maxHeartbeats 2000000 in
theorem win_i_e (T : Ten) (n : Nod) (h w c : Int) (ok : WnOk T n h w c) : VT Try.prog (fnC Try.f197 [1, 1, 0, 1, 0, 0]) (win_i_I T n h w c (n.nk.toNat)) (.exit 0) (win_i_Z T n h w c) := by
  obtain ⟨r, k1, k5, s1, s4, p0, p4, h0, h1, w0, w1, c0, c1⟩ := id ok
  exact VT.run (W := [.r [] [], .br false]) (G := [.any (rg [(16, 4)]), .sort]) (by kernel_rfl) (.c (decide_eq_false (p := ((↑n.nk.toNat : Int) < n.nk)) (by omega)) <| .n)
theorem win_i (T : Ten) (n : Nod) (h w c : Int) (ok : WnOk T n h w c) : VT Try.prog (fnC Try.f197 [1, 1, 0, 1, 0]) (win_i_I T n h w c 0) (.exit 0) (win_i_Z T n h w c) :=
  VT.loop (fun k => win_i_I T n h w c k) (n.nk.toNat) (fun k hk => win_i_s T n h w c ok k hk) (win_i_e T n h w c ok) (by intro h; cases h)

set_option maxRecDepth 100000 in
set_option maxHeartbeats 2000000 in
theorem window_v (T : Ten) (n : Nod) (h w c : Int) (ok : WnOk T n h w c) : VC Try.prog 197 ([ten .i8 T, nod n, i64 h, i64 w, i64 c]) (ints .i8 (winL T n h w c)) := by
  have oz1 := @win_i (T) (n) (h) (w) (c) ok
  exact VC.run (fn := Try.f197) (W := [.r [] [], .r [] [], .r [] [], .code [.any [0, 1, 10], .weak 12 (i64 (↑0 : Int)), .nils 11 900 30 1, .sort] (Exit.exit 0) (zO oz1), .r [] []]) Try.func197 (by kernel_rfl) (.c (Weak.int (k := .i64) (show ((0) : Int) = ((↑0 : Int)) from (by omega))) <| .c oz1 <| .n)
/-- The nearest one to a quotient. -/
def nearP (a m : Int) : Int := if m - a % m ≤ a % m then a / m + 1 else a / m
def nearE (s m : Int) : Int := if m < 1 then 0 else if s < 0 then -(nearP (-s) m) else nearP s m
theorem nearP_bd {a m : Int} (h0 : 0 ≤ a) (h1 : a ≤ 1000000) (hm : 1 ≤ m) : 0 ≤ a / m ∧ a / m ≤ 1000000 ∧ 0 ≤ a % m ∧ a % m < m := by
  have q1 := Int.ediv_nonneg h0 (show 0 ≤ m by omega)
  have q2 := Int.ediv_le_self m h0
  have q3 := Int.emod_nonneg a (show m ≠ 0 by omega)
  have q4 := Int.emod_lt_of_pos a (show 0 < m by omega)
  omega
set_option maxRecDepth 100000 in
set_option maxHeartbeats 2000000 in
theorem near_v (s m : Int) (h0 : -1000000 ≤ s) (h1 : s ≤ 1000000) (m1 : m ≤ 1000000) : VC Try.prog 220 ([i64 s, i64 m]) (i64 (nearE s m)) := by
  have q1 := fun (a : 0 ≤ s) (b : 1 ≤ m) => nearP_bd a h1 b
  have q2 := fun (a : 0 ≤ -s) (b : 1 ≤ m) => nearP_bd a (by omega) b
  rw [show -s = 0 - s by omega] at q2
  rcases Bool.eq_false_or_eq_true (decide (m < 1)) with hc0 | hc0
  · have gc0 := of_decide_eq_true hc0
    exact (VC.run (fn := Try.f220) (W := [.r [] [], .r [] [], .br true, .r [] []]) (r := i64 0) Try.func220 (by kernel_rfl) (.c hc0 <| .n)).weak (WeakL.refl _) (Weak.int (show ((0) : Int) = (nearE s m) from (by (unfold nearE; rw [if_pos (by omega)]))))
  · have gc0 := of_decide_eq_false hc0
    rcases Bool.eq_false_or_eq_true (decide (s < 0)) with hc1 | hc1
    · have gc1 := of_decide_eq_true hc1
      have oz2 := (IntWalk.i64_in (0 - s) (by omega))
      have oz3 := (show m ≠ 0 by omega)
      have oz4 := (show IntKind.i64.wrap ((0 - s).tdiv m) = (0 - s) / m from (Eq.trans (congrArg _ (Int.tdiv_eq_ediv_of_nonneg (by omega))) (by exact IntWalk.i64_in _ (by omega))))
      have oz6 := (show (0 - s).tmod m = (0 - s) % m from (Int.tmod_eq_emod_of_nonneg (by omega)))
      have oz9 := (IntWalk.i64_in (m - (0 - s) % m) (by omega))
      rcases Bool.eq_false_or_eq_true (decide ((0 - s) % m ≥ m - (0 - s) % m)) with hc2 | hc2
      · have gc2 := of_decide_eq_true hc2
        exact (VC.run (fn := Try.f220) (W := [.r [] [], .r [] [], .br false, .r [] [], .r [] [], .br true, .r [] [.n (nO oz2)], .r [] [.n ((0 - s) / m)], .r [] [.n ((0 - s) % m), .n ((0 - s) % m), .n (nO oz9)], .br true, .r [] [.n ((0 - s) / m + 1)], .r [] [], .br true, .r [] [.n (0 - ((0 - s) / m + 1))]]) (r := i64 (0 - ((0 - s) / m + 1))) Try.func220 (by kernel_rfl) (.c hc0 <| .c hc1 <| .c oz2 <| .c oz3 <| .c oz4 <| .c oz3 <| .c oz6 <| .c oz3 <| .c oz6 <| .c oz9 <| .c hc2 <| .c (IntWalk.i64_in ((0 - s) / m + 1) (by omega)) <| .c hc1 <| .c (IntWalk.i64_in (0 - ((0 - s) / m + 1)) (by omega)) <| .n)).weak (WeakL.refl _) (Weak.int (show ((0 - ((0 - s) / m + 1)) : Int) = (nearE s m) from (by (unfold nearE nearP; rw [if_neg (by omega), if_pos (by omega), show -s = 0 - s by omega, if_pos (by omega)]; omega))))
      · have gc2 := of_decide_eq_false hc2
        exact (VC.run (fn := Try.f220) (W := [.r [] [], .r [] [], .br false, .r [] [], .r [] [], .br true, .r [] [.n (nO oz2)], .r [] [.n ((0 - s) / m)], .r [] [.n ((0 - s) % m), .n ((0 - s) % m), .n (nO oz9)], .br false, .r [] [], .br true, .r [] [.n (0 - (0 - s) / m)]]) (r := i64 (0 - (0 - s) / m)) Try.func220 (by kernel_rfl) (.c hc0 <| .c hc1 <| .c oz2 <| .c oz3 <| .c oz4 <| .c oz3 <| .c oz6 <| .c oz3 <| .c oz6 <| .c oz9 <| .c hc2 <| .c hc1 <| .c (IntWalk.i64_in (0 - (0 - s) / m) (by omega)) <| .n)).weak (WeakL.refl _) (Weak.int (show ((0 - (0 - s) / m) : Int) = (nearE s m) from (by (unfold nearE nearP; rw [if_neg (by omega), if_pos (by omega), show -s = 0 - s by omega, if_neg (by omega)]; omega))))
    · have gc1 := of_decide_eq_false hc1
      have oz2 := (show m ≠ 0 by omega)
      have oz3 := (show IntKind.i64.wrap (s.tdiv m) = s / m from (Eq.trans (congrArg _ (Int.tdiv_eq_ediv_of_nonneg (by omega))) (by exact IntWalk.i64_in _ (by omega))))
      have oz5 := (show s.tmod m = s % m from (Int.tmod_eq_emod_of_nonneg (by omega)))
      have oz8 := (IntWalk.i64_in (m - s % m) (by omega))
      rcases Bool.eq_false_or_eq_true (decide (s % m ≥ m - s % m)) with hc2 | hc2
      · have gc2 := of_decide_eq_true hc2
        exact (VC.run (fn := Try.f220) (W := [.r [] [], .r [] [], .br false, .r [] [], .r [] [], .br false, .r [] [.n (s / m)], .r [] [.n (s % m), .n (s % m), .n (nO oz8)], .br true, .r [] [.n (s / m + 1)], .r [] [], .br false, .r [] []]) (r := i64 (s / m + 1)) Try.func220 (by kernel_rfl) (.c hc0 <| .c hc1 <| .c oz2 <| .c oz3 <| .c oz2 <| .c oz5 <| .c oz2 <| .c oz5 <| .c oz8 <| .c hc2 <| .c (IntWalk.i64_in (s / m + 1) (by omega)) <| .c hc1 <| .n)).weak (WeakL.refl _) (Weak.int (show ((s / m + 1) : Int) = (nearE s m) from (by (unfold nearE nearP; rw [if_neg (by omega), if_neg (by omega), if_pos (by omega)]))))
      · have gc2 := of_decide_eq_false hc2
        exact (VC.run (fn := Try.f220) (W := [.r [] [], .r [] [], .br false, .r [] [], .r [] [], .br false, .r [] [.n (s / m)], .r [] [.n (s % m), .n (s % m), .n (nO oz8)], .br false, .r [] [], .br false, .r [] []]) (r := i64 (s / m)) Try.func220 (by kernel_rfl) (.c hc0 <| .c hc1 <| .c oz2 <| .c oz3 <| .c oz2 <| .c oz5 <| .c oz2 <| .c oz5 <| .c oz8 <| .c hc2 <| .c hc1 <| .n)).weak (WeakL.refl _) (Weak.int (show ((s / m) : Int) = (nearE s m) from (by (unfold nearE nearP; rw [if_neg (by omega), if_neg (by omega), if_neg (by omega)]))))
def sumL (l : List Int) (k : Nat) : Int := sumN (fun i => l.getD i 0) k
/-- The mean of numbers. -/
def meanE (l : List Int) : Int := IntKind.i8.wrap (nearE (sumL l l.length) l.length)
theorem sumL_bd {l : List Int} (h : ∀ v ∈ l, In8 v) (k : Nat) : -(k * 128) ≤ sumL l k ∧ sumL l k ≤ k * 128 := sumN_bd (B := 128) k fun i _ => by have := gt8 h i; omega
noncomputable def mean_l_I (l : List Int) (k : Nat) : VS := stt 23 [(0, ints .i8 l), (3, i64 (sumL l k)), (4, i64 k)] []
noncomputable def mean_l_Z (l : List Int) : VS := mean_l_I l (l.length)
set_option maxRecDepth 100000 in
set_option maxHeartbeats 2000000 in
theorem mean_l_s (l : List Int) (hl : l.length ≤ 1000) (h : ∀ v ∈ l, In8 v) (k : Nat) (hk : k < l.length) : VT Try.prog (fnC Try.f198 [1, 1, 0, 1, 0, 0]) (mean_l_I l k) .normal (mean_l_I l (k + 1)) := by
  have q1 := sumL_bd h k
  have q2 := gt8 h k
  have q3 : sumL l (k + 1) = sumL l k + l.getD k 0 := rfl
  exact VT.run (W := [.r [] [], .br true, .r [] [.row [i8 (l.getD k 0)], .n (l.getD k 0), .n (sumL l k + l.getD k 0)], .r [] [.n ((↑k : Int) + 1)]]) (G := [.any (rg [(5, 13)]), .weak 3 (i64 (sumL l (k + 1))), .weak 4 (i64 (↑(k + 1) : Int)), .sort]) (by kernel_rfl) (.c (show decide ((↑k : Int) < (↑(List.map (row1 IntKind.i8) l).length : Int)) = true by (simp; omega)) <| .c (show 0 ≤ (↑k : Int) by omega) <| .c (map_at (row1 IntKind.i8) (0) (l := l) (i := k) hk) <| .c (IntWalk.i64_in (l.getD k 0) (by omega)) <| .c (IntWalk.i64_in (sumL l k + l.getD k 0) (by omega)) <| .c (IntWalk.i64_in ((↑k : Int) + 1) (by omega)) <| .c (Weak.int (k := .i64) (show ((sumL l k + l.getD k 0) : Int) = (sumL l (k + 1)) from (by omega))) <| .c (Weak.int (k := .i64) (show (((↑k : Int) + 1) : Int) = ((↑(k + 1) : Int)) from (by omega))) <| .n)
set_option maxRecDepth 100000 in
set_option maxHeartbeats 2000000 in
theorem mean_l_e (l : List Int) (hl : l.length ≤ 1000) (h : ∀ v ∈ l, In8 v) : VT Try.prog (fnC Try.f198 [1, 1, 0, 1, 0, 0]) (mean_l_I l (l.length)) (.exit 0) (mean_l_Z l) := by
  exact VT.run (W := [.r [] [], .br false]) (G := [.any [5, 6, 7, 8], .sort]) (by kernel_rfl) (.c (show decide ((↑l.length : Int) < (↑(List.map (row1 IntKind.i8) l).length : Int)) = false by (simp; done)) <| .n)
theorem mean_l (l : List Int) (hl : l.length ≤ 1000) (h : ∀ v ∈ l, In8 v) : VT Try.prog (fnC Try.f198 [1, 1, 0, 1, 0]) (mean_l_I l 0) (.exit 0) (mean_l_Z l) :=
  VT.loop (fun k => mean_l_I l k) (l.length) (fun k hk => mean_l_s l hl h k hk) (mean_l_e l hl h) (by intro h; cases h)

set_option maxRecDepth 100000 in
set_option maxHeartbeats 2000000 in
theorem mean_v (l : List Int) (hl : l.length ≤ 1000) (h : ∀ v ∈ l, In8 v) : VC Try.prog 198 ([ints .i8 l]) (i8 (meanE l)) := by
  have q1 := sumL_bd h l.length
  have oz2 := @mean_l (l) hl h
  have oz3 := @near_v (sumL l l.length) ((↑(List.map (row1 IntKind.i8) l).length : Int)) (by omega) (by omega) (by (simp; omega))
  exact (VC.run (fn := Try.f198) (W := [.r [] [], .r [] [], .r [] [], .code [.any [2], .weak 3 (i64 (sumL l 0)), .weak 4 (i64 (↑0 : Int)), .sort] (Exit.exit 0) (zO oz2), .r [] [.callr (rO oz3), .w]]) (r := i8 (IntKind.i8.wrap (nearE (sumL l l.length) (↑(List.map (row1 IntKind.i8) l).length : Int)))) Try.func198 (by kernel_rfl) (.c (Weak.int (k := .i64) (show ((0) : Int) = (sumL l 0) from (by rfl))) <| .c (Weak.int (k := .i64) (show ((0) : Int) = ((↑0 : Int)) from (by omega))) <| .c oz2 <| .c oz3 <| .n)).weak (WeakL.refl _) (Weak.int (show ((IntKind.i8.wrap (nearE (sumL l l.length) (↑(List.map (row1 IntKind.i8) l).length : Int))) : Int) = (meanE l) from (by (unfold meanE; rw [List.length_map]))))
/-- The number at a place of what is pooled. -/
def poolF (T : Ten) (n : Nod) (s : Shp) (m : Bool) (i : Nat) : Int :=
  if m = true then reachHi (winL T n ((i : Int) / s.c / s.x) ((i : Int) / s.c % s.x) ((i : Int) % s.c)) (winL T n ((i : Int) / s.c / s.x) ((i : Int) / s.c % s.x) ((i : Int) % s.c)).length
  else meanE (winL T n ((i : Int) / s.c / s.x) ((i : Int) / s.c % s.x) ((i : Int) % s.c))
abbrev plS (T : Ten) (n : Nod) : Shp := (slideE ⟨T.h, T.x, T.c⟩ n.nk n.ns n.np T.c).1
def poolL (T : Ten) (n : Nod) (m : Bool) (k : Nat) : List Int := (List.range k).map (poolF T n (plS T n) m)
theorem poolL_succ (T : Ten) (n : Nod) (m : Bool) (k : Nat) : poolL T n m (k + 1) = poolL T n m k ++ [poolF T n (plS T n) m k] := by simp [poolL, List.range_succ]
theorem poolL_len (T : Ten) (n : Nod) (m : Bool) (k : Nat) : (poolL T n m k).length = k := by simp [poolL]
structure PlOk (T : Ten) (n : Nod) : Prop where
  ok : T.Ok
  okn : n.Ok
  r : tenRight T = true
  e : (slideE ⟨T.h, T.x, T.c⟩ n.nk n.ns n.np T.c).2 = 0
structure PlN (T : Ten) (n : Nod) : Prop where
  r : TRt T
  k1 : 1 ≤ n.nk
  k5 : n.nk ≤ 5
  s1 : 1 ≤ n.ns
  s4 : n.ns ≤ 4
  p0 : 0 ≤ n.np
  p4 : n.np ≤ 4
  pk : n.np < n.nk
  hk : n.nk ≤ T.h + 2 * n.np
  xk : n.nk ≤ T.x + 2 * n.np
  sh : (plS T n).h = (T.h + 2 * n.np - n.nk) / n.ns + 1
  sx : (plS T n).x = (T.x + 2 * n.np - n.nk) / n.ns + 1
  sc : (plS T n).c = T.c
  h1 : 1 ≤ (plS T n).h
  h2 : (plS T n).h ≤ 16
  x1 : 1 ≤ (plS T n).x
  x2 : (plS T n).x ≤ 16
  en : elems (plS T n).h (plS T n).x (plS T n).c = (plS T n).h * (plS T n).x * (plS T n).c
  el : (plS T n).h * (plS T n).x * (plS T n).c ≤ 1024
theorem PlOk.n {T : Ten} {n : Nod} (h : PlOk T n) : PlN T n := by
  obtain ⟨a1, a2, a3, a4, a5, a6, a7, a8, a9, a10, a11, a12⟩ := slideE_ok h.e
  have c := elems_ok a12
  have r := tenRight.rt h.r
  dsimp only at *
  have e1 : (plS T n).h = (T.h + 2 * n.np - n.nk) / n.ns + 1 := by unfold plS; rw [a11]
  have e2 : (plS T n).x = (T.x + 2 * n.np - n.nk) / n.ns + 1 := by unfold plS; rw [a11]
  have e3 : (plS T n).c = T.c := by unfold plS; rw [a11]
  rw [← e1, ← e2, ← e3] at c
  exact ⟨r, a2, a3, a4, a5, a6, a7, a8, by omega, by omega, e1, e2, e3, by omega, by omega, by omega, by omega, by omega, by omega⟩
/-- A place by its number. -/
theorem at_num {i h x c : Int} (i0 : 0 ≤ i) (i1 : i < h * x * c) (hx : 1 ≤ x) (hc : 1 ≤ c) : 0 ≤ i / c / x ∧ i / c / x < h ∧ 0 ≤ i / c % x ∧ i / c % x < x ∧ 0 ≤ i % c ∧ i % c < c ∧ 0 ≤ i / c ∧ i / c ≤ i := by
  have q1 := Int.ediv_nonneg i0 (show 0 ≤ c by omega)
  have q2 := Int.ediv_nonneg q1 (show 0 ≤ x by omega)
  have q3 : i / c < h * x := Int.ediv_lt_of_lt_mul (by omega) i1
  have q4 : i / c / x < h := Int.ediv_lt_of_lt_mul (by omega) q3
  exact ⟨q2, q4, Int.emod_nonneg _ (by omega), Int.emod_lt_of_pos _ (by omega), Int.emod_nonneg _ (by omega), Int.emod_lt_of_pos _ (by omega), q1, Int.ediv_le_self c i0⟩
noncomputable def pool_l_I (T : Ten) (n : Nod) (m : Bool) (k : Nat) : VS := stt 87 [(2, bv m), (3, .ptr 3 0 0), (4, .ptr 4 0 0), (6, .ptr 6 0 0), (8, .ptr 8 0 0), (10, .ptr 10 0 0), (11, i64 k)] [(3, .var [i64 T.h, i64 T.x, i64 T.c, ints .i8 T.d]), (4, .var (nodC n)), (6, .var [i64 0, i64 0, i64 0, nilv]), (8, .var [i64 (plS T n).h, i64 (plS T n).x, i64 (plS T n).c]), (10, .var [i64 (plS T n).h, i64 (plS T n).x, i64 (plS T n).c, .own 900]), (900, .slc 30 1 ((poolL T n m k).map (row1 .i8)))]
noncomputable def pool_l_Z (T : Ten) (n : Nod) (m : Bool) : VS := pool_l_I T n m ((elems (plS T n).h (plS T n).x (plS T n).c).toNat)
set_option maxRecDepth 100000 in
set_option maxHeartbeats 2000000 in
theorem pool_l_s (T : Ten) (n : Nod) (m : Bool) (ok : PlOk T n) (k : Nat) (hk : k < (elems (plS T n).h (plS T n).x (plS T n).c).toNat) : VT Try.prog (fnC Try.f133 [1, 1, 1, 1, 1, 0, 1, 0, 0]) (pool_l_I T n m k) .normal (pool_l_I T n m (k + 1)) := by
  obtain ⟨r, k1, k5, s1, s4, p0, p4, pk, hk', xk, sh, sx, sc, h1, h2, x1, x2, en, el⟩ := ok.n
  have g1 := r.c1
  have gz := r.c2
  have g2 := at_num (i := (k : Int)) (h := (plS T n).h) (x := (plS T n).x) (c := (plS T n).c) (by omega) (by omega) x1 (by omega)
  have g3 : WnOk T n ((k : Int) / (plS T n).c / (plS T n).x) ((k : Int) / (plS T n).c % (plS T n).x) ((k : Int) % (plS T n).c) := ⟨r, k1, k5, s1, s4, p0, p4, by omega, by omega, by omega, by omega, by omega, by omega⟩
  have g4 := winI_8 ok.ok n.nk.toNat ((k : Int) / (plS T n).c / (plS T n).x * n.ns - n.np) ((k : Int) / (plS T n).c % (plS T n).x * n.ns - n.np) ((k : Int) % (plS T n).c) n.nk.toNat
  have g5 := winI_len T n.nk.toNat ((k : Int) / (plS T n).c / (plS T n).x * n.ns - n.np) ((k : Int) / (plS T n).c % (plS T n).x * n.ns - n.np) ((k : Int) % (plS T n).c) n.nk.toNat
  have g6 : n.nk.toNat * n.nk.toNat ≤ 5 * 5 := Nat.mul_le_mul (by omega) (by omega)
  have g7 := poolL_len T n m k
  have g8 : (winL T n ((k : Int) / (plS T n).c / (plS T n).x) ((k : Int) / (plS T n).c % (plS T n).x) ((k : Int) % (plS T n).c)).length ≤ 25 := Nat.le_trans g5 g6
  have oz0 := @refElems_v ((plS T n).h) ((plS T n).x) ((plS T n).c) (by omega) (by omega) (by omega)
  have oz1 := (decide_eq_true (p := ((↑k : Int) < elems (plS T n).h (plS T n).x (plS T n).c)) (by omega))
  have oz2 := (show (plS T n).c ≠ 0 by omega)
  have oz3 := (show IntKind.i64.wrap ((↑k : Int).tdiv (plS T n).c) = (↑k : Int) / (plS T n).c from (Eq.trans (congrArg _ (Int.tdiv_eq_ediv_of_nonneg (by omega))) (by exact IntWalk.i64_in _ (by omega))))
  have oz4 := (show (plS T n).x ≠ 0 by omega)
  have oz5 := (show IntKind.i64.wrap (((↑k : Int) / (plS T n).c).tdiv (plS T n).x) = (↑k : Int) / (plS T n).c / (plS T n).x from (Eq.trans (congrArg _ (Int.tdiv_eq_ediv_of_nonneg (by omega))) (by exact IntWalk.i64_in _ (by omega))))
  have oz9 := (show ((↑k : Int) / (plS T n).c).tmod (plS T n).x = (↑k : Int) / (plS T n).c % (plS T n).x from (Int.tmod_eq_emod_of_nonneg (by omega)))
  have oz11 := (show (↑k : Int).tmod (plS T n).c = (↑k : Int) % (plS T n).c from (Int.tmod_eq_emod_of_nonneg (by omega)))
  have oz12 := @window_v (T) (n) ((↑k : Int) / (plS T n).c / (plS T n).x) ((↑k : Int) / (plS T n).c % (plS T n).x) ((↑k : Int) % (plS T n).c) g3
  rcases Bool.eq_false_or_eq_true (m) with hc0 | hc0
  · have gc0 : m = true := by first | exact hc0 | exact of_decide_eq_true hc0 | exact of_decide_eq_false hc0 | simpa [eqNums] using hc0 | (simp [eqNums] at hc0 ⊢; first | done | assumption | omega)
    have oz14 := @reach_v (winL T n ((↑k : Int) / (plS T n).c / (plS T n).x) ((↑k : Int) / (plS T n).c % (plS T n).x) ((↑k : Int) % (plS T n).c)) (by omega)
    exact VT.run (W := [.r [] [.callr (rO oz0)], .br true, .r [] [.n ((↑k : Int) / (plS T n).c), .n ((↑k : Int) / (plS T n).c / (plS T n).x), .n ((↑k : Int) / (plS T n).c), .n ((↑k : Int) / (plS T n).c % (plS T n).x), .n ((↑k : Int) % (plS T n).c), .callr (rO oz12)], .r [] [], .br true, .r [] [.callr (rO oz14)], .r [] [], .r [] [.n ((↑k : Int) + 1)]]) (G := [.any (rg [(12, 3), (40, 39)]), .drop [76], .ren 77 900, .weak 11 (i64 (↑(k + 1) : Int)), .blk 900 (Blk.slc 30 1 (List.map (row1 IntKind.i8) (poolL T n m (k + 1)))), .sort]) (by kernel_rfl) (.c oz0 <| .c oz1 <| .c oz2 <| .c oz3 <| .c oz4 <| .c oz5 <| .c oz2 <| .c oz3 <| .c oz4 <| .c oz9 <| .c oz2 <| .c oz11 <| .c oz12 <| .c hc0 <| .c oz14 <| .c (show ((List.map (row1 IntKind.i8) (poolL T n m k)).length + 1) * 1 ≤ 140737488355328 by (simp; omega)) <| .c (show (List.map (row1 IntKind.i8) (poolL T n m k)).length + 1 ≤ 9223372036854775807 by (simp; omega)) <| .c (IntWalk.i64_in ((↑k : Int) + 1) (by omega)) <| .c (Weak.int (k := .i64) (show (((↑k : Int) + 1) : Int) = ((↑(k + 1) : Int)) from (by omega))) <| .c (show BlkW (Blk.slc 30 1 (List.map (row1 IntKind.i8) (poolL T n m k) ++ [[i8 (reachHi (winL T n ((↑k : Int) / (plS T n).c / (plS T n).x) ((↑k : Int) / (plS T n).c % (plS T n).x) ((↑k : Int) % (plS T n).c)) (winL T n ((↑k : Int) / (plS T n).c / (plS T n).x) ((↑k : Int) / (plS T n).c % (plS T n).x) ((↑k : Int) % (plS T n).c)).length)]])) (Blk.slc 30 1 (List.map (row1 IntKind.i8) (poolL T n m (k + 1)))) from (BlkW.rows (rows_to (row1 IntKind.i8) (r := List.map (row1 IntKind.i8) (poolL T n m k) ++ [[i8 (reachHi (winL T n ((↑k : Int) / (plS T n).c / (plS T n).x) ((↑k : Int) / (plS T n).c % (plS T n).x) ((↑k : Int) % (plS T n).c)) (winL T n ((↑k : Int) / (plS T n).c / (plS T n).x) ((↑k : Int) / (plS T n).c % (plS T n).x) ((↑k : Int) % (plS T n).c)).length)]]) (l := poolL T n m k ++ [reachHi (winL T n ((↑k : Int) / (plS T n).c / (plS T n).x) ((↑k : Int) / (plS T n).c % (plS T n).x) ((↑k : Int) % (plS T n).c)) (winL T n ((↑k : Int) / (plS T n).c / (plS T n).x) ((↑k : Int) / (plS T n).c % (plS T n).x) ((↑k : Int) % (plS T n).c)).length]) (m := poolL T n m (k + 1)) (by first | (simp only [List.map_append, List.map_cons, List.map_nil, List.map_set, List.map_replicate, List.map_take, List.map_drop]; done) | rfl | (simp only [List.map_append, List.map_cons, List.map_nil, List.map_set, List.map_replicate, List.map_take, List.map_drop]; rfl)) (show (poolL T n m k ++ [reachHi (winL T n ((↑k : Int) / (plS T n).c / (plS T n).x) ((↑k : Int) / (plS T n).c % (plS T n).x) ((↑k : Int) % (plS T n).c)) (winL T n ((↑k : Int) / (plS T n).c / (plS T n).x) ((↑k : Int) / (plS T n).c % (plS T n).x) ((↑k : Int) % (plS T n).c)).length]) = (poolL T n m (k + 1)) from (by (rw [poolL_succ, poolF, if_pos (by assumption)])))))) <| .n)
  · have gc0 : m = false := by first | exact hc0 | exact of_decide_eq_true hc0 | exact of_decide_eq_false hc0 | simpa [eqNums] using hc0 | (simp [eqNums] at hc0 ⊢; first | done | assumption | omega)
    have oz14 := @mean_v (winL T n ((↑k : Int) / (plS T n).c / (plS T n).x) ((↑k : Int) / (plS T n).c % (plS T n).x) ((↑k : Int) % (plS T n).c)) (by omega) g4
    exact VT.run (W := [.r [] [.callr (rO oz0)], .br true, .r [] [.n ((↑k : Int) / (plS T n).c), .n ((↑k : Int) / (plS T n).c / (plS T n).x), .n ((↑k : Int) / (plS T n).c), .n ((↑k : Int) / (plS T n).c % (plS T n).x), .n ((↑k : Int) % (plS T n).c), .callr (rO oz12)], .r [] [], .br false, .r [] [.callr (rO oz14)], .r [] [.n ((↑k : Int) + 1)]]) (G := [.any (rg [(12, 1), (40, 28), (79, 7)]), .drop [83], .ren 84 900, .weak 11 (i64 (↑(k + 1) : Int)), .blk 900 (Blk.slc 30 1 (List.map (row1 IntKind.i8) (poolL T n m (k + 1)))), .sort]) (by kernel_rfl) (.c oz0 <| .c oz1 <| .c oz2 <| .c oz3 <| .c oz4 <| .c oz5 <| .c oz2 <| .c oz3 <| .c oz4 <| .c oz9 <| .c oz2 <| .c oz11 <| .c oz12 <| .c hc0 <| .c oz14 <| .c (show ((List.map (row1 IntKind.i8) (poolL T n m k)).length + 1) * 1 ≤ 140737488355328 by (simp; omega)) <| .c (show (List.map (row1 IntKind.i8) (poolL T n m k)).length + 1 ≤ 9223372036854775807 by (simp; omega)) <| .c (IntWalk.i64_in ((↑k : Int) + 1) (by omega)) <| .c (Weak.int (k := .i64) (show (((↑k : Int) + 1) : Int) = ((↑(k + 1) : Int)) from (by omega))) <| .c (show BlkW (Blk.slc 30 1 (List.map (row1 IntKind.i8) (poolL T n m k) ++ [[i8 (meanE (winL T n ((↑k : Int) / (plS T n).c / (plS T n).x) ((↑k : Int) / (plS T n).c % (plS T n).x) ((↑k : Int) % (plS T n).c)))]])) (Blk.slc 30 1 (List.map (row1 IntKind.i8) (poolL T n m (k + 1)))) from (BlkW.rows (rows_to (row1 IntKind.i8) (r := List.map (row1 IntKind.i8) (poolL T n m k) ++ [[i8 (meanE (winL T n ((↑k : Int) / (plS T n).c / (plS T n).x) ((↑k : Int) / (plS T n).c % (plS T n).x) ((↑k : Int) % (plS T n).c)))]]) (l := poolL T n m k ++ [meanE (winL T n ((↑k : Int) / (plS T n).c / (plS T n).x) ((↑k : Int) / (plS T n).c % (plS T n).x) ((↑k : Int) % (plS T n).c))]) (m := poolL T n m (k + 1)) (by first | (simp only [List.map_append, List.map_cons, List.map_nil, List.map_set, List.map_replicate, List.map_take, List.map_drop]; done) | rfl | (simp only [List.map_append, List.map_cons, List.map_nil, List.map_set, List.map_replicate, List.map_take, List.map_drop]; rfl)) (show (poolL T n m k ++ [meanE (winL T n ((↑k : Int) / (plS T n).c / (plS T n).x) ((↑k : Int) / (plS T n).c % (plS T n).x) ((↑k : Int) % (plS T n).c))]) = (poolL T n m (k + 1)) from (by (rw [poolL_succ, poolF, if_neg (by simp_all)])))))) <| .n)
set_option maxRecDepth 100000 in
set_option maxHeartbeats 2000000 in
theorem pool_l_e (T : Ten) (n : Nod) (m : Bool) (ok : PlOk T n) : VT Try.prog (fnC Try.f133 [1, 1, 1, 1, 1, 0, 1, 0, 0]) (pool_l_I T n m ((elems (plS T n).h (plS T n).x (plS T n).c).toNat)) (.exit 0) (pool_l_Z T n m) := by
  obtain ⟨r, k1, k5, s1, s4, p0, p4, pk, hk', xk, sh, sx, sc, h1, h2, x1, x2, en, el⟩ := ok.n
  have g1 := r.c1
  have gz := r.c2
  have g9 : 1 ≤ (plS T n).h * (plS T n).x * (plS T n).c := by exact Int.mul_pos (Int.mul_pos (by omega) (by omega)) (by omega)
  have oz0 := @refElems_v ((plS T n).h) ((plS T n).x) ((plS T n).c) (by omega) (by omega) (by omega)
  exact VT.run (W := [.r [] [.callr (rO oz0)], .br false]) (G := [.any (rg [(40, 4)]), .sort]) (by kernel_rfl) (.c oz0 <| .c (decide_eq_false (p := ((↑(elems (plS T n).h (plS T n).x (plS T n).c).toNat : Int) < elems (plS T n).h (plS T n).x (plS T n).c)) (by omega)) <| .n)
theorem pool_l (T : Ten) (n : Nod) (m : Bool) (ok : PlOk T n) : VT Try.prog (fnC Try.f133 [1, 1, 1, 1, 1, 0, 1, 0]) (pool_l_I T n m 0) (.exit 0) (pool_l_Z T n m) :=
  VT.loop (fun k => pool_l_I T n m k) ((elems (plS T n).h (plS T n).x (plS T n).c).toNat) (fun k hk => pool_l_s T n m ok k hk) (pool_l_e T n m ok) (by intro h; cases h)
/-- What is pooled. -/
def poolOf (T : Ten) (n : Nod) (m : Bool) : Ten × Int := if tenRight T = true then (if (slideE ⟨T.h, T.x, T.c⟩ n.nk n.ns n.np T.c).2 = 0 then (⟨(plS T n).h, (plS T n).x, (plS T n).c, poolL T n m (elems (plS T n).h (plS T n).x (plS T n).c).toNat⟩, 0) else (ten0, (slideE ⟨T.h, T.x, T.c⟩ n.nk n.ns n.np T.c).2)) else (ten0, 5)
set_option maxRecDepth 100000 in
set_option maxHeartbeats 2000000 in
theorem pool_y (T : Ten) (n : Nod) (m : Bool) (ok : PlOk T n) : VC Try.prog 133 ([ten .i8 T, nod n, bv m]) (.tup [ten .i8 (poolOf T n m).1, i64 (poolOf T n m).2]) := by
  have ok1 := ok.ok
  have okc := ok1.c
  have g1 := ok.e
  have g2 := ok.r
  have g3 := ok.n.en
  have oz0 := @refTRight_v (T) ok1
  have oz2 := @refSlide_v (Shp.mk T.h T.x T.c) (n.nk) (n.ns) (n.np) (T.c) (by (exact Shp.mk_ok ok1.h ok1.x ok1.c)) okc
  have oz5 := @pool_l (T) (n) (m) ok
  exact (VC.run (fn := Try.f133) (W := [.r [] [], .r [] [.callr (rO oz0)], .br false, .r [] [.callr (rO oz2)], .r [] [], .br false, .r [] [], .r [] [], .code [.any (rg [(0, 2), (7, 1), (9, 1), (15, 3), (19, 17), (38, 2)]), .weak 11 (i64 (↑0 : Int)), .nilc 900 30 1 10 3, .sort] (Exit.exit 0) (zO oz5), .r [] []]) (r := AV.tup [AV.agg [i64 (plS T n).h, i64 (plS T n).x, i64 (plS T n).c, AV.sl 1 (List.map (row1 IntKind.i8) (poolL T n m (elems (plS T n).h (plS T n).x (plS T n).c).toNat))], i64 0]) Try.func133 (by kernel_rfl) (.c oz0 <| .c (show (!tenRight T) = false by (simp; omega)) <| .c oz2 <| .c (show ((slideE (Shp.mk T.h T.x T.c) n.nk n.ns n.np T.c).snd != 0) = false by (simp; omega)) <| .c (Weak.int (k := .i64) (show ((0) : Int) = ((↑0 : Int)) from (by omega))) <| .c oz5 <| .n)).weak (WeakL.refl _) (Weak.tup (.cons (Weak.agg (.cons (Weak.int (show (((plS T n).h) : Int) = ((poolOf T n m).fst.h) from (by (unfold poolOf; rw [if_pos g2, if_pos g1])))) (.cons (Weak.int (show (((plS T n).x) : Int) = ((poolOf T n m).fst.x) from (by (unfold poolOf; rw [if_pos g2, if_pos g1])))) (.cons (Weak.int (show (((plS T n).c) : Int) = ((poolOf T n m).fst.c) from (by (unfold poolOf; rw [if_pos g2, if_pos g1])))) (.cons (Weak.rows (rows_to (row1 IntKind.i8) (r := List.map (row1 IntKind.i8) (poolL T n m (elems (plS T n).h (plS T n).x (plS T n).c).toNat)) (l := poolL T n m (elems (plS T n).h (plS T n).x (plS T n).c).toNat) (m := (poolOf T n m).fst.d) rfl (show (poolL T n m (elems (plS T n).h (plS T n).x (plS T n).c).toNat) = ((poolOf T n m).fst.d) from (by (unfold poolOf; rw [if_pos g2, if_pos g1]))))) .nil))))) (.cons (Weak.int (show ((0) : Int) = ((poolOf T n m).snd) from (by (unfold poolOf; rw [if_pos g2, if_pos g1])))) .nil)))

set_option maxRecDepth 100000 in
set_option maxHeartbeats 2000000 in
theorem pool_n (T : Ten) (n : Nod) (m : Bool) (ok : T.Ok) (okn : n.Ok) (hn : tenRight T = false ∨ (slideE ⟨T.h, T.x, T.c⟩ n.nk n.ns n.np T.c).2 ≠ 0) : VC Try.prog 133 ([ten .i8 T, nod n, bv m]) (.tup [ten .i8 (poolOf T n m).1, i64 (poolOf T n m).2]) := by
  have okc := ok.c
  have oz0 := @refTRight_v (T) ok
  rcases Bool.eq_false_or_eq_true (!tenRight T) with hc0 | hc0
  · have gc0 : tenRight T = false := by first | exact hc0 | exact of_decide_eq_true hc0 | exact of_decide_eq_false hc0 | simpa [eqNums] using hc0 | (simp [eqNums] at hc0 ⊢; first | done | assumption | omega)
    exact (VC.run (fn := Try.f133) (W := [.r [] [], .r [] [.callr (rO oz0)], .br true, .r [] []]) (r := AV.tup [AV.agg [i64 0, i64 0, i64 0, AV.lit (Value.slice none 0 0)], i64 5]) Try.func133 (by kernel_rfl) (.c oz0 <| .c hc0 <| .n)).weak (WeakL.refl _) (Weak.tup (.cons (Weak.agg (.cons (Weak.int (show ((0) : Int) = ((poolOf T n m).fst.h) from (by (unfold poolOf; rw [if_neg (by simp_all)]; first | done | rfl)))) (.cons (Weak.int (show ((0) : Int) = ((poolOf T n m).fst.x) from (by (unfold poolOf; rw [if_neg (by simp_all)]; first | done | rfl)))) (.cons (Weak.int (show ((0) : Int) = ((poolOf T n m).fst.c) from (by (unfold poolOf; rw [if_neg (by simp_all)]; first | done | rfl)))) (.cons (Weak.nilr (show [] = (List.map (row1 IntKind.i8) (poolOf T n m).fst.d) from (by (unfold poolOf; rw [if_neg (by simp_all)]; first | done | rfl)))) .nil))))) (.cons (Weak.int (show ((5) : Int) = ((poolOf T n m).snd) from (by (unfold poolOf; rw [if_neg (by simp_all)]; first | done | rfl)))) .nil)))
  · have gc0 : tenRight T = true := by first | exact hc0 | exact of_decide_eq_true hc0 | exact of_decide_eq_false hc0 | simpa [eqNums] using hc0 | (simp [eqNums] at hc0 ⊢; first | done | assumption | omega)
    have oz2 := @refSlide_v (Shp.mk T.h T.x T.c) (n.nk) (n.ns) (n.np) (T.c) (by (exact Shp.mk_ok ok.h ok.x ok.c)) okc
    exact (VC.run (fn := Try.f133) (W := [.r [] [], .r [] [.callr (rO oz0)], .br false, .r [] [.callr (rO oz2)], .r [] [], .br true, .r [] []]) (r := AV.tup [AV.agg [i64 0, i64 0, i64 0, AV.lit (Value.slice none 0 0)], i64 (slideE (Shp.mk T.h T.x T.c) n.nk n.ns n.np T.c).snd]) Try.func133 (by kernel_rfl) (.c oz0 <| .c hc0 <| .c oz2 <| .c (show ((slideE (Shp.mk T.h T.x T.c) n.nk n.ns n.np T.c).snd != 0) = true by (rcases hn with hn | hn <;> simp_all; done)) <| .n)).weak (WeakL.refl _) (Weak.tup (.cons (Weak.agg (.cons (Weak.int (show ((0) : Int) = ((poolOf T n m).fst.h) from (by (unfold poolOf; rw [if_pos (by simp_all), if_neg (by rcases hn with hn | hn <;> simp_all)]; first | done | rfl)))) (.cons (Weak.int (show ((0) : Int) = ((poolOf T n m).fst.x) from (by (unfold poolOf; rw [if_pos (by simp_all), if_neg (by rcases hn with hn | hn <;> simp_all)]; first | done | rfl)))) (.cons (Weak.int (show ((0) : Int) = ((poolOf T n m).fst.c) from (by (unfold poolOf; rw [if_pos (by simp_all), if_neg (by rcases hn with hn | hn <;> simp_all)]; first | done | rfl)))) (.cons (Weak.nilr (show [] = (List.map (row1 IntKind.i8) (poolOf T n m).fst.d) from (by (unfold poolOf; rw [if_pos (by simp_all), if_neg (by rcases hn with hn | hn <;> simp_all)]; first | done | rfl)))) .nil))))) (.cons (Weak.int (show (((slideE (Shp.mk T.h T.x T.c) n.nk n.ns n.np T.c).snd) : Int) = ((poolOf T n m).snd) from (by (unfold poolOf; rw [if_pos (by simp_all), if_neg (by rcases hn with hn | hn <;> simp_all)]; first | done | rfl)))) .nil)))
theorem pool_v (T : Ten) (n : Nod) (m : Bool) (ok : T.Ok) (okn : n.Ok) : VC Try.prog 133 [ten .i8 T, nod n, bv m] (.tup [ten .i8 (poolOf T n m).1, i64 (poolOf T n m).2]) := by
  cases hr : tenRight T with
  | false => exact pool_n T n m ok okn (.inl hr)
  | true =>
    by_cases he : (slideE ⟨T.h, T.x, T.c⟩ n.nk n.ns n.np T.c).2 = 0
    · exact pool_y T n m ⟨ok, okn, hr, he⟩
    · exact pool_n T n m ok okn (.inr he)
end Go.Proofs.Ytgecmooedhnenaa

/- Whether an exit stays within 32 bits. No condition. -/
namespace Go.Proofs.Ytgecmooedhnenaa
open Go.RowKit
set_option linter.unusedSimpArgs false
set_option linter.unusedVariables false
set_option linter.unnecessarySimpa false

/-- A number as another one. -/
def oneN (v : Int) (n : Nod) : Int := heldQ (v - n.za) n.qm n.qs n.qz n.lo n.hi
end Go.Proofs.Ytgecmooedhnenaa

/- Between which numbers what a node makes lies, by the program and by the document. No condition. -/
namespace Go.Proofs.Ytgecmooedhnenaa
open Go.RowKit
set_option linter.unusedSimpArgs false
set_option linter.unusedVariables false
set_option linter.unnecessarySimpa false

theorem clamp_in (v : Int) {lo hi : Int} (h1 : In8 lo) (h2 : In8 hi) : In8 (clampI v lo hi) := by
  unfold clampI; split
  · exact h1
  · split
    · exact h2
    · omega
set_option maxRecDepth 100000 in
set_option maxHeartbeats 2000000 in
theorem refHeld_v (a m s z lo hi : Int) (ha : In32 a) (hm : In32 m) (hz : In8 z) (hl : In8 lo) (hh : In8 hi) : VC Try.prog 221 ([i32 a, .agg [i32 m, i64 s, i8 z], i8 lo, i8 hi]) (i8 (heldQ a m s z lo hi)) := by
  have q1 := mul_bd32 a m ha.1 ha.2 hm.1 hm.2
  have q2 := rnd_bd (a * m) s 4611686018427387904 q1.1 q1.2
  have q3 := clamp_in (rnd (a * m) s + z) hl hh
  have oz0 := @refRight_v (m) (s) (z)
  rcases Bool.eq_false_or_eq_true (!rightQ m s) with hc0 | hc0
  · have gc0 : rightQ m s = false := by first | exact hc0 | exact of_decide_eq_true hc0 | exact of_decide_eq_false hc0 | simpa [eqNums] using hc0 | (simp [eqNums] at hc0 ⊢; first | done | assumption | omega)
    exact (VC.run (fn := Try.f221) (W := [.r [] [], .r [] [.callr (rO oz0)], .br true, .r [] []]) (r := i8 0) Try.func221 (by kernel_rfl) (.c oz0 <| .c hc0 <| .n)).weak (WeakL.refl _) (Weak.int (show ((0) : Int) = (heldQ a m s z lo hi) from (by (unfold heldQ; rw [if_neg (by simp_all)]))))
  · have gc0 : rightQ m s = true := by first | exact hc0 | exact of_decide_eq_true hc0 | exact of_decide_eq_false hc0 | simpa [eqNums] using hc0 | (simp [eqNums] at hc0 ⊢; first | done | assumption | omega)
    have oz5 := @refRound_v (a * m) (s) (by omega)
    have oz10 := @refSatHeld_v (rnd (a * m) s + z) (lo) (hi)
    have oz11 := (IntWalk.i8_in (clampI (rnd (a * m) s + z) lo hi) (by omega))
    exact (VC.run (fn := Try.f221) (W := [.r [] [], .r [] [.callr (rO oz0)], .br false, .r [] [.n a, .n m, .n (a * m), .callr (rO oz5), .n z, .n (rnd (a * m) s + z)], .r [] [.n lo, .n hi, .callr (rO oz10), .n (nO oz11)]]) (r := i8 (clampI (rnd (a * m) s + z) lo hi)) Try.func221 (by kernel_rfl) (.c oz0 <| .c hc0 <| .c (IntWalk.i64_in a (by omega)) <| .c (IntWalk.i64_in m (by omega)) <| .c (IntWalk.i64_in (a * m) (by omega)) <| .c oz5 <| .c (IntWalk.i64_in z (by omega)) <| .c (IntWalk.i64_in (rnd (a * m) s + z) (by omega)) <| .c (IntWalk.i64_in lo (by omega)) <| .c (IntWalk.i64_in hi (by omega)) <| .c oz10 <| .c oz11 <| .n)).weak (WeakL.refl _) (Weak.int (show ((clampI (rnd (a * m) s + z) lo hi) : Int) = (heldQ a m s z lo hi) from (by (unfold heldQ; rw [if_pos (by simp_all)]))))

/-- Two numbers as one. -/
def joinE (x y : Int) (n : Nod) : Int := if (rightQ n.qm n.qs && rightQ n.rm n.rs) = true then clampI (rnd ((x - n.za) * n.qm) n.qs + rnd ((y - n.zb) * n.rm) n.rs + n.qz) n.lo n.hi else 0
theorem mul_bd9 (a m : Int) (a0 : -255 ≤ a) (a1 : a ≤ 255) (hm : In32 m) : -547608330240 ≤ a * m ∧ a * m ≤ 547608330240 := by
  obtain ⟨m0, m1⟩ := hm
  have h1 : (a.natAbs * m.natAbs : Nat) ≤ 255 * 2147483648 := Nat.mul_le_mul (by omega) (by omega)
  have := Int.natAbs_mul a m
  omega
theorem joinP (v z m s : Int) (h1 : In8 v) (h2 : In8 z) (h3 : In32 m) : (-547608330240 ≤ (v - z) * m ∧ (v - z) * m ≤ 547608330240) ∧ -547608330240 ≤ rnd ((v - z) * m) s ∧ rnd ((v - z) * m) s ≤ 547608330240 := by
  have q := mul_bd9 (v - z) m (by omega) (by omega) h3
  exact ⟨q, rnd_bd _ s _ q.1 q.2⟩
set_option maxRecDepth 100000 in
set_option maxHeartbeats 2000000 in
theorem joinMay_v (n : Nod)  : VC Try.prog 97 ([nod n]) (bv (rightQ n.qm n.qs && rightQ n.rm n.rs)) := by
  have oz0 := @right_v (n.qm) (n.qs) (n.qz)
  have oz1 := @right_v (n.rm) (n.rs) (n.rz)
  exact VC.run (fn := Try.f97) (W := [.r [] [], .r [] [.callr (rO oz0), .op false, .op false, .op false, .callr (rO oz1), .sel 2]]) Try.func97 (by kernel_rfl) (.c oz0 <| .c oz1 <| .n)

set_option maxRecDepth 100000 in
set_option maxHeartbeats 2000000 in
theorem joinScaled_v (v z m s z2 : Int) (h1 : In8 v) (h2 : In8 z) (h3 : In32 m) : VC Try.prog 101 ([i8 v, i8 z, .agg [i32 m, i64 s, i8 z2]]) (i64 (rnd ((v - z) * m) s)) := by
  have oz3 := @scale_v (v - z) (m) (s) (by omega) h3
  exact VC.run (fn := Try.f101) (W := [.r [] [], .r [] [.n v, .n z, .n (v - z), .callr (rO oz3)]]) Try.func101 (by kernel_rfl) (.c (IntWalk.i32_in v (by omega)) <| .c (IntWalk.i32_in z (by omega)) <| .c (IntWalk.i32_in (v - z) (by omega)) <| .c oz3 <| .n)

set_option maxRecDepth 100000 in
set_option maxHeartbeats 2000000 in
theorem joinOne_v (x y : Int) (n : Nod) (ok : n.Ok) (hx : In8 x) (hy : In8 y) : VC Try.prog 33 ([i8 x, i8 y, nod n]) (i8 (joinE x y n)) := by
  have ok_za := ok.za
  have ok_zb := ok.zb
  have ok_qm := ok.qm
  have ok_rm := ok.rm
  have ok_lo := ok.lo
  have ok_hi := ok.hi
  have ok_qz := ok.qz
  have q1 := joinP x n.za n.qm n.qs hx ok.za ok.qm
  have q2 := joinP y n.zb n.rm n.rs hy ok.zb ok.rm
  have oz0 := @joinMay_v (n)
  rcases Bool.eq_false_or_eq_true (!(rightQ n.qm n.qs && rightQ n.rm n.rs)) with hc0 | hc0
  · have gc0 : rightQ n.qm n.qs = false ∨ rightQ n.rm n.rs = false := by first | (simp only [Bool.or_eq_true, Bool.or_eq_false_iff, Bool.and_eq_true, Bool.and_eq_false_iff, Bool.not_eq_true', Bool.not_eq_false', decide_eq_true_eq, decide_eq_false_iff_not, beq_iff_eq, bne_iff_ne, ne_eq, beq_eq_false_iff_ne, bne_eq_false_iff_eq, eqNums, Bool.and_true] at hc0; first | exact hc0 | omega) | simpa using hc0 | (simp at hc0 ⊢; omega) | (apply Classical.byContradiction; intro hn; simp_all [eqNums]; done) | (apply Classical.byContradiction; intro hn; simp [eqNums] at hc0 hn; omega)
    exact (VC.run (fn := Try.f33) (W := [.r [] [], .r [] [.callr (rO oz0)], .br true, .r [] []]) (r := i8 0) Try.func33 (by kernel_rfl) (.c oz0 <| .c hc0 <| .n)).weak (WeakL.refl _) (Weak.int (show ((0) : Int) = (joinE x y n) from (by (unfold joinE; rw [if_neg (by intro hh; simp only [Bool.and_eq_true] at hh; simp_all)]))))
  · have gc0 : rightQ n.qm n.qs = true ∧ rightQ n.rm n.rs = true := by first | (simp only [Bool.or_eq_true, Bool.or_eq_false_iff, Bool.and_eq_true, Bool.and_eq_false_iff, Bool.not_eq_true', Bool.not_eq_false', decide_eq_true_eq, decide_eq_false_iff_not, beq_iff_eq, bne_iff_ne, ne_eq, beq_eq_false_iff_ne, bne_eq_false_iff_eq, eqNums, Bool.and_true] at hc0; first | exact hc0 | omega) | simpa using hc0 | (simp at hc0 ⊢; omega) | (apply Classical.byContradiction; intro hn; simp_all [eqNums]; done) | (apply Classical.byContradiction; intro hn; simp [eqNums] at hc0 hn; omega)
    have oz2 := @joinScaled_v (x) (n.za) (n.qm) (n.qs) (n.qz) hx ok_za ok_qm
    have oz3 := @joinScaled_v (y) (n.zb) (n.rm) (n.rs) (n.rz) hy ok_zb ok_rm
    have oz4 := (IntWalk.i64_in (rnd ((x - n.za) * n.qm) n.qs + rnd ((y - n.zb) * n.rm) n.rs) (by omega))
    have oz6 := (IntWalk.i64_in (rnd ((x - n.za) * n.qm) n.qs + rnd ((y - n.zb) * n.rm) n.rs + n.qz) (by omega))
    have oz7 := @clamp_v (rnd ((x - n.za) * n.qm) n.qs + rnd ((y - n.zb) * n.rm) n.rs + n.qz) (n.lo) (n.hi) ok_lo ok_hi
    exact (VC.run (fn := Try.f33) (W := [.r [] [], .r [] [.callr (rO oz0)], .br false, .r [] [.callr (rO oz2), .callr (rO oz3), .n (nO oz4), .n n.qz, .n (nO oz6), .callr (rO oz7)]]) (r := i8 (clampI (rnd ((x - n.za) * n.qm) n.qs + rnd ((y - n.zb) * n.rm) n.rs + n.qz) n.lo n.hi)) Try.func33 (by kernel_rfl) (.c oz0 <| .c hc0 <| .c oz2 <| .c oz3 <| .c oz4 <| .c (IntWalk.i64_in n.qz (by omega)) <| .c oz6 <| .c oz7 <| .n)).weak (WeakL.refl _) (Weak.int (show ((clampI (rnd ((x - n.za) * n.qm) n.qs + rnd ((y - n.zb) * n.rm) n.rs + n.qz) n.lo n.hi) : Int) = (joinE x y n) from (by (unfold joinE; rw [if_pos (by simp_all)]))))

set_option maxRecDepth 100000 in
set_option maxHeartbeats 2000000 in
theorem refJoinOne_v (x y : Int) (n : Nod) (ok : n.Ok) (hx : In8 x) (hy : In8 y) : VC Try.prog 34 ([i8 x, i8 y, nod n]) (i8 (joinE x y n)) := by
  have ok_za := ok.za
  have ok_zb := ok.zb
  have ok_qm := ok.qm
  have ok_rm := ok.rm
  have ok_lo := ok.lo
  have ok_hi := ok.hi
  have ok_qz := ok.qz
  have q1 := joinP x n.za n.qm n.qs hx ok.za ok.qm
  have q2 := joinP y n.zb n.rm n.rs hy ok.zb ok.rm
  have q3 := clamp_in (rnd ((x - n.za) * n.qm) n.qs + rnd ((y - n.zb) * n.rm) n.rs + n.qz) ok.lo ok.hi
  have oz0 := @refRight_v (n.qm) (n.qs) (n.qz)
  have oz1 := @refRight_v (n.rm) (n.rs) (n.rz)
  rcases Bool.eq_false_or_eq_true (!rightQ n.qm n.qs || !rightQ n.rm n.rs) with hc0 | hc0
  · have gc0 : rightQ n.qm n.qs = false ∨ rightQ n.rm n.rs = false := by first | (simp only [Bool.or_eq_true, Bool.or_eq_false_iff, Bool.and_eq_true, Bool.and_eq_false_iff, Bool.not_eq_true', Bool.not_eq_false', decide_eq_true_eq, decide_eq_false_iff_not, beq_iff_eq, bne_iff_ne, ne_eq, beq_eq_false_iff_ne, bne_eq_false_iff_eq, eqNums, Bool.and_true] at hc0; first | exact hc0 | omega) | simpa using hc0 | (simp at hc0 ⊢; omega) | (apply Classical.byContradiction; intro hn; simp_all [eqNums]; done) | (apply Classical.byContradiction; intro hn; simp [eqNums] at hc0 hn; omega)
    exact (VC.run (fn := Try.f34) (W := [.r [] [], .r [] [.callr (rO oz0), .op false, .op false, .op false, .callr (rO oz1), .op false, .sel 1], .br true, .r [] []]) (r := i8 0) Try.func34 (by kernel_rfl) (.c oz0 <| .c oz1 <| .c hc0 <| .n)).weak (WeakL.refl _) (Weak.int (show ((0) : Int) = (joinE x y n) from (by (unfold joinE; rw [if_neg (by intro hh; simp only [Bool.and_eq_true] at hh; simp_all)]))))
  · have gc0 : rightQ n.qm n.qs = true ∧ rightQ n.rm n.rs = true := by first | (simp only [Bool.or_eq_true, Bool.or_eq_false_iff, Bool.and_eq_true, Bool.and_eq_false_iff, Bool.not_eq_true', Bool.not_eq_false', decide_eq_true_eq, decide_eq_false_iff_not, beq_iff_eq, bne_iff_ne, ne_eq, beq_eq_false_iff_ne, bne_eq_false_iff_eq, eqNums, Bool.and_true] at hc0; first | exact hc0 | omega) | simpa using hc0 | (simp at hc0 ⊢; omega) | (apply Classical.byContradiction; intro hn; simp_all [eqNums]; done) | (apply Classical.byContradiction; intro hn; simp [eqNums] at hc0 hn; omega)
    have oz8 := @refRound_v ((x - n.za) * n.qm) (n.qs) (by omega)
    have oz14 := @refRound_v ((y - n.zb) * n.rm) (n.rs) (by omega)
    have oz15 := (IntWalk.i64_in (rnd ((x - n.za) * n.qm) n.qs + rnd ((y - n.zb) * n.rm) n.rs) (by omega))
    have oz17 := (IntWalk.i64_in (rnd ((x - n.za) * n.qm) n.qs + rnd ((y - n.zb) * n.rm) n.rs + n.qz) (by omega))
    have oz20 := @refSatHeld_v (rnd ((x - n.za) * n.qm) n.qs + rnd ((y - n.zb) * n.rm) n.rs + n.qz) (n.lo) (n.hi)
    have oz21 := (IntWalk.i8_in (clampI (rnd ((x - n.za) * n.qm) n.qs + rnd ((y - n.zb) * n.rm) n.rs + n.qz) n.lo n.hi) (by omega))
    exact (VC.run (fn := Try.f34) (W := [.r [] [], .r [] [.callr (rO oz0), .op false, .op false, .op false, .callr (rO oz1), .op false, .sel 1], .br false, .r [] [.n x, .n n.za, .n (x - n.za), .n n.qm, .n ((x - n.za) * n.qm), .callr (rO oz8)], .r [] [.n y, .n n.zb, .n (y - n.zb), .n n.rm, .n ((y - n.zb) * n.rm), .callr (rO oz14)], .r [] [.n (nO oz15), .n n.qz, .n (nO oz17), .n n.lo, .n n.hi, .callr (rO oz20), .n (nO oz21)]]) (r := i8 (clampI (rnd ((x - n.za) * n.qm) n.qs + rnd ((y - n.zb) * n.rm) n.rs + n.qz) n.lo n.hi)) Try.func34 (by kernel_rfl) (.c oz0 <| .c oz1 <| .c hc0 <| .c (IntWalk.i64_in x (by omega)) <| .c (IntWalk.i64_in n.za (by omega)) <| .c (IntWalk.i64_in (x - n.za) (by omega)) <| .c (IntWalk.i64_in n.qm (by omega)) <| .c (IntWalk.i64_in ((x - n.za) * n.qm) (by omega)) <| .c oz8 <| .c (IntWalk.i64_in y (by omega)) <| .c (IntWalk.i64_in n.zb (by omega)) <| .c (IntWalk.i64_in (y - n.zb) (by omega)) <| .c (IntWalk.i64_in n.rm (by omega)) <| .c (IntWalk.i64_in ((y - n.zb) * n.rm) (by omega)) <| .c oz14 <| .c oz15 <| .c (IntWalk.i64_in n.qz (by omega)) <| .c oz17 <| .c (IntWalk.i64_in n.lo (by omega)) <| .c (IntWalk.i64_in n.hi (by omega)) <| .c oz20 <| .c oz21 <| .n)).weak (WeakL.refl _) (Weak.int (show ((clampI (rnd ((x - n.za) * n.qm) n.qs + rnd ((y - n.zb) * n.rm) n.rs + n.qz) n.lo n.hi) : Int) = (joinE x y n) from (by (unfold joinE; rw [if_pos (by simp_all)]))))

set_option maxRecDepth 100000 in
set_option maxHeartbeats 2000000 in
theorem refActOne_v (v : Int) (n : Nod) (ok : n.Ok) (hv : In8 v) : VC Try.prog 199 ([i8 v, nod n]) (i8 (oneN v n)) := by
  have ok_za := ok.za
  have ok_qm := ok.qm
  have ok_qz := ok.qz
  have ok_lo := ok.lo
  have ok_hi := ok.hi
  have oz3 := @refHeld_v (v - n.za) (n.qm) (n.qs) (n.qz) (n.lo) (n.hi) (by omega) ok_qm ok_qz ok_lo ok_hi
  exact (VC.run (fn := Try.f199) (W := [.r [] [], .r [] [.n v, .n n.za, .n (v - n.za), .callr (rO oz3)]]) (r := i8 (heldQ (v - n.za) n.qm n.qs n.qz n.lo n.hi)) Try.func199 (by kernel_rfl) (.c (IntWalk.i32_in v (by omega)) <| .c (IntWalk.i32_in n.za (by omega)) <| .c (IntWalk.i32_in (v - n.za) (by omega)) <| .c oz3 <| .n)).weak (WeakL.refl _) (Weak.int (show ((heldQ (v - n.za) n.qm n.qs n.qz n.lo n.hi) : Int) = (oneN v n) from (by rfl)))
end Go.Proofs.Ytgecmooedhnenaa

/- Each channel has its own window: the law. No condition. -/
namespace Go.Proofs.Ytgecmooedhnenaa
open Go.RowKit
set_option linter.unusedSimpArgs false
set_option linter.unusedVariables false
set_option linter.unnecessarySimpa false

theorem split_div {a b c : Int} (hb : 0 ≤ b) (hc : b < c) : (a * c + b) / c = a ∧ (a * c + b) % c = b := by
  constructor
  · rw [Int.add_comm, Int.add_mul_ediv_right _ _ (by omega), Int.ediv_eq_zero_of_lt hb hc]; omega
  · rw [Int.add_comm, Int.add_mul_emod_self_right, Int.emod_eq_of_lt hb hc]
theorem dAcc_j {T : Ten} {n : Nod} (ok : DpOk T n) (h w c : Int) (i : Nat) (h0 : dAcc T n h w c (i * n.nk.toNat) = IntKind.i32.wrap (accN (n.b.getD c.toNat 0) (drow T n h w c) i)) :
    ∀ j, j ≤ n.nk.toNat → dAcc T n h w c (i * n.nk.toNat + j) = IntKind.i32.wrap (accN (n.b.getD c.toNat 0) (drow T n h w c) i + sumN (dcell T n h w c i) j)
  | 0, _ => by rw [Nat.add_zero, h0, sumN, Int.add_zero]
  | j + 1, hj => by
    have k1 := ok.n.k1
    rw [← Nat.add_assoc, dAcc, dAcc_j ok h w c i h0 j (by omega), sumN, dcell]
    have e : ((i * n.nk.toNat + j : Nat) : Int) = (i : Int) * n.nk + (j : Int) := by rw [Int.natCast_add, Int.natCast_mul, Int.toNat_of_nonneg (by omega)]
    obtain ⟨e1, e2⟩ := split_div (a := (i : Int)) (b := (j : Int)) (c := n.nk) (by omega) (by omega)
    rw [e, e1, e2]
    split
    · rw [w32_add, Int.add_assoc]
    · rw [Int.add_zero]
theorem dAcc_i {T : Ten} {n : Nod} (ok : DpOk T n) (h w c : Int) : ∀ i, dAcc T n h w c (i * n.nk.toNat) = IntKind.i32.wrap (accN (n.b.getD c.toNat 0) (drow T n h w c) i)
  | 0 => by rw [Nat.zero_mul, dAcc, accN, IntWalk.i32_in _ (gt32 ok.okn.b _)]
  | i + 1 => by rw [Nat.add_mul, Nat.one_mul, dAcc_j ok h w c i (dAcc_i ok h w c i) _ (Nat.le_refl _), accN]; rfl
theorem dAcc_eq {T : Ten} {n : Nod} (ok : DpOk T n) (h w c : Int) : dAcc T n h w c (n.nk * n.nk).toNat = IntKind.i32.wrap (dE T n h w c) := by
  have k1 := ok.n.k1
  have : (n.nk * n.nk).toNat = n.nk.toNat * n.nk.toNat := by
    apply Int.ofNat_inj.1
    rw [Int.natCast_mul, Int.toNat_of_nonneg (Int.mul_nonneg (by omega) (by omega)), Int.toNat_of_nonneg (by omega)]
  rw [this, dAcc_i ok]; rfl
/-- A list laid by three loops, seen from one. -/
theorem g_row {F : Nat → Int} {f : Nat → Nat → Nat → Int} {m x h : Nat} (hF : ∀ w c, w < x → c < m → F ((h * x + w) * m + c) = f h w c) (h0 : (List.range (h * (x * m))).map F = gH f m x h) :
    ∀ w, w ≤ x → (List.range (h * (x * m) + w * m)).map F = gH f m x h ++ gW f m h w
  | 0, _ => by simp [gW, h0]
  | w + 1, hw => by
    rw [Nat.add_mul, Nat.one_mul, ← Nat.add_assoc, List.range_add, List.map_append, g_row hF h0 w (by omega), gW, List.append_assoc, List.map_map]
    congr 2
    unfold gO
    apply List.map_congr_left
    intro c hc
    rw [← hF w c (by omega) (List.mem_range.1 hc)]
    simp only [Function.comp]
    congr 1
    rw [Nat.add_mul, Nat.mul_assoc]
theorem g_all {F : Nat → Int} {f : Nat → Nat → Nat → Int} {m x : Nat} : ∀ h, (∀ h' w c, h' < h → w < x → c < m → F ((h' * x + w) * m + c) = f h' w c) → (List.range (h * (x * m))).map F = gH f m x h
  | 0, _ => by simp [gH]
  | h + 1, hF => by
    rw [Nat.add_mul, Nat.one_mul, g_row (fun w c hw hc => hF h w c (by omega) hw hc) (g_all h fun h' w c hh => hF h' w c (by omega)) x (Nat.le_refl _), gH]
theorem dL_eq {T : Ten} {n : Nod} (ok : DpOk T n) : dL T n = gH (dF T n) T.c.toNat (depthE ⟨T.h, T.x, T.c⟩ n).1.x.toNat (depthE ⟨T.h, T.x, T.c⟩ n).1.h.toNat := by
  have nn := ok.n
  have h1 := nn.he
  have h2 := nn.xe
  have h3 := nn.c1
  unfold dL
  have e : dN T n = (depthE ⟨T.h, T.x, T.c⟩ n).1.h.toNat * ((depthE ⟨T.h, T.x, T.c⟩ n).1.x.toNat * T.c.toNat) := by
    unfold dN
    apply Int.ofNat_inj.1
    rw [Int.natCast_mul, Int.natCast_mul, Int.toNat_of_nonneg (Int.mul_nonneg (Int.mul_nonneg (by omega) (by omega)) (by omega)), Int.toNat_of_nonneg (by omega), Int.toNat_of_nonneg (by omega), Int.toNat_of_nonneg (by omega), Int.mul_assoc]
  rw [e]
  refine g_all _ fun h w c hh hw hc => ?_
  have e0 : (((h * (depthE ⟨T.h, T.x, T.c⟩ n).1.x.toNat + w) * T.c.toNat + c : Nat) : Int) = ((h : Int) * (depthE ⟨T.h, T.x, T.c⟩ n).1.x + (w : Int)) * T.c + (c : Int) := by
    rw [Int.natCast_add, Int.natCast_mul, Int.natCast_add, Int.natCast_mul, Int.toNat_of_nonneg (by omega), Int.toNat_of_nonneg (by omega)]
  obtain ⟨e1, e2⟩ := split_div (a := (h : Int) * (depthE ⟨T.h, T.x, T.c⟩ n).1.x + (w : Int)) (b := (c : Int)) (c := T.c) (by omega) (by omega)
  obtain ⟨e3, e4⟩ := split_div (a := (h : Int)) (b := (w : Int)) (c := (depthE ⟨T.h, T.x, T.c⟩ n).1.x) (by omega) (by omega)
  simp only [e0, e1, e2, e3, e4]
  exact dAcc_eq ok _ _ _
/-- What comes of it, or why nothing. -/
def depthOf (T : Ten) (n : Nod) : Ten × Int := if tenRight T = false then (⟨0, 0, 0, []⟩, 5) else if (depthE ⟨T.h, T.x, T.c⟩ n).2 ≠ 0 then (⟨0, 0, 0, []⟩, (depthE ⟨T.h, T.x, T.c⟩ n).2) else (⟨(depthE ⟨T.h, T.x, T.c⟩ n).1.h, (depthE ⟨T.h, T.x, T.c⟩ n).1.x, (depthE ⟨T.h, T.x, T.c⟩ n).1.c, dL T n⟩, 0)

set_option maxRecDepth 100000 in
set_option maxHeartbeats 2000000 in
theorem rdOf_n (T : Ten) (n : Nod) (ok : T.Ok) (okn : n.Ok) (hn : tenRight T = false ∨ (depthE ⟨T.h, T.x, T.c⟩ n).2 ≠ 0) : VC Try.prog 75 ([ten .i8 T, nod n]) (.tup [ten .i32 (depthOf T n).1, i64 (depthOf T n).2]) := by
  have oz0 := @refTRight_v (T) ok
  rcases Bool.eq_false_or_eq_true (!tenRight T) with hc0 | hc0
  · have gc0 : tenRight T = false := by first | exact hc0 | exact of_decide_eq_true hc0 | exact of_decide_eq_false hc0 | simpa [eqNums] using hc0 | (simp [eqNums] at hc0 ⊢; first | done | assumption | omega)
    exact (VC.run (fn := Try.f75) (W := [.r [] [], .r [] [.callr (rO oz0)], .br true, .r [] []]) (r := AV.tup [AV.agg [i64 0, i64 0, i64 0, AV.lit (Value.slice none 0 0)], i64 5]) Try.func75 (by kernel_rfl) (.c oz0 <| .c hc0 <| .n)).weak (WeakL.refl _) (Weak.tup (.cons (Weak.agg (.cons (Weak.int (show ((0) : Int) = ((depthOf T n).fst.h) from (by (simp only [depthOf]; rw [if_pos (by simp_all)]; first | done | rfl)))) (.cons (Weak.int (show ((0) : Int) = ((depthOf T n).fst.x) from (by (simp only [depthOf]; rw [if_pos (by simp_all)]; first | done | rfl)))) (.cons (Weak.int (show ((0) : Int) = ((depthOf T n).fst.c) from (by (simp only [depthOf]; rw [if_pos (by simp_all)]; first | done | rfl)))) (.cons (Weak.nilr (show [] = (List.map (row1 IntKind.i32) (depthOf T n).fst.d) from (by (simp only [depthOf]; rw [if_pos (by simp_all)]; first | done | rfl)))) .nil))))) (.cons (Weak.int (show ((5) : Int) = ((depthOf T n).snd) from (by (simp only [depthOf]; rw [if_pos (by simp_all)]; first | done | rfl)))) .nil)))
  · have gc0 : tenRight T = true := by first | exact hc0 | exact of_decide_eq_true hc0 | exact of_decide_eq_false hc0 | simpa [eqNums] using hc0 | (simp [eqNums] at hc0 ⊢; first | done | assumption | omega)
    have oz2 := @refDepthShape_v (Shp.mk T.h T.x T.c) (n) (by (exact Shp.mk_ok ok.h ok.x ok.c)) okn
    exact (VC.run (fn := Try.f75) (W := [.r [] [], .r [] [.callr (rO oz0)], .br false, .r [] [.callr (rO oz2)], .r [] [], .br true, .r [] []]) (r := AV.tup [AV.agg [i64 0, i64 0, i64 0, AV.lit (Value.slice none 0 0)], i64 (depthE (Shp.mk T.h T.x T.c) n).snd]) Try.func75 (by kernel_rfl) (.c oz0 <| .c hc0 <| .c oz2 <| .c (show ((depthE (Shp.mk T.h T.x T.c) n).snd != 0) = true by (rcases hn with hn | hn <;> simp_all; done)) <| .n)).weak (WeakL.refl _) (Weak.tup (.cons (Weak.agg (.cons (Weak.int (show ((0) : Int) = ((depthOf T n).fst.h) from (by (simp only [depthOf]; rw [if_neg (by simp_all), if_pos (by rcases hn with hn | hn <;> simp_all)]; first | done | rfl)))) (.cons (Weak.int (show ((0) : Int) = ((depthOf T n).fst.x) from (by (simp only [depthOf]; rw [if_neg (by simp_all), if_pos (by rcases hn with hn | hn <;> simp_all)]; first | done | rfl)))) (.cons (Weak.int (show ((0) : Int) = ((depthOf T n).fst.c) from (by (simp only [depthOf]; rw [if_neg (by simp_all), if_pos (by rcases hn with hn | hn <;> simp_all)]; first | done | rfl)))) (.cons (Weak.nilr (show [] = (List.map (row1 IntKind.i32) (depthOf T n).fst.d) from (by (simp only [depthOf]; rw [if_neg (by simp_all), if_pos (by rcases hn with hn | hn <;> simp_all)]; first | done | rfl)))) .nil))))) (.cons (Weak.int (show (((depthE (Shp.mk T.h T.x T.c) n).snd) : Int) = ((depthOf T n).snd) from (by (simp only [depthOf]; rw [if_neg (by simp_all), if_pos (by rcases hn with hn | hn <;> simp_all)]; first | done | rfl)))) .nil)))
theorem rdOf_v (T : Ten) (n : Nod) (ok : T.Ok) (okn : n.Ok) : VC Try.prog 75 [ten .i8 T, nod n] (.tup [ten .i32 (depthOf T n).1, i64 (depthOf T n).2]) := by
  cases hr : tenRight T with
  | false => exact rdOf_n T n ok okn (.inl hr)
  | true =>
    by_cases he : (depthE ⟨T.h, T.x, T.c⟩ n).2 = 0
    · have h := rdOf_x T n ⟨ok, okn, hr, he⟩
      have e : depthOf T n = (⟨(depthE ⟨T.h, T.x, T.c⟩ n).1.h, (depthE ⟨T.h, T.x, T.c⟩ n).1.x, (depthE ⟨T.h, T.x, T.c⟩ n).1.c, dL T n⟩, 0) := by
        unfold depthOf
        rw [if_neg (by simp [hr]), if_neg (by simpa using he)]
      rw [e]; rw [dL_eq ⟨ok, okn, hr, he⟩]; exact h
    · exact rdOf_n T n ok okn (.inr he)
theorem depthOf_len (T : Ten) (n : Nod) (ok : T.Ok) (okn : n.Ok) : (depthOf T n).1.d.length ≤ 1024 := by
  unfold depthOf
  split
  · simp
  · split
    · simp
    · rename_i h1 h2
      have nn := DpOk.n (T := T) (n := n) ⟨ok, okn, by simpa using h1, by simpa using h2⟩
      rw [dL_len]
      have h3 := nn.el
      unfold dN; omega
end Go.Proofs.Ytgecmooedhnenaa

/- Sums of all numbers; numbers one by one; two tensors as one; by the document. No condition. -/
namespace Go.Proofs.Ytgecmooedhnenaa
open Go.RowKit
set_option linter.unusedSimpArgs false
set_option linter.unusedVariables false
set_option linter.unnecessarySimpa false

/-- A sum of all numbers, over whole numbers. -/
def dnT (x w : List Int) (z o : Int) (i : Nat) : Int := w.getD (o * x.length + i).toNat 0 * (x.getD i 0 - z)
def dnS (x w b : List Int) (z o : Int) : Int := accN (b.getD o.toNat 0) (dnT x w z o) x.length
theorem dnT_bd {x w : List Int} (hx : ∀ v ∈ x, In8 v) (hw : ∀ v ∈ w, In8 v) {z : Int} (hz : In8 z) (o : Int) (i : Nat) : -32640 ≤ dnT x w z o i ∧ dnT x w z o i ≤ 32640 := by
  have h1 := gt8 hw (o * x.length + i).toNat
  have h2 := gt8 hx i
  have := prod_bd h1 (b := x.getD i 0 - z) (by omega)
  unfold dnT; omega
noncomputable def dense_s_I (x w b : List Int) (z o : Int) (k : Nat) : VS := stt 46 [(0, ints .i8 x), (1, ints .i8 w), (3, i8 z), (4, i64 o), (11, i64 (accN (b.getD o.toNat 0) (dnT x w z o) k)), (12, i64 k)] []
noncomputable def dense_s_Z (x w b : List Int) (z o : Int) : VS := dense_s_I x w b z o (x.length)
set_option maxRecDepth 100000 in
set_option maxHeartbeats 2000000 in
theorem dense_s_s (x w b : List Int) (z o : Int) (hx : ∀ v ∈ x, In8 v) (hw : ∀ v ∈ w, In8 v) (hb : ∀ v ∈ b, In32 v) (hz : In8 z) (o0 : 0 ≤ o) (o1 : o < b.length) (xl : x.length ≤ 1024) (hl : w.length = x.length * b.length) (wl : w.length ≤ 16384) (k : Nat) (hk : k < x.length) : VT Try.prog (fnC Try.f79 [1, 1, 0, 1, 0, 0]) (dense_s_I x w b z o k) .normal (dense_s_I x w b z o (k + 1)) := by
  have g1 := dnT_bd hx hw hz o k
  have g2 := sumN_bd (B := 32640) (f := dnT x w z o) k fun i _ => dnT_bd hx hw hz o i
  have g3 := accN_eq (b.getD o.toNat 0) (dnT x w z o) k
  have g4 := gt32 hb o.toNat
  have g5 := gt8 hw (o * x.length + k).toNat
  have g6 := gt8 hx k
  have g7 := idx_bd (a := o) (m := b.length) (b := (k : Int)) (n := x.length) o0 o1 (by omega) (by omega)
  have g8 : ((b.length : Int) * x.length) = (w.length : Int) := by rw [hl, Int.natCast_mul, Int.mul_comm]
  have g9 : 0 ≤ o * x.length := Int.mul_nonneg o0 (by omega)
  have ga : (List.map (row1 .i8) x).length = x.length := List.length_map _
  have gb := prod_bd g5 (b := x.getD k 0 - z) (by omega)
  have gc : accN (b.getD o.toNat 0) (dnT x w z o) (k + 1) = accN (b.getD o.toNat 0) (dnT x w z o) k + w.getD (o * x.length + k).toNat 0 * (x.getD k 0 - z) := rfl
  rw [← ga] at g5 gb g7 g8 g9 gc
  have gd : IntKind.i64.wrap (o * ((List.map (row1 .i8) x).length : Int)) = o * ((List.map (row1 .i8) x).length : Int) := IntWalk.i64_in _ (by omega)
  have ge : IntKind.i64.wrap (o * ((List.map (row1 .i8) x).length : Int) + k) = o * ((List.map (row1 .i8) x).length : Int) + k := IntWalk.i64_in _ (by omega)
  have oz4 := (map_at (row1 IntKind.i8) (0) (l := w) (i := (o * (↑(List.map (row1 IntKind.i8) x).length : Int) + (↑k : Int)).toNat) (by omega))
  have oz5 := (IntWalk.i64_in (w.getD (o * (↑(List.map (row1 IntKind.i8) x).length : Int) + (↑k : Int)).toNat 0) (by omega))
  have oz11 := (IntWalk.i64_in (w.getD (o * (↑(List.map (row1 IntKind.i8) x).length : Int) + (↑k : Int)).toNat 0 * (x.getD k 0 - z)) (by omega))
  have oz12 := (IntWalk.i64_in (accN (b.getD o.toNat 0) (dnT x w z o) k + w.getD (o * (↑(List.map (row1 IntKind.i8) x).length : Int) + (↑k : Int)).toNat 0 * (x.getD k 0 - z)) (by omega))
  have oz14 := (Weak.int (k := .i64) (show ((accN (b.getD o.toNat 0) (dnT x w z o) k + w.getD (o * (↑(List.map (row1 IntKind.i8) x).length : Int) + (↑k : Int)).toNat 0 * (x.getD k 0 - z)) : Int) = (accN (b.getD o.toNat 0) (dnT x w z o) (k + 1)) from (by omega)))
  exact VT.run (W := [.r [] [], .br true, .r [] [.n (nO gd), .n (nO ge), .row (sO oz4), .n (nO oz5), .row [i8 (x.getD k 0)], .n (x.getD k 0), .n z, .n (x.getD k 0 - z), .n (nO oz11), .n (nO oz12)], .r [] [.n ((↑k : Int) + 1)]]) (G := [.any (rg [(18, 27)]), .weak 11 (wO oz14), .weak 12 (i64 (↑(k + 1) : Int)), .sort]) (by kernel_rfl) (.c (decide_eq_true (p := ((↑k : Int) < (↑(List.map (row1 IntKind.i8) x).length : Int))) (by omega)) <| .c gd <| .c ge <| .c (show 0 ≤ o * (↑(List.map (row1 IntKind.i8) x).length : Int) + (↑k : Int) by omega) <| .c oz4 <| .c oz5 <| .c (show 0 ≤ (↑k : Int) by omega) <| .c (map_at (row1 IntKind.i8) (0) (l := x) (i := k) hk) <| .c (IntWalk.i64_in (x.getD k 0) (by omega)) <| .c (IntWalk.i64_in z (by omega)) <| .c (IntWalk.i64_in (x.getD k 0 - z) (by omega)) <| .c oz11 <| .c oz12 <| .c (IntWalk.i64_in ((↑k : Int) + 1) (by omega)) <| .c oz14 <| .c (Weak.int (k := .i64) (show (((↑k : Int) + 1) : Int) = ((↑(k + 1) : Int)) from (by omega))) <| .n)
set_option maxRecDepth 100000 in
set_option maxHeartbeats 2000000 in
theorem dense_s_e (x w b : List Int) (z o : Int) (hx : ∀ v ∈ x, In8 v) (hw : ∀ v ∈ w, In8 v) (hb : ∀ v ∈ b, In32 v) (hz : In8 z) (o0 : 0 ≤ o) (o1 : o < b.length) (xl : x.length ≤ 1024) (hl : w.length = x.length * b.length) (wl : w.length ≤ 16384) : VT Try.prog (fnC Try.f79 [1, 1, 0, 1, 0, 0]) (dense_s_I x w b z o (x.length)) (.exit 0) (dense_s_Z x w b z o) := by
  exact VT.run (W := [.r [] [], .br false]) (G := [.any (rg [(18, 4)]), .sort]) (by kernel_rfl) (.c (show decide ((↑x.length : Int) < (↑(List.map (row1 IntKind.i8) x).length : Int)) = false by (simp; done)) <| .n)
theorem dense_s (x w b : List Int) (z o : Int) (hx : ∀ v ∈ x, In8 v) (hw : ∀ v ∈ w, In8 v) (hb : ∀ v ∈ b, In32 v) (hz : In8 z) (o0 : 0 ≤ o) (o1 : o < b.length) (xl : x.length ≤ 1024) (hl : w.length = x.length * b.length) (wl : w.length ≤ 16384) : VT Try.prog (fnC Try.f79 [1, 1, 0, 1, 0]) (dense_s_I x w b z o 0) (.exit 0) (dense_s_Z x w b z o) :=
  VT.loop (fun k => dense_s_I x w b z o k) (x.length) (fun k hk => dense_s_s x w b z o hx hw hb hz o0 o1 xl hl wl k hk) (dense_s_e x w b z o hx hw hb hz o0 o1 xl hl wl) (by intro h; cases h)

set_option maxRecDepth 100000 in
set_option maxHeartbeats 2000000 in
theorem denseS_v (x w b : List Int) (z o : Int) (hx : ∀ v ∈ x, In8 v) (hw : ∀ v ∈ w, In8 v) (hb : ∀ v ∈ b, In32 v) (hz : In8 z) (o0 : 0 ≤ o) (o1 : o < b.length) (xl : x.length ≤ 1024) (hl : w.length = x.length * b.length) (wl : w.length ≤ 16384) : VC Try.prog 79 ([ints .i8 x, ints .i8 w, ints .i32 b, i8 z, i64 o]) (i64 (dnS x w b z o)) := by
  have g4 := gt32 hb o.toNat
  have oz4 := @dense_s (x) (w) (b) (z) (o) hx hw hb hz o0 o1 xl hl wl
  exact (VC.run (fn := Try.f79) (W := [.r [] [], .r [] [.row [i32 (b.getD o.toNat 0)], .n (b.getD o.toNat 0)], .r [] [], .code [.any [2, 10, 13, 14, 15, 16, 17], .weak 12 (i64 (↑0 : Int)), .sort] (Exit.exit 0) (zO oz4), .r [] []]) (r := i64 (accN (b.getD o.toNat 0) (dnT x w z o) x.length)) Try.func79 (by kernel_rfl) (.c o0 <| .c (map_at (row1 IntKind.i32) (0) (l := b) (i := o.toNat) (by omega)) <| .c (IntWalk.i64_in (b.getD o.toNat 0) (by omega)) <| .c (Weak.int (k := .i64) (show ((0) : Int) = ((↑0 : Int)) from (by omega))) <| .c oz4 <| .n)).weak (WeakL.refl _) (Weak.int (show ((accN (b.getD o.toNat 0) (dnT x w z o) x.length) : Int) = (dnS x w b z o) from (by rfl)))
def lineL (x w b : List Int) (z : Int) (k : Nat) : List Int := (List.range k).map fun o : Nat => IntKind.i32.wrap (dnS x w b z o)
theorem lineL_succ (x w b : List Int) (z : Int) (k : Nat) : lineL x w b z (k + 1) = lineL x w b z k ++ [IntKind.i32.wrap (dnS x w b z k)] := by simp [lineL, List.range_succ]
theorem lineL_len (x w b : List Int) (z : Int) (k : Nat) : (lineL x w b z k).length = k := by simp [lineL]
noncomputable def line_l_I (x w b : List Int) (z : Int) (k : Nat) : VS := stt 46 [(0, ints .i8 x), (1, ints .i8 w), (2, ints .i32 b), (3, i8 z), (9, .own 900), (10, i64 k)] [(900, .slc 21 1 ((lineL x w b z k).map (row1 .i32)))]
noncomputable def line_l_Z (x w b : List Int) (z : Int) : VS := line_l_I x w b z (b.length)
set_option maxRecDepth 100000 in
set_option maxHeartbeats 2000000 in
theorem line_l_s (x w b : List Int) (z : Int) (hx : ∀ v ∈ x, In8 v) (hw : ∀ v ∈ w, In8 v) (hb : ∀ v ∈ b, In32 v) (hz : In8 z) (xl : x.length ≤ 1024) (hl : w.length = x.length * b.length) (wl : w.length ≤ 16384) (bl : b.length ≤ 1024) (k : Nat) (hk : k < b.length) : VT Try.prog (fnC Try.f142 [1, 1, 1, 0, 1, 0, 0]) (line_l_I x w b z k) .normal (line_l_I x w b z (k + 1)) := by
  have g1 := lineL_len x w b z k
  have oz1 := @denseS_v (x) (w) (b) (z) ((↑k : Int)) hx hw hb hz (by omega) (by omega) xl hl wl
  exact VT.run (W := [.r [] [], .br true, .r [] [.callr (rO oz1), .w], .r [] [.n ((↑k : Int) + 1)]]) (G := [.any (rg [(29, 16)]), .drop [43], .ren 44 900, .weak 10 (i64 (↑(k + 1) : Int)), .blk 900 (Blk.slc 21 1 (List.map (row1 IntKind.i32) (lineL x w b z (k + 1)))), .sort]) (by kernel_rfl) (.c (show decide ((↑k : Int) < (↑(List.map (row1 IntKind.i32) b).length : Int)) = true by (simp; omega)) <| .c oz1 <| .c (show ((List.map (row1 IntKind.i32) (lineL x w b z k)).length + 1) * 4 ≤ 140737488355328 by (simp; omega)) <| .c (show (List.map (row1 IntKind.i32) (lineL x w b z k)).length + 1 ≤ 9223372036854775807 by (simp; omega)) <| .c (IntWalk.i64_in ((↑k : Int) + 1) (by omega)) <| .c (Weak.int (k := .i64) (show (((↑k : Int) + 1) : Int) = ((↑(k + 1) : Int)) from (by omega))) <| .c (show BlkW (Blk.slc 21 1 (List.map (row1 IntKind.i32) (lineL x w b z k) ++ [[i32 (IntKind.i32.wrap (dnS x w b z (↑k : Int)))]])) (Blk.slc 21 1 (List.map (row1 IntKind.i32) (lineL x w b z (k + 1)))) from (BlkW.rows (rows_to (row1 IntKind.i32) (r := List.map (row1 IntKind.i32) (lineL x w b z k) ++ [[i32 (IntKind.i32.wrap (dnS x w b z (↑k : Int)))]]) (l := lineL x w b z k ++ [IntKind.i32.wrap (dnS x w b z (↑k : Int))]) (m := lineL x w b z (k + 1)) (by first | (simp only [List.map_append, List.map_cons, List.map_nil, List.map_set, List.map_replicate, List.map_take, List.map_drop]; done) | rfl | (simp only [List.map_append, List.map_cons, List.map_nil, List.map_set, List.map_replicate, List.map_take, List.map_drop]; rfl)) (show (lineL x w b z k ++ [IntKind.i32.wrap (dnS x w b z (↑k : Int))]) = (lineL x w b z (k + 1)) from (by (rw [lineL_succ])))))) <| .n)
set_option maxRecDepth 100000 in
set_option maxHeartbeats 2000000 in
theorem line_l_e (x w b : List Int) (z : Int) (hx : ∀ v ∈ x, In8 v) (hw : ∀ v ∈ w, In8 v) (hb : ∀ v ∈ b, In32 v) (hz : In8 z) (xl : x.length ≤ 1024) (hl : w.length = x.length * b.length) (wl : w.length ≤ 16384) (bl : b.length ≤ 1024) : VT Try.prog (fnC Try.f142 [1, 1, 1, 0, 1, 0, 0]) (line_l_I x w b z (b.length)) (.exit 0) (line_l_Z x w b z) := by
  exact VT.run (W := [.r [] [], .br false]) (G := [.any (rg [(29, 4)]), .sort]) (by kernel_rfl) (.c (show decide ((↑b.length : Int) < (↑(List.map (row1 IntKind.i32) b).length : Int)) = false by (simp; done)) <| .n)
theorem line_l (x w b : List Int) (z : Int) (hx : ∀ v ∈ x, In8 v) (hw : ∀ v ∈ w, In8 v) (hb : ∀ v ∈ b, In32 v) (hz : In8 z) (xl : x.length ≤ 1024) (hl : w.length = x.length * b.length) (wl : w.length ≤ 16384) (bl : b.length ≤ 1024) : VT Try.prog (fnC Try.f142 [1, 1, 1, 0, 1, 0]) (line_l_I x w b z 0) (.exit 0) (line_l_Z x w b z) :=
  VT.loop (fun k => line_l_I x w b z k) (b.length) (fun k hk => line_l_s x w b z hx hw hb hz xl hl wl bl k hk) (line_l_e x w b z hx hw hb hz xl hl wl bl) (by intro h; cases h)

set_option maxRecDepth 100000 in
set_option maxHeartbeats 2000000 in
theorem line_v (x w b : List Int) (z : Int) (hx : ∀ v ∈ x, In8 v) (hw : ∀ v ∈ w, In8 v) (hb : ∀ v ∈ b, In32 v) (hz : In8 z) (x0 : x ≠ []) (b0 : b ≠ []) (xl : x.length ≤ 1024) (hl : w.length = x.length * b.length) (wl : w.length ≤ 16384) (bl : b.length ≤ 1024) : VC Try.prog 142 ([ints .i8 x, ints .i8 w, ints .i32 b, i8 z]) (ints .i32 (lineL x w b z b.length)) := by
  have g1 : (x.length : Int) * b.length = w.length := by rw [hl, Int.natCast_mul]
  have g2 : x.length ≠ 0 := by simpa using x0
  have g3 : b.length ≠ 0 := by simpa using b0
  have g4 : (List.map (row1 .i8) x).length = x.length := List.length_map _
  have g5 : (List.map (row1 .i32) b).length = b.length := List.length_map _
  have g6 : (List.map (row1 .i8) w).length = w.length := List.length_map _
  have g7 : ((List.map (row1 .i8) x).length : Int) * ((List.map (row1 .i32) b).length : Int) = w.length := by rw [g4, g5]; exact g1
  have oz0 := (show ((↑(List.map (row1 IntKind.i8) x).length : Int) == 0) = false by (refine decide_eq_false ?_; omega))
  have oz4 := (show ((↑(List.map (row1 IntKind.i32) b).length : Int) == 0) = false by (refine decide_eq_false ?_; omega))
  have oz11 := (IntWalk.i64_in ((↑(List.map (row1 IntKind.i8) x).length : Int) * (↑(List.map (row1 IntKind.i32) b).length : Int)) (by omega))
  have oz16 := @line_l (x) (w) (b) (z) hx hw hb hz xl hl wl bl
  exact VC.run (fn := Try.f142) (W := [.r [] [], .r [] [.br true, .br true, .br true, .br false, .br true, .br true, .br true, .br true, .br true, .br true, .br true, .n (nO oz11), .br true, .br false], .br false, .r [] [], .r [] [], .code [.any (rg [(8, 1), (11, 18)]), .weak 10 (i64 (↑0 : Int)), .nils 9 900 21 1, .sort] (Exit.exit 0) (zO oz16), .r [] []]) Try.func142 (by kernel_rfl) (.c oz0 <| .c oz0 <| .c oz0 <| .c oz0 <| .c oz4 <| .c oz4 <| .c oz4 <| .c oz4 <| .c oz4 <| .c oz4 <| .c oz4 <| .c oz11 <| .c oz4 <| .c oz4 <| .c (show ((↑(List.map (row1 IntKind.i8) w).length : Int) != (↑(List.map (row1 IntKind.i8) x).length : Int) * (↑(List.map (row1 IntKind.i32) b).length : Int)) = false by (simp; omega)) <| .c (Weak.int (k := .i64) (show ((0) : Int) = ((↑0 : Int)) from (by omega))) <| .c oz16 <| .n)
/-- Sums of a tensor's numbers, row by row of weights. -/
def denseOf (T : Ten) (n : Nod) : Ten × Int := if tenRight T = false then (ten0, 5) else if (denseE ⟨T.h, T.x, T.c⟩ n).2 ≠ 0 then (ten0, (denseE ⟨T.h, T.x, T.c⟩ n).2) else (⟨(denseE ⟨T.h, T.x, T.c⟩ n).1.h, (denseE ⟨T.h, T.x, T.c⟩ n).1.x, (denseE ⟨T.h, T.x, T.c⟩ n).1.c, lineL T.d n.w n.b n.za n.b.length⟩, 0)
theorem denseE_ok {t : Shp} {n : Nod} (h : (denseE t n).2 = 0) : 0 < elems t.h t.x t.c ∧ 1 ≤ n.no ∧ n.no ≤ 1024 ∧ (n.w.length : Int) = n.no * elems t.h t.x t.c ∧ n.w.length ≤ 16384 ∧ (n.b.length : Int) = n.no ∧ (denseE t n).1 = ⟨1, 1, n.no⟩ := by
  unfold denseE at h ⊢
  have e0 := elems_in t.h t.x t.c
  have e1 := elems_in 1 1 n.no
  split at h
  · simp at h
  · split at h
    · simp at h
    · rename_i h1 h2
      rw [if_neg h1, if_neg h2]
      have c := elems_ok (h := 1) (x := 1) (c := n.no) (by omega)
      exact ⟨by omega, by omega, by omega, by omega, by omega, by omega, rfl⟩
structure DnOk (T : Ten) (n : Nod) : Prop where
  ok : T.Ok
  okn : n.Ok
  r : tenRight T = true
  e : (denseE ⟨T.h, T.x, T.c⟩ n).2 = 0
theorem DnOk.n {T : Ten} {n : Nod} (h : DnOk T n) : T.d ≠ [] ∧ n.b ≠ [] ∧ T.d.length ≤ 1024 ∧ n.w.length = T.d.length * n.b.length ∧ n.w.length ≤ 16384 ∧ n.b.length ≤ 1024 := by
  obtain ⟨e1, e2, e3, e4, e5, e6, e7⟩ := denseE_ok h.e
  have r := tenRight.rt h.r
  have r1 := r.dl
  have r2 := r.en
  have r3 := r.el
  dsimp only at *
  refine ⟨?_, ?_, by omega, ?_, e5, by omega⟩
  · intro h0; rw [h0] at r1; simp at r1; omega
  · intro h0; rw [h0] at e6; simp at e6; omega
  · apply Int.ofNat_inj.1
    rw [Int.natCast_mul, e4, r2, ← r1, ← e6, Int.mul_comm]
set_option maxRecDepth 100000 in
set_option maxHeartbeats 2000000 in
theorem dense_y (T : Ten) (n : Nod) (ok : DnOk T n) : VC Try.prog 76 ([ten .i8 T, nod n]) (.tup [ten .i32 (denseOf T n).1, i64 (denseOf T n).2]) := by
  obtain ⟨o1, o2, o3, o4⟩ := id ok
  obtain ⟨g1, g2, g3, g4, g5, g6⟩ := ok.n
  have k1 := o1.d
  have k2 := o2.w
  have k3 := o2.b
  have k4 := o2.za
  have oz0 := @refTRight_v (T) o1
  have oz2 := @refDenseShape_v (Shp.mk T.h T.x T.c) (n) (by (exact Shp.mk_ok o1.h o1.x o1.c)) o2
  have oz4 := @line_v (T.d) (n.w) (n.b) (n.za) k1 k2 k3 k4 g1 g2 g3 g4 g5 g6
  exact (VC.run (fn := Try.f76) (W := [.r [] [], .r [] [.callr (rO oz0)], .br false, .r [] [.callr (rO oz2)], .r [] [], .br false, .r [] [.callr (rO oz4)]]) (r := AV.tup [AV.agg [i64 (denseE (Shp.mk T.h T.x T.c) n).fst.h, i64 (denseE (Shp.mk T.h T.x T.c) n).fst.x, i64 (denseE (Shp.mk T.h T.x T.c) n).fst.c, AV.sl 1 (List.map (row1 IntKind.i32) (lineL T.d n.w n.b n.za n.b.length))], i64 0]) Try.func76 (by kernel_rfl) (.c oz0 <| .c (show (!tenRight T) = false by (simp; omega)) <| .c oz2 <| .c (show ((denseE (Shp.mk T.h T.x T.c) n).snd != 0) = false by (simp; omega)) <| .c oz4 <| .n)).weak (WeakL.refl _) (Weak.tup (.cons (Weak.agg (.cons (Weak.int (show (((denseE (Shp.mk T.h T.x T.c) n).fst.h) : Int) = ((denseOf T n).fst.h) from (by (unfold denseOf; rw [if_neg (by simp [o3]), if_neg (by simp [o4])])))) (.cons (Weak.int (show (((denseE (Shp.mk T.h T.x T.c) n).fst.x) : Int) = ((denseOf T n).fst.x) from (by (unfold denseOf; rw [if_neg (by simp [o3]), if_neg (by simp [o4])])))) (.cons (Weak.int (show (((denseE (Shp.mk T.h T.x T.c) n).fst.c) : Int) = ((denseOf T n).fst.c) from (by (unfold denseOf; rw [if_neg (by simp [o3]), if_neg (by simp [o4])])))) (.cons (Weak.rows (rows_to (row1 IntKind.i32) (r := List.map (row1 IntKind.i32) (lineL T.d n.w n.b n.za n.b.length)) (l := lineL T.d n.w n.b n.za n.b.length) (m := (denseOf T n).fst.d) rfl (show (lineL T.d n.w n.b n.za n.b.length) = ((denseOf T n).fst.d) from (by (unfold denseOf; rw [if_neg (by simp [o3]), if_neg (by simp [o4])]))))) .nil))))) (.cons (Weak.int (show ((0) : Int) = ((denseOf T n).snd) from (by (unfold denseOf; rw [if_neg (by simp [o3]), if_neg (by simp [o4])])))) .nil)))

set_option maxRecDepth 100000 in
set_option maxHeartbeats 2000000 in
theorem dense_n (T : Ten) (n : Nod) (ok : T.Ok) (okn : n.Ok) (hn : tenRight T = false ∨ (denseE ⟨T.h, T.x, T.c⟩ n).2 ≠ 0) : VC Try.prog 76 ([ten .i8 T, nod n]) (.tup [ten .i32 (denseOf T n).1, i64 (denseOf T n).2]) := by
  have oz0 := @refTRight_v (T) ok
  rcases Bool.eq_false_or_eq_true (!tenRight T) with hc0 | hc0
  · have gc0 : tenRight T = false := by first | exact hc0 | exact of_decide_eq_true hc0 | exact of_decide_eq_false hc0 | simpa [eqNums] using hc0 | (simp [eqNums] at hc0 ⊢; first | done | assumption | omega)
    exact (VC.run (fn := Try.f76) (W := [.r [] [], .r [] [.callr (rO oz0)], .br true, .r [] []]) (r := AV.tup [AV.agg [i64 0, i64 0, i64 0, AV.lit (Value.slice none 0 0)], i64 5]) Try.func76 (by kernel_rfl) (.c oz0 <| .c hc0 <| .n)).weak (WeakL.refl _) (Weak.tup (.cons (Weak.agg (.cons (Weak.int (show ((0) : Int) = ((denseOf T n).fst.h) from (by (simp only [denseOf]; rw [if_pos (by simp_all)]; first | done | rfl)))) (.cons (Weak.int (show ((0) : Int) = ((denseOf T n).fst.x) from (by (simp only [denseOf]; rw [if_pos (by simp_all)]; first | done | rfl)))) (.cons (Weak.int (show ((0) : Int) = ((denseOf T n).fst.c) from (by (simp only [denseOf]; rw [if_pos (by simp_all)]; first | done | rfl)))) (.cons (Weak.nilr (show [] = (List.map (row1 IntKind.i32) (denseOf T n).fst.d) from (by (simp only [denseOf]; rw [if_pos (by simp_all)]; first | done | rfl)))) .nil))))) (.cons (Weak.int (show ((5) : Int) = ((denseOf T n).snd) from (by (simp only [denseOf]; rw [if_pos (by simp_all)]; first | done | rfl)))) .nil)))
  · have gc0 : tenRight T = true := by first | exact hc0 | exact of_decide_eq_true hc0 | exact of_decide_eq_false hc0 | simpa [eqNums] using hc0 | (simp [eqNums] at hc0 ⊢; first | done | assumption | omega)
    have oz2 := @refDenseShape_v (Shp.mk T.h T.x T.c) (n) (by (exact Shp.mk_ok ok.h ok.x ok.c)) okn
    exact (VC.run (fn := Try.f76) (W := [.r [] [], .r [] [.callr (rO oz0)], .br false, .r [] [.callr (rO oz2)], .r [] [], .br true, .r [] []]) (r := AV.tup [AV.agg [i64 0, i64 0, i64 0, AV.lit (Value.slice none 0 0)], i64 (denseE (Shp.mk T.h T.x T.c) n).snd]) Try.func76 (by kernel_rfl) (.c oz0 <| .c hc0 <| .c oz2 <| .c (show ((denseE (Shp.mk T.h T.x T.c) n).snd != 0) = true by (rcases hn with hn | hn <;> simp_all; done)) <| .n)).weak (WeakL.refl _) (Weak.tup (.cons (Weak.agg (.cons (Weak.int (show ((0) : Int) = ((denseOf T n).fst.h) from (by (simp only [denseOf]; rw [if_neg (by simp_all), if_pos (by rcases hn with hn | hn <;> simp_all)]; first | done | rfl)))) (.cons (Weak.int (show ((0) : Int) = ((denseOf T n).fst.x) from (by (simp only [denseOf]; rw [if_neg (by simp_all), if_pos (by rcases hn with hn | hn <;> simp_all)]; first | done | rfl)))) (.cons (Weak.int (show ((0) : Int) = ((denseOf T n).fst.c) from (by (simp only [denseOf]; rw [if_neg (by simp_all), if_pos (by rcases hn with hn | hn <;> simp_all)]; first | done | rfl)))) (.cons (Weak.nilr (show [] = (List.map (row1 IntKind.i32) (denseOf T n).fst.d) from (by (simp only [denseOf]; rw [if_neg (by simp_all), if_pos (by rcases hn with hn | hn <;> simp_all)]; first | done | rfl)))) .nil))))) (.cons (Weak.int (show (((denseE (Shp.mk T.h T.x T.c) n).snd) : Int) = ((denseOf T n).snd) from (by (simp only [denseOf]; rw [if_neg (by simp_all), if_pos (by rcases hn with hn | hn <;> simp_all)]; first | done | rfl)))) .nil)))
theorem dense_v (T : Ten) (n : Nod) (ok : T.Ok) (okn : n.Ok) : VC Try.prog 76 [ten .i8 T, nod n] (.tup [ten .i32 (denseOf T n).1, i64 (denseOf T n).2]) := by
  cases hr : tenRight T with
  | false => exact dense_n T n ok okn (.inl hr)
  | true =>
    by_cases he : (denseE ⟨T.h, T.x, T.c⟩ n).2 = 0
    · exact dense_y T n ⟨ok, okn, hr, he⟩
    · exact dense_n T n ok okn (.inr he)
/-- Sums by the kind of a node. -/
def sumOf (T : Ten) (n : Nod) : Ten × Int := if n.kd = 1 then convOf T n else if n.kd = 2 then depthOf T n else if n.kd = 3 then denseOf T n else (ten0, 6)
set_option maxRecDepth 100000 in
set_option maxHeartbeats 2000000 in
theorem rsum_v (T : Ten) (n : Nod) (ok : T.Ok) (okn : n.Ok) : VC Try.prog 137 ([nod n, ten .i8 T]) (.tup [ten .i32 (sumOf T n).1, i64 (sumOf T n).2]) := by
  rcases Bool.eq_false_or_eq_true (n.kd == 1) with hc0 | hc0
  · have gc0 : n.kd = 1 := bet hc0
    have oz1 := @rcOf_v (T) (n) ok okn
    exact (VC.run (fn := Try.f137) (W := [.r [] [], .r [] [], .br true, .r [] [.callr (rO oz1)]]) (r := AV.tup [AV.agg [i64 (convOf T n).fst.h, i64 (convOf T n).fst.x, i64 (convOf T n).fst.c, AV.sl 1 (List.map (row1 IntKind.i32) (convOf T n).fst.d)], i64 (convOf T n).snd]) Try.func137 (by kernel_rfl) (.c hc0 <| .c oz1 <| .n)).weak (WeakL.refl _) (Weak.tup (.cons (Weak.agg (.cons (Weak.int (show (((convOf T n).fst.h) : Int) = ((sumOf T n).fst.h) from (by (unfold sumOf; rw [if_pos (by omega)])))) (.cons (Weak.int (show (((convOf T n).fst.x) : Int) = ((sumOf T n).fst.x) from (by (unfold sumOf; rw [if_pos (by omega)])))) (.cons (Weak.int (show (((convOf T n).fst.c) : Int) = ((sumOf T n).fst.c) from (by (unfold sumOf; rw [if_pos (by omega)])))) (.cons (Weak.rows (rows_to (row1 IntKind.i32) (r := List.map (row1 IntKind.i32) (convOf T n).fst.d) (l := (convOf T n).fst.d) (m := (sumOf T n).fst.d) rfl (show ((convOf T n).fst.d) = ((sumOf T n).fst.d) from (by (unfold sumOf; rw [if_pos (by omega)]))))) .nil))))) (.cons (Weak.int (show (((convOf T n).snd) : Int) = ((sumOf T n).snd) from (by (unfold sumOf; rw [if_pos (by omega)])))) .nil)))
  · have gc0 : ¬n.kd = 1 := bef hc0
    rcases Bool.eq_false_or_eq_true (n.kd == 2) with hc1 | hc1
    · have gc1 : n.kd = 2 := bet hc1
      have oz2 := @rdOf_v (T) (n) ok okn
      exact (VC.run (fn := Try.f137) (W := [.r [] [], .r [] [], .br false, .r [] [], .br true, .r [] [.callr (rO oz2)]]) (r := AV.tup [AV.agg [i64 (depthOf T n).fst.h, i64 (depthOf T n).fst.x, i64 (depthOf T n).fst.c, AV.sl 1 (List.map (row1 IntKind.i32) (depthOf T n).fst.d)], i64 (depthOf T n).snd]) Try.func137 (by kernel_rfl) (.c hc0 <| .c hc1 <| .c oz2 <| .n)).weak (WeakL.refl _) (Weak.tup (.cons (Weak.agg (.cons (Weak.int (show (((depthOf T n).fst.h) : Int) = ((sumOf T n).fst.h) from (by (unfold sumOf; rw [if_neg (by omega), if_pos (by omega)])))) (.cons (Weak.int (show (((depthOf T n).fst.x) : Int) = ((sumOf T n).fst.x) from (by (unfold sumOf; rw [if_neg (by omega), if_pos (by omega)])))) (.cons (Weak.int (show (((depthOf T n).fst.c) : Int) = ((sumOf T n).fst.c) from (by (unfold sumOf; rw [if_neg (by omega), if_pos (by omega)])))) (.cons (Weak.rows (rows_to (row1 IntKind.i32) (r := List.map (row1 IntKind.i32) (depthOf T n).fst.d) (l := (depthOf T n).fst.d) (m := (sumOf T n).fst.d) rfl (show ((depthOf T n).fst.d) = ((sumOf T n).fst.d) from (by (unfold sumOf; rw [if_neg (by omega), if_pos (by omega)]))))) .nil))))) (.cons (Weak.int (show (((depthOf T n).snd) : Int) = ((sumOf T n).snd) from (by (unfold sumOf; rw [if_neg (by omega), if_pos (by omega)])))) .nil)))
    · have gc1 : ¬n.kd = 2 := bef hc1
      rcases Bool.eq_false_or_eq_true (n.kd == 3) with hc2 | hc2
      · have gc2 : n.kd = 3 := bet hc2
        have oz3 := @dense_v (T) (n) ok okn
        exact (VC.run (fn := Try.f137) (W := [.r [] [], .r [] [], .br false, .r [] [], .br false, .r [] [], .br true, .r [] [.callr (rO oz3)]]) (r := AV.tup [AV.agg [i64 (denseOf T n).fst.h, i64 (denseOf T n).fst.x, i64 (denseOf T n).fst.c, AV.sl 1 (List.map (row1 IntKind.i32) (denseOf T n).fst.d)], i64 (denseOf T n).snd]) Try.func137 (by kernel_rfl) (.c hc0 <| .c hc1 <| .c hc2 <| .c oz3 <| .n)).weak (WeakL.refl _) (Weak.tup (.cons (Weak.agg (.cons (Weak.int (show (((denseOf T n).fst.h) : Int) = ((sumOf T n).fst.h) from (by (unfold sumOf; rw [if_neg (by omega), if_neg (by omega), if_pos (by omega)])))) (.cons (Weak.int (show (((denseOf T n).fst.x) : Int) = ((sumOf T n).fst.x) from (by (unfold sumOf; rw [if_neg (by omega), if_neg (by omega), if_pos (by omega)])))) (.cons (Weak.int (show (((denseOf T n).fst.c) : Int) = ((sumOf T n).fst.c) from (by (unfold sumOf; rw [if_neg (by omega), if_neg (by omega), if_pos (by omega)])))) (.cons (Weak.rows (rows_to (row1 IntKind.i32) (r := List.map (row1 IntKind.i32) (denseOf T n).fst.d) (l := (denseOf T n).fst.d) (m := (sumOf T n).fst.d) rfl (show ((denseOf T n).fst.d) = ((sumOf T n).fst.d) from (by (unfold sumOf; rw [if_neg (by omega), if_neg (by omega), if_pos (by omega)]))))) .nil))))) (.cons (Weak.int (show (((denseOf T n).snd) : Int) = ((sumOf T n).snd) from (by (unfold sumOf; rw [if_neg (by omega), if_neg (by omega), if_pos (by omega)])))) .nil)))
      · have gc2 : ¬n.kd = 3 := bef hc2
        exact (VC.run (fn := Try.f137) (W := [.r [] [], .r [] [], .br false, .r [] [], .br false, .r [] [], .br false, .r [] []]) (r := AV.tup [AV.agg [i64 0, i64 0, i64 0, AV.lit (Value.slice none 0 0)], i64 6]) Try.func137 (by kernel_rfl) (.c hc0 <| .c hc1 <| .c hc2 <| .n)).weak (WeakL.refl _) (Weak.tup (.cons (Weak.agg (.cons (Weak.int (show ((0) : Int) = ((sumOf T n).fst.h) from (by (unfold sumOf; rw [if_neg (by omega), if_neg (by omega), if_neg (by omega)])))) (.cons (Weak.int (show ((0) : Int) = ((sumOf T n).fst.x) from (by (unfold sumOf; rw [if_neg (by omega), if_neg (by omega), if_neg (by omega)])))) (.cons (Weak.int (show ((0) : Int) = ((sumOf T n).fst.c) from (by (unfold sumOf; rw [if_neg (by omega), if_neg (by omega), if_neg (by omega)])))) (.cons (Weak.nilr (show [] = (List.map (row1 IntKind.i32) (sumOf T n).fst.d) from (by (unfold sumOf; rw [if_neg (by omega), if_neg (by omega), if_neg (by omega)]; rfl)))) .nil))))) (.cons (Weak.int (show ((6) : Int) = ((sumOf T n).snd) from (by (unfold sumOf; rw [if_neg (by omega), if_neg (by omega), if_neg (by omega)])))) .nil)))
end Go.Proofs.Ytgecmooedhnenaa

