/- Texts of this claim, put together: Fu, Fu2, Fu3, PrC, PrD, KnP, Fu4, Few, PrE, Gs2, Gs3, Fu5, Cx, Cy, Cz, CvR, CvM. No condition. -/
import Derived.Test.YtgecmooedhnenaaFuseBlocksG4
set_option linter.unusedVariables false
set_option linter.unusedSimpArgs false
set_option linter.unnecessarySimpa false
/- Which nodes change nothing, which Pads fit, what both are together, by the program and by the document. No condition. -/
namespace Go.Proofs.Ytgecmooedhnenaa
open Go.RowKit
set_option linter.unusedSimpArgs false
set_option linter.unusedVariables false
set_option linter.unnecessarySimpa false

def plF (i : Nat) : Int := (i : Int) - 128
def oneT (n : Nod) (i : Nat) : Int := oneN ((i : Int) - 128) n
def tabR (f : Nat → Int) (k : Nat) : List (List AV) := (List.range 256).map fun i => [i8 (if i < k then f i else 0)]
theorem tabR_set (f : Nat → Int) (k : Nat) : (tabR f k).set k [i8 (f k)] = tabR f (k + 1) := by
  unfold tabR
  apply List.ext_getElem?
  intro i
  rw [List.getElem?_set]
  simp only [List.getElem?_map, List.length_map, List.length_range]
  by_cases hi : i < 256
  · rw [List.getElem?_range hi]
    by_cases hk : k = i
    · subst hk; simp [hi]
    · rw [if_neg hk]
      have : (i < k) = (i < k + 1) := by apply propext; omega
      simp only [Option.map_some, this]
  · rw [List.getElem?_eq_none (by simpa using hi)]
    by_cases hk : k = i
    · subst hk; simp [hi]
    · simp [hk]
theorem tabR_len (f : Nat → Int) (k : Nat) : (tabR f k).length = 256 := by simp [tabR]
noncomputable def fplain_l_I  (k : Nat) : VS := stt 13 [(0, .ptr 0 0 0), (1, .ptr 1 0 0), (3, i64 k)] [(0, .slc 213 1 (tabR plF 0)), (1, .slc 213 1 (tabR plF k))]
noncomputable def fplain_l_Z  : VS := fplain_l_I  (256)
set_option maxRecDepth 100000 in
set_option maxHeartbeats 2000000 in
theorem fplain_l_s   (k : Nat) (hk : k < 256) : VT Try.prog (fnC Try.f148 [1, 1, 0, 1, 0, 0]) (fplain_l_I  k) .normal (fplain_l_I  (k + 1)) := by
  have q := tabR_len plF k
  have q2 := tabR_set plF k
  have q3 : plF k = (k : Int) - 128 := rfl
  exact VT.run (W := [.r [] [], .br true, .r [] [], .r [] [.n ((↑k : Int) - 128), .n ((↑k : Int) - 128), .nat 0], .r [] [.n ((↑k : Int) + 1)]]) (G := [.any (rg [(2, 1), (4, 8)]), .weak 3 (i64 (↑(k + 1) : Int)), .blk 1 (Blk.slc 213 1 ((List.range 256).map fun qi => [i8 (if qi < k + 1 then plF qi else 0)])), .sort]) (by kernel_rfl) (.c (decide_eq_true (p := ((↑k : Int) < 256)) (by omega)) <| .c (IntWalk.i64_in ((↑k : Int) - 128) (by omega)) <| .c (IntWalk.i8_in ((↑k : Int) - 128) (by omega)) <| .c (show 0 ≤ (↑k : Int) by omega) <| .c (show (↑k : Int) < (↑256 : Int) by omega) <| .c (show (↑k : Int).toNat < 256 by omega) <| .c (IntWalk.i64_in ((↑k : Int) + 1) (by omega)) <| .c (Weak.int (k := .i64) (show (((↑k : Int) + 1) : Int) = ((↑(k + 1) : Int)) from (by omega))) <| .c (show BlkW (Blk.slc 213 1 (((List.range 256).map fun qi => [i8 (if qi < k then plF qi else 0)]).set (↑k : Int).toNat [i8 ((↑k : Int) - 128)])) (Blk.slc 213 1 ((List.range 256).map fun qi => [i8 (if qi < k + 1 then plF qi else 0)])) from (BlkW.rows (show (((List.range 256).map fun qi => [i8 (if qi < k then plF qi else 0)]).set (↑k : Int).toNat [i8 ((↑k : Int) - 128)]) = (((List.range 256).map fun qi => [i8 (if qi < k + 1 then plF qi else 0)])) from (by (exact q2))))) <| .n)
set_option maxRecDepth 100000 in
set_option maxHeartbeats 2000000 in
theorem fplain_l_e   : VT Try.prog (fnC Try.f148 [1, 1, 0, 1, 0, 0]) (fplain_l_I  (256)) (.exit 0) (fplain_l_Z ) := by
  exact VT.run (W := [.r [] [], .br false]) (G := [.any [4], .sort]) (by kernel_rfl) (.c (show false = false by with_reducible rfl) <| .n)
theorem fplain_l   : VT Try.prog (fnC Try.f148 [1, 1, 0, 1, 0]) (fplain_l_I  0) (.exit 0) (fplain_l_Z ) :=
  VT.loop (fun k => fplain_l_I  k) (256) (fun k hk => fplain_l_s   k hk) (fplain_l_e  ) (by intro h; cases h)
theorem zeroR (f : Nat → Int) : List.replicate 256 [i8 0] = tabR f 0 := by
  unfold tabR
  apply List.ext_getElem?
  intro i
  rw [List.getElem?_replicate, List.getElem?_map]
  by_cases hi : i < 256
  · rw [List.getElem?_range hi, if_pos hi]; rfl
  · rw [List.getElem?_eq_none (by simpa using hi), if_neg hi]; rfl
set_option maxRecDepth 100000 in
set_option maxHeartbeats 2000000 in
theorem fplain_w   : VC Try.prog 148 ([]) (.agg (tabR plF 256).flatten) := by
  have oz1 := (show BlkW (Blk.slc (213 : Nat) (1 : Nat) (List.replicate 256 [i8 (0 : Int)])) (Blk.slc (213 : Nat) (1 : Nat) ((List.range 256).map fun qi => [i8 (if (qi : Nat) < (0 : Nat) then plF (qi : Nat) else (0 : Int))])) from (BlkW.rows (show ((List.replicate 256 [i8 0])) = (((List.range 256).map fun qi => [i8 (if qi < 0 then plF qi else 0)])) from (by (exact zeroR _)))))
  have oz3 := @fplain_l
  exact VC.run (fn := Try.f148) (W := [.r [] [], .r [] [], .r [] [], .code [.weak 3 (i64 (↑0 : Int)), .blk 0 (Blk.slc 213 1 ((List.range 256).map fun qi => [i8 (if qi < 0 then plF qi else 0)])), .blk 1 (Blk.slc 213 1 ((List.range 256).map fun qi => [i8 (if qi < 0 then plF qi else 0)])), .sort] (Exit.exit 0) (zO oz3), .r [] []]) Try.func148 (by kernel_rfl) (.c (Weak.int (k := .i64) (show ((0) : Int) = ((↑0 : Int)) from (by omega))) <| .c oz1 <| .c oz1 <| .c oz3 <| .n)

noncomputable def ftab_l_I (n : Nod) (k : Nat) : VS := stt 23 [(1, .ptr 1 0 0), (2, .ptr 2 0 0), (4, .ptr 4 0 0), (11, i64 k)] [(1, .var (nodC n)), (2, .slc 213 1 (tabR (oneT n) 0)), (4, .slc 213 1 (tabR (oneT n) k))]
noncomputable def ftab_l_Z (n : Nod) : VS := ftab_l_I n (256)
set_option maxRecDepth 100000 in
set_option maxHeartbeats 2000000 in
theorem ftab_l_s (n : Nod) (ok : n.Ok) (k : Nat) (hk : k < 256) : VT Try.prog (fnC Try.f147 [1, 1, 1, 0, 1, 0, 0]) (ftab_l_I n k) .normal (ftab_l_I n (k + 1)) := by
  have q := tabR_len (oneT n) k
  have q2 := tabR_set (oneT n) k
  have oz3 := @actOne_w ((↑k : Int) - 128) (n) ok (by omega)
  exact VT.run (W := [.r [] [], .br true, .r [] [], .r [] [.n ((↑k : Int) - 128), .n ((↑k : Int) - 128), .callr (rO oz3), .nat 0], .r [] [.n ((↑k : Int) + 1)]]) (G := [.any (rg [(5, 1), (12, 10)]), .weak 11 (i64 (↑(k + 1) : Int)), .blk 4 (Blk.slc 213 1 ((List.range 256).map fun qi => [i8 (if qi < k + 1 then oneT n qi else 0)])), .sort]) (by kernel_rfl) (.c (decide_eq_true (p := ((↑k : Int) < 256)) (by omega)) <| .c (IntWalk.i64_in ((↑k : Int) - 128) (by omega)) <| .c (IntWalk.i8_in ((↑k : Int) - 128) (by omega)) <| .c oz3 <| .c (show 0 ≤ (↑k : Int) by omega) <| .c (show (↑k : Int) < (↑256 : Int) by omega) <| .c (show (↑k : Int).toNat < 256 by omega) <| .c (IntWalk.i64_in ((↑k : Int) + 1) (by omega)) <| .c (Weak.int (k := .i64) (show (((↑k : Int) + 1) : Int) = ((↑(k + 1) : Int)) from (by omega))) <| .c (show BlkW (Blk.slc 213 1 (((List.range 256).map fun qi => [i8 (if qi < k then oneT n qi else 0)]).set (↑k : Int).toNat [i8 (oneN ((↑k : Int) - 128) n)])) (Blk.slc 213 1 ((List.range 256).map fun qi => [i8 (if qi < k + 1 then oneT n qi else 0)])) from (BlkW.rows (show (((List.range 256).map fun qi => [i8 (if qi < k then oneT n qi else 0)]).set (↑k : Int).toNat [i8 (oneN ((↑k : Int) - 128) n)]) = (((List.range 256).map fun qi => [i8 (if qi < k + 1 then oneT n qi else 0)])) from (by (exact q2))))) <| .n)
set_option maxRecDepth 100000 in
set_option maxHeartbeats 2000000 in
theorem ftab_l_e (n : Nod) (ok : n.Ok) : VT Try.prog (fnC Try.f147 [1, 1, 1, 0, 1, 0, 0]) (ftab_l_I n (256)) (.exit 0) (ftab_l_Z n) := by
  exact VT.run (W := [.r [] [], .br false]) (G := [.any [12], .sort]) (by kernel_rfl) (.c (show false = false by with_reducible rfl) <| .n)
theorem ftab_l (n : Nod) (ok : n.Ok) : VT Try.prog (fnC Try.f147 [1, 1, 1, 0, 1, 0]) (ftab_l_I n 0) (.exit 0) (ftab_l_Z n) :=
  VT.loop (fun k => ftab_l_I n k) (256) (fun k hk => ftab_l_s n ok k hk) (ftab_l_e n ok) (by intro h; cases h)

set_option maxRecDepth 100000 in
set_option maxHeartbeats 2000000 in
theorem ftab_w (n : Nod) (ok : n.Ok) (hq : rightQ n.qm n.qs = true) : VC Try.prog 147 ([nod n]) (.tup [.agg (tabR (oneT n) 256).flatten, i64 0]) := by
  have oz0 := @right_v (n.qm) (n.qs) (n.qz)
  have oz3 := (show BlkW (Blk.slc 213 1 (List.replicate 256 [i8 0])) (Blk.slc 213 1 ((List.range 256).map fun qi => [i8 (if qi < 0 then oneT n qi else 0)])) from (BlkW.rows (show ((List.replicate 256 [i8 0])) = (((List.range 256).map fun qi => [i8 (if qi < 0 then oneT (Nod.mk n.kd n.na n.nb n.nk n.ns n.np n.no n.za n.zb n.w n.b n.qm n.qs n.qz n.rm n.rs n.rz n.lo n.hi) qi else 0)])) from (by (exact zeroR _)))))
  have oz5 := @ftab_l (n) ok
  exact VC.run (fn := Try.f147) (W := [.r [] [], .r [] [], .r [] [.callr (rO oz0)], .br false, .r [] [], .code [.any [0, 3, 6, 7, 8, 9], .weak 11 (i64 (↑0 : Int)), .blk 2 (Blk.slc 213 1 ((List.range 256).map fun qi => [i8 (if qi < 0 then oneT n qi else 0)])), .blk 4 (Blk.slc 213 1 ((List.range 256).map fun qi => [i8 (if qi < 0 then oneT n qi else 0)])), .sort] (Exit.exit 0) (zO oz5), .r [] []]) Try.func147 (by kernel_rfl) (.c oz0 <| .c (show (!rightQ n.qm n.qs) = false by (simp; omega)) <| .c (Weak.int (k := .i64) (show ((0) : Int) = ((↑0 : Int)) from (by omega))) <| .c oz3 <| .c oz3 <| .c oz5 <| .n)
end Go.Proofs.Ytgecmooedhnenaa

/- Which nodes change nothing, by the program and by the document. No condition. -/
namespace Go.Proofs.Ytgecmooedhnenaa
open Go.RowKit
set_option linter.unusedSimpArgs false
set_option linter.unusedVariables false
set_option linter.unnecessarySimpa false

theorem same_q {n : Nod} (h7 : n.kd = 7) (hc : checkE n = 0) : rightQ n.qm n.qs = true := by
  unfold checkE at hc
  rw [if_neg (by omega)] at hc
  split at hc
  · exact absurd hc (by decide)
  · split at hc
    · exact absurd hc (by decide)
    · rename_i c
      have : scaledB n.kd = true := by unfold scaledB; simp [h7]
      rw [this] at c
      cases e : rightQ n.qm n.qs with
      | true => rfl
      | false => rw [e] at c; simp at c
theorem same_no {n : Nod} (h : n.kd ≠ 7 ∨ checkE n ≠ 0) : false = sameN n := by
  cases e : sameN n with
  | false => rfl
  | true => have := same_iff.1 e; omega
theorem eqNums_all : ∀ (l : List Nat) (f g : Nat → Int), eqNums (l.map fun i => (IntKind.i8, f i, g i)) = l.all fun i => decide (f i = g i)
  | [], _, _ => rfl
  | a :: l, f, g => by
    rw [List.map_cons, eqNums, eqNums_all l f g, List.all_cons]
    congr 1
theorem tab_same {n : Nod} (h7 : n.kd = 7) (hc : checkE n = 0) : eqNums ((List.range 256).map fun i => (IntKind.i8, (if i < 256 then oneT n i else 0), (if i < 256 then plF i else 0))) = sameN n := by
  rw [eqNums_all]
  unfold sameN
  rw [decide_eq_true h7, decide_eq_true hc, Bool.true_and, Bool.true_and]
  apply Bool.eq_iff_iff.2
  simp only [List.all_eq_true, List.mem_range, decide_eq_true_eq]
  constructor
  · intro h i hi
    have := h i hi
    rw [if_pos hi, if_pos hi] at this; exact this
  · intro h i hi
    rw [if_pos hi, if_pos hi]; exact h i hi
theorem tab_bin (x y : Operand) {n : Nod} (h7 : n.kd = 7) (hc : checkE n = 0) : BinTo Try.prog .eql 213 x y (numsA ((List.range 256).map fun i => (IntKind.i8, (if i < 256 then oneT n i else 0), (if i < 256 then plF i else 0)))) (numsB ((List.range 256).map fun i => (IntKind.i8, (if i < 256 then oneT n i else 0), (if i < 256 then plF i else 0)))) (.bool (sameN n)) := by
  rw [← tab_same h7 hc]
  exact (bin_arr (by kernel_rfl) (by rw [List.map_map]; kernel_rfl) x y).1
set_option maxRecDepth 100000 in
set_option maxHeartbeats 2000000 in
theorem fsame_v (n : Nod) (ok : n.Ok) (wl : n.w.length ≤ 100000) (bl : n.b.length ≤ 100000) : VC Try.prog 89 ([nod n]) (bv (sameN n)) := by
  have q := @same_q n
  have q2 := ok.kd
  have oz0 := @check_v (n) wl bl q2
  rcases Bool.eq_false_or_eq_true (n.kd != 7 || checkE n != 0) with hc0 | hc0
  · have gc0 : ¬n.kd = 7 ∨ ¬checkE n = 0 := by first | (simp only [Bool.or_eq_true, Bool.or_eq_false_iff, Bool.and_eq_true, Bool.and_eq_false_iff, Bool.not_eq_true', Bool.not_eq_false', decide_eq_true_eq, decide_eq_false_iff_not, beq_iff_eq, bne_iff_ne, ne_eq, beq_eq_false_iff_ne, bne_eq_false_iff_eq, eqNums, Bool.and_true] at hc0; first | exact hc0 | omega) | simpa using hc0 | (simp at hc0 ⊢; omega) | (apply Classical.byContradiction; intro hn; simp_all [eqNums]; done) | (apply Classical.byContradiction; intro hn; simp [eqNums] at hc0 hn; omega)
    exact (VC.run (fn := Try.f89) (W := [.r [] [], .r [] [.op false, .op false, .callr (rO oz0), .op false, .sel 1], .br true, .r [] []]) (r := bv false) Try.func89 (by kernel_rfl) (.c oz0 <| .c hc0 <| .n)).weak (WeakL.refl _) (Weak.bool (show ((false) : Bool) = (sameN n) from (by (exact same_no (by omega)))))
  · have gc0 : n.kd = 7 ∧ checkE n = 0 := by first | (simp only [Bool.or_eq_true, Bool.or_eq_false_iff, Bool.and_eq_true, Bool.and_eq_false_iff, Bool.not_eq_true', Bool.not_eq_false', decide_eq_true_eq, decide_eq_false_iff_not, beq_iff_eq, bne_iff_ne, ne_eq, beq_eq_false_iff_ne, bne_eq_false_iff_eq, eqNums, Bool.and_true] at hc0; first | exact hc0 | omega) | simpa using hc0 | (simp at hc0 ⊢; omega) | (apply Classical.byContradiction; intro hn; simp_all [eqNums]; done) | (apply Classical.byContradiction; intro hn; simp [eqNums] at hc0 hn; omega)
    have oz2 := @ftab_w (n) ok (by (exact q (by omega) (by omega)))
    have oz3 := (show true = true by with_reducible rfl)
    have oz5 := @fplain_w
    exact VC.run (fn := Try.f89) (W := [.r [] [], .r [] [.op false, .op false, .callr (rO oz0), .op false, .sel 1], .br false, .r [] [.callr (rO oz2)], .r [] [.br true, .br true, .callr (rO oz5), .br true, .v (Value.bool (sameN n)), .br true]]) Try.func89 (by kernel_rfl) (.c oz0 <| .c hc0 <| .c oz2 <| .c oz3 <| .c oz3 <| .c oz5 <| .c oz3 <| .c (show BinTo Try.prog BinOp.eql 213 (Operand.tmp 21) (Operand.tmp 22) (Value.agg (((List.range 256).map fun qi => Value.int IntKind.i8 (if qi < 256 then oneT n qi else 0)).toArray)) (Value.agg (((List.range 256).map fun qi => Value.int IntKind.i8 (if qi < 256 then plF qi else 0)).toArray)) (Value.bool (sameN n)) by (exact tab_bin _ _ (by omega) (by omega))) <| .c oz3 <| .n)
end Go.Proofs.Ytgecmooedhnenaa

/- Which Pads fit, what both are together, what lies behind all that change nothing, by the program and by the document. No condition. -/
namespace Go.Proofs.Ytgecmooedhnenaa
open Go.RowKit
set_option linter.unusedSimpArgs false
set_option linter.unusedVariables false
set_option linter.unnecessarySimpa false

theorem oneN_8 {n : Nod} (ok : n.Ok) (v : Int) : -128 ≤ oneN v n ∧ oneN v n ≤ 127 := by
  have h1 := ok.lo; have h2 := ok.hi
  unfold oneN heldQ; split
  · exact clamp_in _ h1 h2
  · omega
noncomputable def rsame52_ly_I (n : Nod) (k : Nat) : VS := stt 23 [(1, .ptr 1 0 0), (3, i64 ((k : Int) - 128))] [(1, .var (nodC n))]
noncomputable def rsame52_ly_Z (n : Nod) : VS := rsame52_ly_I n (256)
set_option maxRecDepth 100000 in
set_option maxHeartbeats 2000000 in
theorem rsame52_ly_s (n : Nod) (ok : n.Ok) (h : ∀ k : Nat, k < 256 → oneN ((k : Int) - 128) n = (k : Int) - 128) (k : Nat) (hk : k < 256) : VT Try.prog (fnC Try.f205 [1, 1, 0, 1, 0, 0]) (rsame52_ly_I n k) .normal (rsame52_ly_I n (k + 1)) := by
  have q := h k hk
  obtain ⟨q1, q2⟩ := oneN_8 ok ((k : Int) - 128)
  have oz2 := @refActOne_v ((↑k : Int) - 128) (n) ok (by omega)
  exact VT.run (W := [.r [] [], .br true, .r [] [.n ((↑k : Int) - 128), .callr (rO oz2), .n (oneN ((↑k : Int) - 128) n)], .br false, .r [] [.n ((↑k : Int) - 128 + 1)]]) (G := [.any (rg [(12, 11)]), .weak 3 (i64 ((↑(k + 1) : Int) - 128)), .sort]) (by kernel_rfl) (.c (decide_eq_true (p := ((↑k : Int) - 128 < 128)) (by omega)) <| .c (IntWalk.i8_in ((↑k : Int) - 128) (by omega)) <| .c oz2 <| .c (IntWalk.i64_in (oneN ((↑k : Int) - 128) n) (by omega)) <| .c (show (oneN ((↑k : Int) - 128) n != (↑k : Int) - 128) = false by (rw [q]; exact bne_self_eq_false _)) <| .c (IntWalk.i64_in ((↑k : Int) - 128 + 1) (by omega)) <| .c (Weak.int (k := .i64) (show (((↑k : Int) - 128 + 1) : Int) = ((↑(k + 1) : Int) - 128) from (by omega))) <| .n)
set_option maxRecDepth 100000 in
set_option maxHeartbeats 2000000 in
theorem rsame52_ly_e (n : Nod) (ok : n.Ok) (h : ∀ k : Nat, k < 256 → oneN ((k : Int) - 128) n = (k : Int) - 128) : VT Try.prog (fnC Try.f205 [1, 1, 0, 1, 0, 0]) (rsame52_ly_I n (256)) (.exit 0) (rsame52_ly_Z n) := by
  exact VT.run (W := [.r [] [], .br false]) (G := [.any [12, 13], .sort]) (by kernel_rfl) (.c (show false = false by with_reducible rfl) <| .n)
theorem rsame52_ly (n : Nod) (ok : n.Ok) (h : ∀ k : Nat, k < 256 → oneN ((k : Int) - 128) n = (k : Int) - 128) : VT Try.prog (fnC Try.f205 [1, 1, 0, 1, 0]) (rsame52_ly_I n 0) (.exit 0) (rsame52_ly_Z n) :=
  VT.loop (fun k => rsame52_ly_I n k) (256) (fun k hk => rsame52_ly_s n ok h k hk) (rsame52_ly_e n ok h) (by intro h; cases h)

noncomputable def rsame52_ln_I (n : Nod) (m : Nat) (k : Nat) : VS := stt 23 [(1, .ptr 1 0 0), (3, i64 ((k : Int) - 128))] [(1, .var (nodC n))]
noncomputable def rsame52_ln_Z (n : Nod) (m : Nat) : VS := stt 23 [(2, bv false)] []
set_option maxRecDepth 100000 in
set_option maxHeartbeats 2000000 in
theorem rsame52_ln_s (n : Nod) (m : Nat) (ok : n.Ok) (hm : m < 256) (hf : oneN ((m : Int) - 128) n ≠ (m : Int) - 128) (h : ∀ k : Nat, k < m → oneN ((k : Int) - 128) n = (k : Int) - 128) (k : Nat) (hk : k < m) : VT Try.prog (fnC Try.f205 [1, 1, 0, 1, 0, 0]) (rsame52_ln_I n m k) .normal (rsame52_ln_I n m (k + 1)) := by
  have q := h k hk
  obtain ⟨q1, q2⟩ := oneN_8 ok ((k : Int) - 128)
  have oz2 := @refActOne_v ((↑k : Int) - 128) (n) ok (by omega)
  exact VT.run (W := [.r [] [], .br true, .r [] [.n ((↑k : Int) - 128), .callr (rO oz2), .n (oneN ((↑k : Int) - 128) n)], .br false, .r [] [.n ((↑k : Int) - 128 + 1)]]) (G := [.any (rg [(12, 11)]), .weak 3 (i64 ((↑(k + 1) : Int) - 128)), .sort]) (by kernel_rfl) (.c (decide_eq_true (p := ((↑k : Int) - 128 < 128)) (by omega)) <| .c (IntWalk.i8_in ((↑k : Int) - 128) (by omega)) <| .c oz2 <| .c (IntWalk.i64_in (oneN ((↑k : Int) - 128) n) (by omega)) <| .c (show (oneN ((↑k : Int) - 128) n != (↑k : Int) - 128) = false by (rw [q]; exact bne_self_eq_false _)) <| .c (IntWalk.i64_in ((↑k : Int) - 128 + 1) (by omega)) <| .c (Weak.int (k := .i64) (show (((↑k : Int) - 128 + 1) : Int) = ((↑(k + 1) : Int) - 128) from (by omega))) <| .n)
set_option maxRecDepth 100000 in
set_option maxHeartbeats 2000000 in
theorem rsame52_ln_e (n : Nod) (m : Nat) (ok : n.Ok) (hm : m < 256) (hf : oneN ((m : Int) - 128) n ≠ (m : Int) - 128) (h : ∀ k : Nat, k < m → oneN ((k : Int) - 128) n = (k : Int) - 128) : VT Try.prog (fnC Try.f205 [1, 1, 0, 1, 0, 0]) (rsame52_ln_I n m (m)) (.ret) (rsame52_ln_Z n m) := by
  obtain ⟨q1, q2⟩ := oneN_8 ok ((m : Int) - 128)
  have oz2 := @refActOne_v ((↑m : Int) - 128) (n) ok (by omega)
  exact VT.run (W := [.r [] [], .br true, .r [] [.n ((↑m : Int) - 128), .callr (rO oz2), .n (oneN ((↑m : Int) - 128) n)], .br true, .r [] []]) (G := [.any (rg [(1, 1), (3, 1), (12, 2), (16, 7)]), .drop [1], .sort]) (by kernel_rfl) (.c (decide_eq_true (p := ((↑m : Int) - 128 < 128)) (by omega)) <| .c (IntWalk.i8_in ((↑m : Int) - 128) (by omega)) <| .c oz2 <| .c (IntWalk.i64_in (oneN ((↑m : Int) - 128) n) (by omega)) <| .c (show (oneN ((↑m : Int) - 128) n != (↑m : Int) - 128) = true by (exact bne_iff_ne.2 hf)) <| .n)
theorem rsame52_ln (n : Nod) (m : Nat) (ok : n.Ok) (hm : m < 256) (hf : oneN ((m : Int) - 128) n ≠ (m : Int) - 128) (h : ∀ k : Nat, k < m → oneN ((k : Int) - 128) n = (k : Int) - 128) : VT Try.prog (fnC Try.f205 [1, 1, 0, 1, 0]) (rsame52_ln_I n m 0) (.ret) (rsame52_ln_Z n m) :=
  VT.loop (fun k => rsame52_ln_I n m k) (m) (fun k hk => rsame52_ln_s n m ok hm hf h k hk) (rsame52_ln_e n m ok hm hf h) (by intro h; cases h)

set_option maxRecDepth 100000 in
set_option maxHeartbeats 2000000 in
theorem rsame52_y (n : Nod) (ok : n.Ok) (wl : n.w.length ≤ 100000) (bl : n.b.length ≤ 100000) (h7 : n.kd = 7) (hc : checkE n = 0) (h : ∀ k : Nat, k < 256 → oneN ((k : Int) - 128) n = (k : Int) - 128) : VC Try.prog 205 ([nod n]) (bv true) := by
  have q := ok.kd
  have oz0 := @refCheck_v (n) wl bl q
  have oz3 := @rsame52_ly (n) ok h
  exact VC.run (fn := Try.f205) (W := [.r [] [], .r [] [.op false, .op false, .callr (rO oz0), .op false, .sel 1], .br false, .r [] [], .code [.any [0, 2, 4, 5, 6, 7, 11], .weak 3 (i64 ((↑0 : Int) - 128)), .sort] (Exit.exit 0) (zO oz3), .r [] []]) Try.func205 (by kernel_rfl) (.c oz0 <| .c (show (n.kd != 7 || checkE n != 0) = false by (simp; omega)) <| .c (Weak.int (k := .i64) (show ((-128) : Int) = ((↑0 : Int) - 128) from (by omega))) <| .c oz3 <| .n)

set_option maxRecDepth 100000 in
set_option maxHeartbeats 2000000 in
theorem rsame52_m (n : Nod) (m : Nat) (ok : n.Ok) (wl : n.w.length ≤ 100000) (bl : n.b.length ≤ 100000) (h7 : n.kd = 7) (hc : checkE n = 0) (hm : m < 256) (hf : oneN ((m : Int) - 128) n ≠ (m : Int) - 128) (h : ∀ k : Nat, k < m → oneN ((k : Int) - 128) n = (k : Int) - 128) : VC Try.prog 205 ([nod n]) (bv false) := by
  have q := ok.kd
  have oz0 := @refCheck_v (n) wl bl q
  have oz3 := @rsame52_ln (n) (m) ok hm hf h
  exact VC.run (fn := Try.f205) (W := [.r [] [], .r [] [.op false, .op false, .callr (rO oz0), .op false, .sel 1], .br false, .r [] [], .code [.any [0, 2, 4, 5, 6, 7, 11], .weak 3 (i64 ((↑0 : Int) - 128)), .sort] (Exit.ret) (zO oz3)]) Try.func205 (by kernel_rfl) (.c oz0 <| .c (show (n.kd != 7 || checkE n != 0) = false by (simp; omega)) <| .c (Weak.int (k := .i64) (show ((-128) : Int) = ((↑0 : Int) - 128) from (by omega))) <| .c oz3 <| .n)

set_option maxRecDepth 100000 in
set_option maxHeartbeats 2000000 in
theorem rsame52_n (n : Nod) (ok : n.Ok) (wl : n.w.length ≤ 100000) (bl : n.b.length ≤ 100000) (hn : n.kd ≠ 7 ∨ checkE n ≠ 0) : VC Try.prog 205 ([nod n]) (bv false) := by
  have q := ok.kd
  have oz0 := @refCheck_v (n) wl bl q
  exact VC.run (fn := Try.f205) (W := [.r [] [], .r [] [.op false, .op false, .callr (rO oz0), .op false, .sel 1], .br true, .r [] []]) Try.func205 (by kernel_rfl) (.c oz0 <| .c (show (n.kd != 7 || checkE n != 0) = true by (rcases hn with hn | hn <;> simp [hn])) <| .n)
theorem rsame52_v (n : Nod) (ok : n.Ok) (wl : n.w.length ≤ 100000) (bl : n.b.length ≤ 100000) : VC Try.prog 205 [nod n] (bv (sameN n)) := by
  by_cases hn : n.kd ≠ 7 ∨ checkE n ≠ 0
  · rw [← same_no hn]; exact rsame52_n n ok wl bl hn
  · have h7 : n.kd = 7 := by omega
    have hc : checkE n = 0 := by omega
    rcases all_or (fun k => decide (oneN ((k : Int) - 128) n = (k : Int) - 128)) 256 with h | ⟨m, h1, h2, h3⟩
    · have : sameN n = true := by
        unfold sameN
        rw [decide_eq_true h7, decide_eq_true hc, Bool.true_and, Bool.true_and, List.all_eq_true]
        intro i hi; exact h i (List.mem_range.1 hi)
      rw [this]; exact rsame52_y n ok wl bl h7 hc fun k hk => of_decide_eq_true (h k hk)
    · have : sameN n = false := by
        cases e : sameN n with
        | false => rfl
        | true =>
          have := (same_iff.1 e).2.2 ((m : Int) - 128) (by unfold In8; omega)
          exact absurd this (of_decide_eq_false h2)
      rw [this]; exact rsame52_m n m ok wl bl h7 hc h1 (of_decide_eq_false h2) fun k hk => of_decide_eq_true (h3 k hk)
theorem fits_b {p c : Nod} {b : Bool} (h : b = true ↔ fitsN p c = true) : b = fitsN p c := Bool.eq_iff_iff.2 h
theorem fits_no {p c : Nod} (h : ¬ (p.kd = 8 ∧ (c.kd = 1 ∨ c.kd = 2) ∧ checkE p = 0 ∧ checkE c = 0 ∧ p.za = c.za ∧ 0 ≤ p.np ∧ 0 ≤ c.np ∧ p.np + c.np ≤ 4 ∧ p.np + c.np < c.nk)) : false = fitsN p c := by
  cases e : fitsN p c with
  | false => rfl
  | true => exact absurd (fits_iff.1 e) h
theorem wrapI64 {x : Int} (h : In64 x) : IntKind.i64.wrap x = x := IntWalk.i64_in _ h
theorem fits_yes {p c : Nod} (h8 : p.kd = 8) (hk : c.kd = 1 ∨ c.kd = 2) (c1 : checkE p = 0) (c2 : checkE c = 0) (hz : p.za = c.za) : (decide (p.np ≥ 0) && decide (c.np ≥ 0) && decide (p.np ≤ 4) && decide (c.np ≤ IntKind.i64.wrap (4 - p.np)) && decide (IntKind.i64.wrap (p.np + c.np) < c.nk)) = fitsN p c := by
  rw [Bool.eq_iff_iff, fits_iff]
  simp only [Bool.and_eq_true, decide_eq_true_eq]
  constructor
  · rintro ⟨⟨⟨⟨a, b⟩, d⟩, e⟩, f⟩
    rw [wrapI64 (by unfold In64; omega)] at e
    rw [wrapI64 (by unfold In64; omega)] at f
    exact ⟨h8, hk, c1, c2, hz, by omega, by omega, by omega, by omega⟩
  · rintro ⟨_, _, _, _, _, a, b, d, e⟩
    rw [wrapI64 (by unfold In64; omega), wrapI64 (by unfold In64; omega)]
    omega
set_option maxRecDepth 100000 in
set_option maxHeartbeats 2000000 in
theorem fits_v (p c : Nod) (okp : p.Ok) (okc : c.Ok) (wp : p.w.length ≤ 100000) (bp : p.b.length ≤ 100000) (wc : c.w.length ≤ 100000) (bc : c.b.length ≤ 100000) : VC Try.prog 151 ([nod p, nod c]) (bv (fitsN p c)) := by
  have q1 := okp.kd
  have q2 := okc.kd
  have q3 := okp.np
  have q4 := okc.np
  rcases Bool.eq_false_or_eq_true (p.kd != 8 || c.kd != 1 && c.kd != 2) with hc0 | hc0
  · have gc0 : ¬p.kd = 8 ∨ ¬c.kd = 1 ∧ ¬c.kd = 2 := by first | (simp only [Bool.or_eq_true, Bool.or_eq_false_iff, Bool.and_eq_true, Bool.and_eq_false_iff, Bool.not_eq_true', Bool.not_eq_false', decide_eq_true_eq, decide_eq_false_iff_not, beq_iff_eq, bne_iff_ne, ne_eq, beq_eq_false_iff_ne, bne_eq_false_iff_eq, eqNums, Bool.and_true] at hc0; first | exact hc0 | omega) | simpa using hc0 | (simp at hc0 ⊢; omega) | (apply Classical.byContradiction; intro hn; simp_all [eqNums]; done) | (apply Classical.byContradiction; intro hn; simp [eqNums] at hc0 hn; omega)
    exact (VC.run (fn := Try.f151) (W := [.r [] [], .r [] [.op false, .op false, .op false, .op false, .op false, .op false, .op false, .op false, .sel 2, .sel 1], .br true, .r [] []]) (r := bv false) Try.func151 (by kernel_rfl) (.c hc0 <| .n)).weak (WeakL.refl _) (Weak.bool (show ((false) : Bool) = (fitsN p c) from (by (exact fits_no (by simp_all; omega)))))
  · have gc0 : p.kd = 8 ∧ (c.kd = 1 ∨ c.kd = 2) := by first | (simp only [Bool.or_eq_true, Bool.or_eq_false_iff, Bool.and_eq_true, Bool.and_eq_false_iff, Bool.not_eq_true', Bool.not_eq_false', decide_eq_true_eq, decide_eq_false_iff_not, beq_iff_eq, bne_iff_ne, ne_eq, beq_eq_false_iff_ne, bne_eq_false_iff_eq, eqNums, Bool.and_true] at hc0; first | exact hc0 | omega) | simpa using hc0 | (simp at hc0 ⊢; omega) | (apply Classical.byContradiction; intro hn; simp_all [eqNums]; done) | (apply Classical.byContradiction; intro hn; simp [eqNums] at hc0 hn; omega)
    have oz1 := @check_v (p) wp bp q1
    have oz2 := @check_v (c) wc bc q2
    rcases Bool.eq_false_or_eq_true (checkE p != 0 || checkE c != 0 || p.za != c.za) with hc1 | hc1
    · have gc1 : (¬checkE p = 0 ∨ ¬checkE c = 0) ∨ ¬p.za = c.za := by first | (simp only [Bool.or_eq_true, Bool.or_eq_false_iff, Bool.and_eq_true, Bool.and_eq_false_iff, Bool.not_eq_true', Bool.not_eq_false', decide_eq_true_eq, decide_eq_false_iff_not, beq_iff_eq, bne_iff_ne, ne_eq, beq_eq_false_iff_ne, bne_eq_false_iff_eq, eqNums, Bool.and_true] at hc1; first | exact hc1 | omega) | simpa using hc1 | (simp at hc1 ⊢; omega) | (apply Classical.byContradiction; intro hn; simp_all [eqNums]; done) | (apply Classical.byContradiction; intro hn; simp [eqNums] at hc1 hn; omega)
      exact (VC.run (fn := Try.f151) (W := [.r [] [], .r [] [.op false, .op false, .op false, .op false, .op false, .op false, .op false, .op false, .sel 2, .sel 1], .br false, .r [] [.callr (rO oz1), .op false, .op false, .callr (rO oz2), .op false, .sel 1, .op false, .op false, .op false, .op false, .op false, .sel 1], .br true, .r [] []]) (r := bv false) Try.func151 (by kernel_rfl) (.c hc0 <| .c oz1 <| .c oz2 <| .c hc1 <| .n)).weak (WeakL.refl _) (Weak.bool (show ((false) : Bool) = (fitsN p c) from (by (exact fits_no (by simp_all; omega)))))
    · have gc1 : (checkE p = 0 ∧ checkE c = 0) ∧ p.za = c.za := by first | (simp only [Bool.or_eq_true, Bool.or_eq_false_iff, Bool.and_eq_true, Bool.and_eq_false_iff, Bool.not_eq_true', Bool.not_eq_false', decide_eq_true_eq, decide_eq_false_iff_not, beq_iff_eq, bne_iff_ne, ne_eq, beq_eq_false_iff_ne, bne_eq_false_iff_eq, eqNums, Bool.and_true] at hc1; first | exact hc1 | omega) | simpa using hc1 | (simp at hc1 ⊢; omega) | (apply Classical.byContradiction; intro hn; simp_all [eqNums]; done) | (apply Classical.byContradiction; intro hn; simp [eqNums] at hc1 hn; omega)
      exact (VC.run (fn := Try.f151) (W := [.r [] [], .r [] [.op false, .op false, .op false, .op false, .op false, .op false, .op false, .op false, .sel 2, .sel 1], .br false, .r [] [.callr (rO oz1), .op false, .op false, .callr (rO oz2), .op false, .sel 1, .op false, .op false, .op false, .op false, .op false, .sel 1], .br false, .r [] [.op false, .op false, .op false, .sel 2, .op false, .op false, .op false, .sel 2, .op false, .op false, .op false, .op false, .op false, .w, .op false, .sel 2, .op false, .op false, .op false, .op false, .op false, .w, .op false, .op false, .op false, .sel 2]]) (r := bv (decide (p.np ≥ 0) && decide (c.np ≥ 0) && decide (p.np ≤ 4) && decide (c.np ≤ IntKind.i64.wrap (4 - p.np)) && decide (IntKind.i64.wrap (p.np + c.np) < c.nk))) Try.func151 (by kernel_rfl) (.c hc0 <| .c oz1 <| .c oz2 <| .c hc1 <| .n)).weak (WeakL.refl _) (Weak.bool (show ((decide (p.np ≥ 0) && decide (c.np ≥ 0) && decide (p.np ≤ 4) && decide (c.np ≤ IntKind.i64.wrap (4 - p.np)) && decide (IntKind.i64.wrap (p.np + c.np) < c.nk)) : Bool) = (fitsN p c) from (by (exact fits_yes (by omega) (by omega) (by omega) (by omega) (by omega)))))

set_option maxRecDepth 100000 in
set_option maxHeartbeats 2000000 in
theorem rfits_v (p c : Nod) (okp : p.Ok) (okc : c.Ok) (wp : p.w.length ≤ 100000) (bp : p.b.length ≤ 100000) (wc : c.w.length ≤ 100000) (bc : c.b.length ≤ 100000) : VC Try.prog 154 ([nod p, nod c]) (bv (fitsN p c)) := by
  have q1 := okp.kd
  have q2 := okc.kd
  have q3 := okp.np
  have q4 := okc.np
  have oz0 := @refCheck_v (p) wp bp q1
  have oz1 := @refCheck_v (c) wc bc q2
  rcases Bool.eq_false_or_eq_true (p.kd != 8 || c.kd != 1 && c.kd != 2 || checkE p != 0 || checkE c != 0) with hc0 | hc0
  · have gc0 : ((¬p.kd = 8 ∨ ¬c.kd = 1 ∧ ¬c.kd = 2) ∨ ¬checkE p = 0) ∨ ¬checkE c = 0 := by first | (simp only [Bool.or_eq_true, Bool.or_eq_false_iff, Bool.and_eq_true, Bool.and_eq_false_iff, Bool.not_eq_true', Bool.not_eq_false', decide_eq_true_eq, decide_eq_false_iff_not, beq_iff_eq, bne_iff_ne, ne_eq, beq_eq_false_iff_ne, bne_eq_false_iff_eq, eqNums, Bool.and_true] at hc0; first | exact hc0 | omega) | simpa using hc0 | (simp at hc0 ⊢; omega) | (apply Classical.byContradiction; intro hn; simp_all [eqNums]; done) | (apply Classical.byContradiction; intro hn; simp [eqNums] at hc0 hn; omega)
    exact (VC.run (fn := Try.f154) (W := [.r [] [], .r [] [.op false, .op false, .op false, .op false, .op false, .op false, .op false, .op false, .sel 2, .sel 1, .op false, .op false, .callr (rO oz0), .op false, .sel 1, .op false, .op false, .callr (rO oz1), .op false, .sel 1], .br true, .r [] []]) (r := bv false) Try.func154 (by kernel_rfl) (.c oz0 <| .c oz1 <| .c hc0 <| .n)).weak (WeakL.refl _) (Weak.bool (show ((false) : Bool) = (fitsN p c) from (by (refine fits_b ?_; rw [fits_iff]; simp_all; omega))))
  · have gc0 : ((p.kd = 8 ∧ (c.kd = 1 ∨ c.kd = 2)) ∧ checkE p = 0) ∧ checkE c = 0 := by first | (simp only [Bool.or_eq_true, Bool.or_eq_false_iff, Bool.and_eq_true, Bool.and_eq_false_iff, Bool.not_eq_true', Bool.not_eq_false', decide_eq_true_eq, decide_eq_false_iff_not, beq_iff_eq, bne_iff_ne, ne_eq, beq_eq_false_iff_ne, bne_eq_false_iff_eq, eqNums, Bool.and_true] at hc0; first | exact hc0 | omega) | simpa using hc0 | (simp at hc0 ⊢; omega) | (apply Classical.byContradiction; intro hn; simp_all [eqNums]; done) | (apply Classical.byContradiction; intro hn; simp [eqNums] at hc0 hn; omega)
    rcases Bool.eq_false_or_eq_true (decide (p.np < 0) || decide (p.np > 4) || decide (c.np < 0) || decide (c.np > 4)) with hc1 | hc1
    · have gc1 : ((p.np < 0 ∨ p.np > 4) ∨ c.np < 0) ∨ c.np > 4 := by first | (simp only [Bool.or_eq_true, Bool.or_eq_false_iff, Bool.and_eq_true, Bool.and_eq_false_iff, Bool.not_eq_true', Bool.not_eq_false', decide_eq_true_eq, decide_eq_false_iff_not, beq_iff_eq, bne_iff_ne, ne_eq, beq_eq_false_iff_ne, bne_eq_false_iff_eq, eqNums, Bool.and_true] at hc1; first | exact hc1 | omega) | simpa using hc1 | (simp at hc1 ⊢; omega) | (apply Classical.byContradiction; intro hn; simp_all [eqNums]; done) | (apply Classical.byContradiction; intro hn; simp [eqNums] at hc1 hn; omega)
      exact (VC.run (fn := Try.f154) (W := [.r [] [], .r [] [.op false, .op false, .op false, .op false, .op false, .op false, .op false, .op false, .sel 2, .sel 1, .op false, .op false, .callr (rO oz0), .op false, .sel 1, .op false, .op false, .callr (rO oz1), .op false, .sel 1], .br false, .r [] [.op false, .op false, .op false, .sel 1, .op false, .op false, .op false, .sel 1, .op false, .op false, .op false, .sel 1], .br true, .r [] []]) (r := bv false) Try.func154 (by kernel_rfl) (.c oz0 <| .c oz1 <| .c hc0 <| .c hc1 <| .n)).weak (WeakL.refl _) (Weak.bool (show ((false) : Bool) = (fitsN p c) from (by (refine fits_b ?_; rw [fits_iff]; simp_all; omega))))
    · have gc1 : ((¬p.np < 0 ∧ ¬p.np > 4) ∧ ¬c.np < 0) ∧ ¬c.np > 4 := by first | (simp only [Bool.or_eq_true, Bool.or_eq_false_iff, Bool.and_eq_true, Bool.and_eq_false_iff, Bool.not_eq_true', Bool.not_eq_false', decide_eq_true_eq, decide_eq_false_iff_not, beq_iff_eq, bne_iff_ne, ne_eq, beq_eq_false_iff_ne, bne_eq_false_iff_eq, eqNums, Bool.and_true] at hc1; first | exact hc1 | omega) | simpa using hc1 | (simp at hc1 ⊢; omega) | (apply Classical.byContradiction; intro hn; simp_all [eqNums]; done) | (apply Classical.byContradiction; intro hn; simp [eqNums] at hc1 hn; omega)
      have oz4 := (IntWalk.i64_in (p.np + c.np) (by omega))
      exact (VC.run (fn := Try.f154) (W := [.r [] [], .r [] [.op false, .op false, .op false, .op false, .op false, .op false, .op false, .op false, .sel 2, .sel 1, .op false, .op false, .callr (rO oz0), .op false, .sel 1, .op false, .op false, .callr (rO oz1), .op false, .sel 1], .br false, .r [] [.op false, .op false, .op false, .sel 1, .op false, .op false, .op false, .sel 1, .op false, .op false, .op false, .sel 1], .br false, .r [] [.op false, .op false, .op false, .op false, .op false, .n (nO oz4), .op false, .sel 2, .op false, .op false, .op false, .op false, .op false, .n (nO oz4), .op false, .op false, .op false, .sel 2]]) (r := bv (p.za == c.za && decide (p.np + c.np ≤ 4) && decide (p.np + c.np < c.nk))) Try.func154 (by kernel_rfl) (.c oz0 <| .c oz1 <| .c hc0 <| .c hc1 <| .c oz4 <| .c oz4 <| .n)).weak (WeakL.refl _) (Weak.bool (show ((p.za == c.za && decide (p.np + c.np ≤ 4) && decide (p.np + c.np < c.nk)) : Bool) = (fitsN p c) from (by (refine fits_b ?_; rw [fits_iff]; simp_all; omega))))

set_option maxRecDepth 100000 in
set_option maxHeartbeats 2000000 in
theorem fcopied_v (n : Nod) (hw : n.w.length ≤ 100000) (hb : n.b.length ≤ 100000) : VC Try.prog 90 ([nod n]) (nod n) := by
  have oz0 := @clone8_v (n.w) (by omega)
  have oz1 := @clone32_v (n.b) (by omega)
  exact VC.run (fn := Try.f90) (W := [.r [] [], .r [] [.callr (rO oz0), .callr (rO oz1)], .r [] []]) Try.func90 (by kernel_rfl) (.c oz0 <| .c oz1 <| .n)

set_option maxRecDepth 100000 in
set_option maxHeartbeats 2000000 in
theorem fpadded_v (p c : Nod) (okp : p.Ok) (okc : c.Ok) (wp : p.w.length ≤ 100000) (bp : p.b.length ≤ 100000) (wc : c.w.length ≤ 100000) (bc : c.b.length ≤ 100000) (h : fitsN p c = true) : VC Try.prog 152 ([nod p, nod c]) (nod (tookN p c)) := by
  have q := fits_iff.1 h
  obtain ⟨q1, q2, q3, q4, q5, q6, q7, q8, q9⟩ := q
  have oz0 := @fits_v (p) (c) okp okc wp bp wc bc
  have oz2 := @fcopied_v (c) wc bc
  exact VC.run (fn := Try.f152) (W := [.r [] [], .r [] [.callr (rO oz0)], .br false, .r [] [.callr (rO oz2)], .r [] [.n (p.np + c.np)], .r [] []]) Try.func152 (by kernel_rfl) (.c oz0 <| .c (show (!fitsN p c) = false by (simp; omega)) <| .c oz2 <| .c (IntWalk.i64_in (p.np + c.np) (by omega)) <| .n)

set_option maxRecDepth 100000 in
set_option maxHeartbeats 2000000 in
theorem rpadded_v (p c : Nod) (okp : p.Ok) (okc : c.Ok) (wp : p.w.length ≤ 100000) (bp : p.b.length ≤ 100000) (wc : c.w.length ≤ 100000) (bc : c.b.length ≤ 100000) (h : fitsN p c = true) : VC Try.prog 155 ([nod p, nod c]) (nod (tookN p c)) := by
  have q := fits_iff.1 h
  obtain ⟨q1, q2, q3, q4, q5, q6, q7, q8, q9⟩ := q
  have oz0 := @rfits_v (p) (c) okp okc wp bp wc bc
  exact VC.run (fn := Try.f155) (W := [.r [] [], .r [] [.callr (rO oz0)], .br false, .r [] [], .r [] [.n (p.np + c.np)], .r [] []]) Try.func155 (by kernel_rfl) (.c oz0 <| .c (show (!fitsN p c) = false by (simp; omega)) <| .c (IntWalk.i64_in (p.np + c.np) (by omega)) <| .n)
end Go.Proofs.Ytgecmooedhnenaa

/- Which nodes of a block are used, by the program: numbers the other way round; what is wanted. No condition. -/
namespace Go.Proofs.Ytgecmooedhnenaa
open Go.RowKit
set_option linter.unusedSimpArgs false
set_option linter.unusedVariables false
set_option linter.unnecessarySimpa false

/-- The first and the last k numbers exchanged. -/
def revS (L : List Int) : Nat → List Int
  | 0 => L
  | k + 1 => ((revS L k).set k ((revS L k).getD (L.length - 1 - k) 0)).set (L.length - 1 - k) ((revS L k).getD k 0)
theorem revS_len (L : List Int) : ∀ k, (revS L k).length = L.length
  | 0 => rfl
  | k + 1 => by rw [revS, List.length_set, List.length_set, revS_len L k]
theorem getD_set (L : List Int) (i j : Nat) (x : Int) (hi : i < L.length) : (L.set i x).getD j 0 = if i = j then x else L.getD j 0 := by
  rw [List.getD_eq_getElem?_getD, List.getElem?_set, List.getD_eq_getElem?_getD]
  by_cases e : i = j
  · subst e; simp [hi]
  · simp [e]
theorem revS_get (L : List Int) : ∀ k, k ≤ L.length / 2 → ∀ i, i < L.length → (revS L k).getD i 0 = if i < k ∨ L.length - k ≤ i then L.getD (L.length - 1 - i) 0 else L.getD i 0
  | 0, _, i, hi => by rw [revS, if_neg (by omega)]
  | k + 1, hk, i, hi => by
    have ih := revS_get L k (by omega)
    rw [revS, getD_set _ _ _ _ (by rw [List.length_set, revS_len]; omega), getD_set _ _ _ _ (by rw [revS_len]; omega)]
    by_cases e1 : L.length - 1 - k = i
    · rw [if_pos e1, ih k (by omega), if_neg (by omega), if_pos (by omega)]; congr 1; omega
    · rw [if_neg e1]
      by_cases e2 : k = i
      · rw [if_pos e2, ih (L.length - 1 - k) (by omega), if_neg (by omega), if_pos (by omega)]; congr 1; omega
      · rw [if_neg e2, ih i hi]
        by_cases e3 : i < k ∨ L.length - k ≤ i
        · rw [if_pos e3, if_pos (by omega)]
        · rw [if_neg e3, if_neg (by omega)]
theorem revS_all (L : List Int) : revS L (L.length / 2) = L.reverse := by
  apply List.ext_getElem?
  intro i
  by_cases hi : i < L.length
  · have h1 := revS_get L (L.length / 2) (Nat.le_refl _) i hi
    have h2 : (revS L (L.length / 2))[i]? = some ((revS L (L.length / 2)).getD i 0) := by
      rw [List.getD_eq_getElem?_getD, List.getElem?_eq_getElem (by rw [revS_len]; exact hi)]; rfl
    rw [h2, h1, List.getElem?_reverse hi]
    have h3 : ∀ j, j < L.length → L[j]? = some (L.getD j 0) := fun j hj => by rw [List.getD_eq_getElem?_getD, List.getElem?_eq_getElem hj]; rfl
    rw [h3 _ (by omega)]
    split
    · rfl
    · congr 2; omega
  · rw [List.getElem?_eq_none (by rw [revS_len]; omega), List.getElem?_eq_none (by rw [List.length_reverse]; omega)]
noncomputable def reverse_l_I (L : List Int) (k : Nat) : VS := stt 28 [(0, .own 100000), (2, i64 k), (3, i64 ((L.length : Int) - 1 - k))] [(100000, .slc 3 1 ((revS L k).map (row1 .i64)))]
noncomputable def reverse_l_Z (L : List Int) : VS := reverse_l_I L (L.length / 2)
set_option maxRecDepth 100000 in
set_option maxHeartbeats 2000000 in
theorem reverse_l_s (L : List Int) (hl : L.length ≤ 1000) (k : Nat) (hk : k < L.length / 2) : VT Try.prog (fnC Try.f85 [1, 0, 0]) (reverse_l_I L k) .normal (reverse_l_I L (k + 1)) := by
  have q0 : (List.map (row1 .i64) L).length = L.length := List.length_map _
  have q := revS_len L k
  have q9 : L.length = (L.length : Nat) := rfl
  have q2 : (List.map (row1 .i64) (revS L k)).length = (revS L k).length := List.length_map _
  have q3 : ((L.length : Int) - 1 - k).toNat = L.length - 1 - k := by omega
  have oz1 := (show 0 ≤ (↑L.length : Int) - 1 - (↑k : Int) by omega)
  have oz3 := (map_at (row1 IntKind.i64) (0) (l := revS L k) (i := ((↑L.length : Int) - 1 - (↑k : Int)).toNat) (by omega))
  have oz4 := (show 0 ≤ (↑k : Int) by omega)
  have oz5 := (show (↑k : Int) < (↑(List.map (row1 IntKind.i64) (revS L k)).length : Int) by omega)
  have oz6 := (map_at (row1 IntKind.i64) (0) (l := revS L k) (i := k) (by omega))
  have oz14 := (IntWalk.i64_in ((↑L.length : Int) - 1 - (↑k : Int) - 1) (by omega))
  have oz16 := (Weak.int (k := .i64) (show (((↑L.length : Int) - 1 - (↑k : Int) - 1) : Int) = ((↑L.length : Int) - 1 - (↑(k + 1) : Int)) from (by omega)))
  exact VT.run (W := [.r [] [], .br true, .r [] [.row (sO oz3), .row (sO oz6), .nat 0, .nat 0], .r [] [.n ((↑k : Int) + 1), .n (nO oz14)]]) (G := [.any (rg [(7, 21)]), .weak 2 (i64 (↑(k + 1) : Int)), .weak 3 (wO oz16), .blk 100000 (Blk.slc 3 1 (List.map (row1 IntKind.i64) (revS L (k + 1)))), .sort]) (by kernel_rfl) (.c (decide_eq_true (p := ((↑k : Int) < (↑L.length : Int) - 1 - (↑k : Int))) (by omega)) <| .c oz1 <| .c (show (↑L.length : Int) - 1 - (↑k : Int) < (↑(List.map (row1 IntKind.i64) (revS L k)).length : Int) by omega) <| .c oz3 <| .c oz4 <| .c oz5 <| .c oz6 <| .c oz4 <| .c oz5 <| .c (show (↑k : Int).toNat < (List.map (row1 IntKind.i64) (revS L k)).length by omega) <| .c oz1 <| .c (show (↑L.length : Int) - 1 - (↑k : Int) < (↑((List.map (row1 IntKind.i64) (revS L k)).set (↑k : Int).toNat [i64 ((revS L k).getD ((↑L.length : Int) - 1 - (↑k : Int)).toNat 0)]).length : Int) by (simp; omega)) <| .c (show ((↑L.length : Int) - 1 - (↑k : Int)).toNat < ((List.map (row1 IntKind.i64) (revS L k)).set (↑k : Int).toNat [i64 ((revS L k).getD ((↑L.length : Int) - 1 - (↑k : Int)).toNat 0)]).length by (simp; omega)) <| .c (IntWalk.i64_in ((↑k : Int) + 1) (by omega)) <| .c oz14 <| .c (Weak.int (k := .i64) (show (((↑k : Int) + 1) : Int) = ((↑(k + 1) : Int)) from (by omega))) <| .c oz16 <| .c (show BlkW (Blk.slc 3 1 (((List.map (row1 IntKind.i64) (revS L k)).set (↑k : Int).toNat [i64 ((revS L k).getD ((↑L.length : Int) - 1 - (↑k : Int)).toNat 0)]).set ((↑L.length : Int) - 1 - (↑k : Int)).toNat [i64 ((revS L k).getD k 0)])) (Blk.slc 3 1 (List.map (row1 IntKind.i64) (revS L (k + 1)))) from (BlkW.rows (rows_to (row1 IntKind.i64) (r := ((List.map (row1 IntKind.i64) (revS L k)).set (↑k : Int).toNat [i64 ((revS L k).getD ((↑L.length : Int) - 1 - (↑k : Int)).toNat 0)]).set ((↑L.length : Int) - 1 - (↑k : Int)).toNat [i64 ((revS L k).getD k 0)]) (l := ((revS L k).set (↑k : Int).toNat ((revS L k).getD ((↑L.length : Int) - 1 - (↑k : Int)).toNat 0)).set ((↑L.length : Int) - 1 - (↑k : Int)).toNat ((revS L k).getD k 0)) (m := revS L (k + 1)) (by first | (simp only [List.map_append, List.map_cons, List.map_nil, List.map_set, List.map_replicate, List.map_take, List.map_drop]; done) | rfl | (simp only [List.map_append, List.map_cons, List.map_nil, List.map_set, List.map_replicate, List.map_take, List.map_drop]; rfl)) (show (((revS L k).set (↑k : Int).toNat ((revS L k).getD ((↑L.length : Int) - 1 - (↑k : Int)).toNat 0)).set ((↑L.length : Int) - 1 - (↑k : Int)).toNat ((revS L k).getD k 0)) = (revS L (k + 1)) from (by (rw [revS, q3, Int.toNat_natCast])))))) <| .n)
set_option maxRecDepth 100000 in
set_option maxHeartbeats 2000000 in
theorem reverse_l_e (L : List Int) (hl : L.length ≤ 1000) : VT Try.prog (fnC Try.f85 [1, 0, 0]) (reverse_l_I L (L.length / 2)) (.exit 0) (reverse_l_Z L) := by
  have q := revS_len L (L.length / 2)
  have q2 : (List.map (row1 .i64) (revS L (L.length / 2))).length = (revS L (L.length / 2)).length := List.length_map _
  exact VT.run (W := [.r [] [], .br false]) (G := [.any [7, 8, 9], .sort]) (by kernel_rfl) (.c (decide_eq_false (p := ((↑(L.length / 2) : Int) < (↑L.length : Int) - 1 - (↑(L.length / 2) : Int))) (by omega)) <| .n)
theorem reverse_l (L : List Int) (hl : L.length ≤ 1000) : VT Try.prog (fnC Try.f85 [1, 0]) (reverse_l_I L 0) (.exit 0) (reverse_l_Z L) :=
  VT.loop (fun k => reverse_l_I L k) (L.length / 2) (fun k hk => reverse_l_s L hl k hk) (reverse_l_e L hl) (by intro h; cases h)

set_option maxRecDepth 100000 in
set_option maxHeartbeats 2000000 in
theorem reverse_v (L : List Int) (hl : L.length ≤ 1000) : VM Try.prog 85 ([.own 100000]) ([(100000, .slc 3 1 (L.map (row1 .i64)))]) (.tup []) ([(100000, .slc 3 1 (L.reverse.map (row1 .i64)))]) := by
  have q0 : (List.map (row1 .i64) L).length = L.length := List.length_map _
  have oz0 := (IntWalk.i64_in ((↑(List.map (row1 IntKind.i64) L).length : Int) - 1) (by omega))
  have oz2 := (Weak.int (k := .i64) (show (((↑(List.map (row1 IntKind.i64) L).length : Int) - 1) : Int) = ((↑L.length : Int) - 1 - (↑0 : Int)) from (by omega)))
  have oz4 := @reverse_l (L) hl
  exact VM.run (fn := Try.f85) (W := [.r [] [.n (nO oz0)], .code [.any [4, 5, 6], .weak 2 (i64 (↑0 : Int)), .weak 3 (wO oz2), .blk 100000 (Blk.slc 3 1 (List.map (row1 IntKind.i64) (revS L 0))), .sort] (Exit.exit 0) (zO oz4)]) (G := [.blk 100000 (Blk.slc 3 1 (List.map (row1 IntKind.i64) L.reverse)), .sort]) Try.func85 (by kernel_rfl) (.c oz0 <| .c (Weak.int (k := .i64) (show ((0) : Int) = ((↑0 : Int)) from (by omega))) <| .c oz2 <| .c (show BlkW (Blk.slc 3 1 (List.map (row1 IntKind.i64) L)) (Blk.slc 3 1 (List.map (row1 IntKind.i64) (revS L 0))) from (BlkW.rows (rows_to (row1 IntKind.i64) (r := List.map (row1 IntKind.i64) L) (l := L) (m := revS L 0) rfl (show (L) = (revS L 0) from (by rfl))))) <| .c oz4 <| .c (show BlkW (Blk.slc 3 1 (List.map (row1 IntKind.i64) (revS L (L.length / 2)))) (Blk.slc 3 1 (List.map (row1 IntKind.i64) L.reverse)) from (BlkW.rows (rows_to (row1 IntKind.i64) (r := List.map (row1 IntKind.i64) (revS L (L.length / 2))) (l := revS L (L.length / 2)) (m := L.reverse) rfl (show (revS L (L.length / 2)) = (L.reverse) from (by (rw [← revS_all])))))) <| .n)
abbrev rowB (b : Bool) : List AV := [bv b]
/-- So many values are wanted besides. -/
def setW (w : List Bool) (L : List Int) : Nat → List Bool
  | 0 => w
  | k + 1 => (setW w L k).set (L.getD k 0).toNat true
theorem setW_len (w : List Bool) (L : List Int) : ∀ k, (setW w L k).length = w.length
  | 0 => rfl
  | k + 1 => by rw [setW, List.length_set, setW_len w L k]
theorem getD_setB (L : List Bool) (i j : Nat) (x : Bool) (hi : i < L.length) : (L.set i x).getD j false = if i = j then x else L.getD j false := by
  rw [List.getD_eq_getElem?_getD, List.getElem?_set, List.getD_eq_getElem?_getD]
  by_cases e : i = j
  · subst e; simp [hi]
  · simp [e]
def wL (l : List Nod) (k : Nat) : List Bool := (List.range (l.length + 1)).map fun v : Nat => wt l k (v : Int)
theorem wL_len (l : List Nod) (k : Nat) : (wL l k).length = l.length + 1 := by unfold wL; rw [List.length_map, List.length_range]
theorem wL_at (l : List Nod) (k : Nat) {v : Nat} (hv : v < l.length + 1) : (wL l k).getD v false = wt l k (v : Int) := by
  unfold wL; rw [List.getD_eq_getElem?_getD, List.getElem?_map, List.getElem?_range hv]; rfl
theorem bools_ext {a b : List Bool} (h : a.length = b.length) (g : ∀ v, v < b.length → a.getD v false = b.getD v false) : a = b := by
  apply List.ext_getElem?
  intro i
  by_cases hi : i < b.length
  · have := g i hi
    rw [List.getD_eq_getElem?_getD, List.getD_eq_getElem?_getD, List.getElem?_eq_getElem hi, List.getElem?_eq_getElem (by omega)] at this
    rw [List.getElem?_eq_getElem hi, List.getElem?_eq_getElem (by omega)]; simpa using this
  · rw [List.getElem?_eq_none (by omega), List.getElem?_eq_none (by omega)]
theorem wL_no {l : List Nod} {k : Nat} (h : wt l k ((l.length : Int) - k) = false) : wL l (k + 1) = wL l k := by
  unfold wL; congr 1; funext v; rw [wt, h]; simp
theorem setW_at {w : List Bool} {L : List Int} {k : Nat} (hk : k ≤ L.length) (h : ∀ j, j < L.length → 0 ≤ L.getD j 0 ∧ (L.getD j 0).toNat < w.length) (v : Nat) : (setW w L k).getD v false = (w.getD v false || (List.range k).any fun j => decide (L.getD j 0 = (v : Int))) := by
  induction k with
  | zero => simp [setW]
  | succ k ih =>
    rw [setW, getD_setB _ _ _ _ (by rw [setW_len]; exact (h k (by omega)).2), ih (by omega), List.range_succ, List.any_append]
    simp only [List.any_cons, List.any_nil, Bool.or_false]
    have := h k (by omega)
    by_cases e : (L.getD k 0).toNat = v
    · have e2 : L.getD k 0 = (v : Int) := by omega
      rw [if_pos e, e2]; simp
    · have e2 : ¬ L.getD k 0 = (v : Int) := by omega
      rw [if_neg e]; simp only [decide_eq_false e2, Bool.or_false]
theorem takes_any (n : Nod) (v : Int) : ((List.range (takesL n).length).any fun j => decide ((takesL n).getD j 0 = v)) = takesB n v := by
  unfold takesL takesB
  by_cases h : n.kd = 6
  · rw [if_pos h]; simp [h, List.range_succ]
  · rw [if_neg h]; simp [h, List.range_succ]
theorem wL_yes {l : List Nod} {k : Nat} (hk : k < l.length) (ho : orderedB l = true) (h : wt l k ((l.length : Int) - k) = true) : setW (wL l k) (takesL (l.getD (l.length - 1 - k) default)) (takesL (l.getD (l.length - 1 - k) default)).length = wL l (k + 1) := by
  have ht := (takes_in _ _).2 ((ordered_iff l).1 ho (l.length - 1 - k) (by omega))
  refine bools_ext (by rw [setW_len, wL_len, wL_len]) fun v hv => ?_
  rw [wL_len] at hv
  rw [setW_at (Nat.le_refl _) (fun j hj => by have := ht j hj; rw [wL_len]; omega), takes_any, wL_at l k hv, wL_at l (k + 1) hv, wt, h]; simp
theorem wL_0 (l : List Nod) : ((List.replicate (l.length + 1) false).set l.length true) = wL l 0 := by
  refine bools_ext (by rw [List.length_set, List.length_replicate, wL_len]) fun v hv => ?_
  rw [wL_len] at hv
  rw [getD_setB _ _ _ _ (by simp), wL_at l 0 hv, wt]
  by_cases e : l.length = v
  · subst e; simp
  · rw [if_neg e, List.getD_eq_getElem?_getD, List.getElem?_replicate, if_pos hv]
    simp; omega
/-- The places of the used nodes among the last k, from the last one on. -/
def revK (l : List Nod) : Nat → List Int
  | 0 => []
  | k + 1 => if usedB l (l.length - 1 - k) = true then revK l k ++ [((l.length - 1 - k : Nat) : Int)] else revK l k
theorem revK_len (l : List Nod) : ∀ k, (revK l k).length ≤ k
  | 0 => Nat.le_refl _
  | k + 1 => by have := revK_len l k; rw [revK]; split <;> simp <;> omega
theorem revK_eq (l : List Nod) : ∀ k, k ≤ l.length → (revK l k).reverse = usI (((List.range l.length).drop (l.length - k)).filter (usedB l))
  | 0, _ => by rw [Nat.sub_zero, List.drop_of_length_le (by simp)]; rfl
  | k + 1, hk => by
    have hd : (List.range l.length).drop (l.length - (k + 1)) = (l.length - 1 - k) :: (List.range l.length).drop (l.length - k) := by
      rw [List.drop_eq_getElem_cons (by simp; omega), List.getElem_range, show l.length - (k + 1) + 1 = l.length - k by omega, show l.length - (k + 1) = l.length - 1 - k by omega]
    rw [hd, revK, List.filter_cons]
    split
    · rw [List.reverse_append, revK_eq l k (by omega)]; rfl
    · exact revK_eq l k (by omega)
theorem revK_all (l : List Nod) : (revK l l.length).reverse = usI (usedL l) := by
  rw [revK_eq l l.length (Nat.le_refl _)]; simp [usedL]
theorem revK_yes {l : List Nod} {k : Nat} (h : usedB l (l.length - 1 - k) = true) : revK l (k + 1) = revK l k ++ [((l.length - 1 - k : Nat) : Int)] := by rw [revK, if_pos h]
theorem revK_no {l : List Nod} {k : Nat} (h : usedB l (l.length - 1 - k) = false) : revK l (k + 1) = revK l k := by rw [revK, if_neg (by simp [h])]
theorem wt_used {l : List Nod} {k : Nat} (hk : k < l.length) : wt l k ((l.length : Int) - k) = usedB l (l.length - 1 - k) := by
  unfold usedB
  rw [show l.length - 1 - (l.length - 1 - k) = k by omega, show (((l.length - 1 - k : Nat) : Int)) + 1 = (l.length : Int) - k by omega]
noncomputable def pused_i_I (l : List Nod) (u : Int) (O L : List Int) (w : List Bool) (k : Nat) : VS := stt 58 [(0, .sl 19 (l.map nodC)), (3, .own 901), (4, .own 900), (5, i64 u), (45, ints .i64 L), (46, i64 L.length), (47, i64 k)] [(900, .slc 3 1 (O.map (row1 .i64))), (901, .slc 4 1 ((setW w L k).map rowB))]
noncomputable def pused_i_Z (l : List Nod) (u : Int) (O L : List Int) (w : List Bool) : VS := pused_i_I l u O L w (L.length)
set_option maxRecDepth 100000 in
set_option maxHeartbeats 2000000 in
theorem pused_i_s (l : List Nod) (u : Int) (O L : List Int) (w : List Bool) (hl : L.length ≤ 2) (ho : O.length ≤ 1000) (hw : ∀ k, k < L.length → 0 ≤ L.getD k 0 ∧ L.getD k 0 < w.length) (k : Nat) (hk : k < L.length) : VT Try.prog (fnC Try.f23 [1, 0, 1, 1, 1, 1, 1, 0, 1, 0, 0, 1, 0, 0, 1, 1, 1, 0, 0]) (pused_i_I l u O L w k) .normal (pused_i_I l u O L w (k + 1)) := by
  have q := hw k hk
  have q1 := setW_len w L k
  have q2 : (List.map rowB (setW w L k)).length = (setW w L k).length := List.length_map _
  exact VT.run (W := [.r [] [], .br true, .r [] [.row [i64 (L.getD k 0)]], .r [] [.nat 0], .r [] [.n ((↑k : Int) + 1)]]) (G := [.any (rg [(7, 1), (48, 7)]), .weak 47 (i64 (↑(k + 1) : Int)), .blk 901 (Blk.slc 4 1 (List.map rowB (setW w L (k + 1)))), .sort]) (by kernel_rfl) (.c (decide_eq_true (p := ((↑k : Int) < (↑L.length : Int))) (by omega)) <| .c (show 0 ≤ (↑k : Int) by omega) <| .c (map_at (row1 IntKind.i64) (0) (l := L) (i := k) hk) <| .c (show 0 ≤ L.getD k 0 by omega) <| .c (show L.getD k 0 < (↑(List.map rowB (setW w L k)).length : Int) by omega) <| .c (show (L.getD k 0).toNat < (List.map rowB (setW w L k)).length by omega) <| .c (IntWalk.i64_in ((↑k : Int) + 1) (by omega)) <| .c (Weak.int (k := .i64) (show (((↑k : Int) + 1) : Int) = ((↑(k + 1) : Int)) from (by omega))) <| .c (show BlkW (Blk.slc 4 1 ((List.map rowB (setW w L k)).set (L.getD k 0).toNat [bv true])) (Blk.slc 4 1 (List.map rowB (setW w L (k + 1)))) from (BlkW.rows (rows_to (rowB) (r := (List.map rowB (setW w L k)).set (L.getD k 0).toNat [bv true]) (l := (setW w L k).set (L.getD k 0).toNat true) (m := setW w L (k + 1)) (by first | (simp only [List.map_append, List.map_cons, List.map_nil, List.map_set, List.map_replicate, List.map_take, List.map_drop]; done) | rfl | (simp only [List.map_append, List.map_cons, List.map_nil, List.map_set, List.map_replicate, List.map_take, List.map_drop]; rfl) | (simp only [List.map_append, List.map_cons, List.map_nil, List.map_set, List.map_replicate, List.map_take, List.map_drop, rowB, ints]; done)) (show ((setW w L k).set (L.getD k 0).toNat true) = (setW w L (k + 1)) from (by rfl))))) <| .n)
set_option maxRecDepth 100000 in
set_option maxHeartbeats 2000000 in
theorem pused_i_e (l : List Nod) (u : Int) (O L : List Int) (w : List Bool) (hl : L.length ≤ 2) (ho : O.length ≤ 1000) (hw : ∀ k, k < L.length → 0 ≤ L.getD k 0 ∧ L.getD k 0 < w.length) : VT Try.prog (fnC Try.f23 [1, 0, 1, 1, 1, 1, 1, 0, 1, 0, 0, 1, 0, 0, 1, 1, 1, 0, 0]) (pused_i_I l u O L w (L.length)) (.exit 2) (pused_i_Z l u O L w) := by
  exact VT.run (W := [.r [] [], .br false]) (G := [.any [48], .sort]) (by kernel_rfl) (.c (decide_eq_false (p := ((↑L.length : Int) < (↑L.length : Int))) (by omega)) <| .n)
theorem pused_i (l : List Nod) (u : Int) (O L : List Int) (w : List Bool) (hl : L.length ≤ 2) (ho : O.length ≤ 1000) (hw : ∀ k, k < L.length → 0 ≤ L.getD k 0 ∧ L.getD k 0 < w.length) : VT Try.prog (fnC Try.f23 [1, 0, 1, 1, 1, 1, 1, 0, 1, 0, 0, 1, 0, 0, 1, 1, 1, 0]) (pused_i_I l u O L w 0) (.exit 2) (pused_i_Z l u O L w) :=
  VT.loop (fun k => pused_i_I l u O L w k) (L.length) (fun k hk => pused_i_s l u O L w hl ho hw k hk) (pused_i_e l u O L w hl ho hw) (by intro h; cases h)

noncomputable def pused_o_I (l : List Nod) (k : Nat) : VS := stt 58 [(0, .sl 19 (l.map nodC)), (3, .own 901), (4, .own 900), (5, i64 ((l.length : Int) - 1 - k))] [(900, .slc 3 1 ((revK l k).map (row1 .i64))), (901, .slc 4 1 ((wL l k).map rowB))]
noncomputable def pused_o_Z (l : List Nod) : VS := pused_o_I l (l.length)
set_option maxRecDepth 100000 in
set_option maxHeartbeats 2000000 in
theorem pused_o_s (l : List Nod) (hl : l.length ≤ 1000) (ho : orderedB l = true) (k : Nat) (hk : k < l.length) : VT Try.prog (fnC Try.f23 [1, 0, 1, 1, 1, 1, 1, 0, 1, 0, 0]) (pused_o_I l k) .normal (pused_o_I l (k + 1)) := by
  have q := revK_len l k
  have q1 := wL_len l k
  have q2 : (List.map (row1 .i64) (revK l k)).length = (revK l k).length := List.length_map _
  have q3 : (List.map rowB (wL l k)).length = (wL l k).length := List.length_map _
  have q4 := wt_used hk
  have q5 := @revK_yes l k
  have q6 := @revK_no l k
  have q7 := @wL_yes l k hk ho
  have q8 := @wL_no l k
  have q9 := takes_len (l.getD (l.length - 1 - k) default)
  have qa := (takes_in _ _).2 ((ordered_iff l).1 ho (l.length - 1 - k) (by omega))
  have qb : ((l.length : Int) - 1 - k).toNat = l.length - 1 - k := by omega
  have qc : ((l.length : Int) - 1 - k + 1).toNat = l.length - k := by omega
  have qd := wL_at l k (v := l.length - k) (by omega)
  have qe : (((l.length - k : Nat) : Int)) = (l.length : Int) - k := by omega
  have qf : (!(wL l k).getD ((l.length : Int) - 1 - k + 1).toNat default) = !usedB l (l.length - 1 - k) := by
    rw [qc]; show (!(wL l k).getD (l.length - k) false) = _; rw [qd, qe, q4]
  have qg : (!(wL l k).getD ((l.length : Int) - 1 - k + 1).toNat default) = false → usedB l (l.length - 1 - k) = true := fun h => by rw [qf] at h; simpa using h
  have qn : (!(wL l k).getD ((l.length : Int) - 1 - k + 1).toNat default) = true → usedB l (l.length - 1 - k) = false := fun h => by rw [qf] at h; simpa using h
  have qh : ((l.length - 1 - k : Nat) : Int) = (l.length : Int) - 1 - k := by omega
  have oz0 := (decide_eq_true (p := ((↑l.length : Int) - 1 - (↑k : Int) ≥ 0)) (by omega))
  have oz1 := (IntWalk.i64_in ((↑l.length : Int) - 1 - (↑k : Int) + 1) (by omega))
  have oz2 := (show 0 ≤ (↑l.length : Int) - 1 - (↑k : Int) + 1 by omega)
  have oz3 := (show (↑l.length : Int) - 1 - (↑k : Int) + 1 < (↑(List.map rowB (wL l k)).length : Int) by omega)
  have oz4 := (map_at (rowB) (default) (l := wL l k) (i := ((↑l.length : Int) - 1 - (↑k : Int) + 1).toNat) (by omega))
  rcases Bool.eq_false_or_eq_true (!(wL l k).getD ((↑l.length : Int) - 1 - (↑k : Int) + 1).toNat default) with hc0 | hc0
  · have gc0 : (wL l k).getD ((↑l.length : Int) - 1 - (↑k : Int) + 1).toNat default = false := by first | exact hc0 | exact of_decide_eq_true hc0 | exact of_decide_eq_false hc0 | simpa [eqNums] using hc0 | (simp [eqNums] at hc0 ⊢; first | done | assumption | omega)
    have oz6 := (IntWalk.i64_in ((↑l.length : Int) - 1 - (↑k : Int) - 1) (by omega))
    have oz7 := (Weak.int (k := .i64) (show (((↑l.length : Int) - 1 - (↑k : Int) - 1) : Int) = ((↑l.length : Int) - 1 - (↑(k + 1) : Int)) from (by omega)))
    exact VT.run (W := [.r [] [], .br true, .r [] [.n (nO oz1), .row (sO oz4)], .br true, .r [] [.n (nO oz6)]]) (G := [.any (rg [(27, 10)]), .weak 5 (wO oz7), .blk 900 (Blk.slc 3 1 (List.map (row1 IntKind.i64) (revK l (k + 1)))), .blk 901 (Blk.slc 4 1 (List.map rowB (wL l (k + 1)))), .sort]) (by kernel_rfl) (.c oz0 <| .c oz1 <| .c oz2 <| .c oz3 <| .c oz4 <| .c hc0 <| .c oz6 <| .c oz7 <| .c (show BlkW (Blk.slc 3 1 (List.map (row1 IntKind.i64) (revK l k))) (Blk.slc 3 1 (List.map (row1 IntKind.i64) (revK l (k + 1)))) from (BlkW.rows (rows_to (row1 IntKind.i64) (r := List.map (row1 IntKind.i64) (revK l k)) (l := revK l k) (m := revK l (k + 1)) rfl (show (revK l k) = (revK l (k + 1)) from (by (rw [q6 (qn (by assumption))])))))) <| .c (show BlkW (Blk.slc 4 1 (List.map rowB (wL l k))) (Blk.slc 4 1 (List.map rowB (wL l (k + 1)))) from (BlkW.rows (rows_to (rowB) (r := List.map rowB (wL l k)) (l := wL l k) (m := wL l (k + 1)) rfl (show (wL l k) = (wL l (k + 1)) from (by (rw [q8 (by rw [q4]; exact qn (by assumption))])))))) <| .n)
  · have gc0 : (wL l k).getD ((↑l.length : Int) - 1 - (↑k : Int) + 1).toNat default = true := by first | exact hc0 | exact of_decide_eq_true hc0 | exact of_decide_eq_false hc0 | simpa [eqNums] using hc0 | (simp [eqNums] at hc0 ⊢; first | done | assumption | omega)
    have oz9 := (map_at (nodC) (default) (l := l) (i := ((↑l.length : Int) - 1 - (↑k : Int)).toNat) (by omega))
    have oz10 := @pvalues_v (l.getD ((↑l.length : Int) - 1 - (↑k : Int)).toNat default)
    have oz11 := (Weak.int (k := .i64) (show (((↑(List.map (row1 IntKind.i64) (takesL (l.getD ((↑l.length : Int) - 1 - (↑k : Int)).toNat default))).length : Int)) : Int) = ((↑(takesL (l.getD ((↑l.length : Int) - 1 - (↑k : Int)).toNat default)).length : Int)) from (by (simp; done))))
    have oz15 := @pused_i (l) ((↑l.length : Int) - 1 - (↑k : Int)) (revK l k ++ [(↑l.length : Int) - 1 - (↑k : Int)]) (takesL (l.getD ((↑l.length : Int) - 1 - (↑k : Int)).toNat default)) (List.map (fun (v : Nat) => wt l k (↑v : Int)) (List.range (l.length + 1))) (by (simp at *; omega)) (by (simp; omega)) (by (rw [qb]; intro j hj; have := qa j hj; simp only [List.length_map, List.length_range]; omega))
    have oz16 := (IntWalk.i64_in ((↑l.length : Int) - 1 - (↑k : Int) - 1) (by omega))
    have oz17 := (Weak.int (k := .i64) (show (((↑l.length : Int) - 1 - (↑k : Int) - 1) : Int) = ((↑l.length : Int) - 1 - (↑(k + 1) : Int)) from (by omega)))
    exact VT.run (W := [.r [] [], .br true, .r [] [.n (nO oz1), .row (sO oz4)], .br false, .r [] [], .r [] [.row (sO oz9), .callr (rO oz10)], .code [.any (rg [(27, 2), (31, 14)]), .drop [39], .ren 40 900, .weak 46 (wO oz11), .weak 47 (i64 (↑0 : Int)), .blk 900 (Blk.slc 3 1 (List.map (row1 IntKind.i64) (revK l k ++ [(↑l.length : Int) - 1 - (↑k : Int)]))), .blk 901 (Blk.slc 4 1 (List.map rowB (setW (List.map (fun (v : Nat) => wt l k (↑v : Int)) (List.range (l.length + 1))) (takesL (l.getD ((↑l.length : Int) - 1 - (↑k : Int)).toNat default)) 0))), .sort] (Exit.exit 2) (zO oz15), .r [] [.n (nO oz16)]]) (G := [.any [29, 30, 45, 46, 47], .weak 5 (wO oz17), .blk 900 (Blk.slc 3 1 (List.map (row1 IntKind.i64) (revK l (k + 1)))), .blk 901 (Blk.slc 4 1 (List.map rowB (wL l (k + 1)))), .sort]) (by kernel_rfl) (.c oz0 <| .c oz1 <| .c oz2 <| .c oz3 <| .c oz4 <| .c hc0 <| .c (show ((List.map (row1 IntKind.i64) (revK l k)).length + 1) * 8 ≤ 140737488355328 by omega) <| .c (show (List.map (row1 IntKind.i64) (revK l k)).length + 1 ≤ 9223372036854775807 by omega) <| .c (show 0 ≤ (↑l.length : Int) - 1 - (↑k : Int) by omega) <| .c oz9 <| .c oz10 <| .c oz11 <| .c (Weak.int (k := .i64) (show ((0) : Int) = ((↑0 : Int)) from (by omega))) <| .c (show BlkW (Blk.slc 3 1 (List.map (row1 IntKind.i64) (revK l k) ++ [[i64 ((↑l.length : Int) - 1 - (↑k : Int))]])) (Blk.slc 3 1 (List.map (row1 IntKind.i64) (revK l k ++ [(↑l.length : Int) - 1 - (↑k : Int)]))) from (BlkW.rows (rows_to (row1 IntKind.i64) (r := List.map (row1 IntKind.i64) (revK l k) ++ [[i64 ((↑l.length : Int) - 1 - (↑k : Int))]]) (l := revK l k ++ [(↑l.length : Int) - 1 - (↑k : Int)]) (m := revK l k ++ [(↑l.length : Int) - 1 - (↑k : Int)]) (by first | (simp only [List.map_append, List.map_cons, List.map_nil, List.map_set, List.map_replicate, List.map_take, List.map_drop]; done) | rfl | (simp only [List.map_append, List.map_cons, List.map_nil, List.map_set, List.map_replicate, List.map_take, List.map_drop]; rfl)) rfl))) <| .c (show BlkW (Blk.slc 4 1 (List.map rowB (wL l k))) (Blk.slc 4 1 (List.map rowB (setW (List.map (fun (v : Nat) => wt l k (↑v : Int)) (List.range (l.length + 1))) (takesL (l.getD ((↑l.length : Int) - 1 - (↑k : Int)).toNat default)) 0))) from (BlkW.rows (rows_to (rowB) (r := List.map rowB (wL l k)) (l := wL l k) (m := setW (List.map (fun (v : Nat) => wt l k (↑v : Int)) (List.range (l.length + 1))) (takesL (l.getD ((↑l.length : Int) - 1 - (↑k : Int)).toNat default)) 0) rfl (show (wL l k) = (setW (List.map (fun (v : Nat) => wt l k (↑v : Int)) (List.range (l.length + 1))) (takesL (l.getD ((↑l.length : Int) - 1 - (↑k : Int)).toNat default)) 0) from (by rfl))))) <| .c oz15 <| .c oz16 <| .c oz17 <| .c (show BlkW (Blk.slc 3 1 (List.map (row1 IntKind.i64) (revK l k ++ [(↑l.length : Int) - 1 - (↑k : Int)]))) (Blk.slc 3 1 (List.map (row1 IntKind.i64) (revK l (k + 1)))) from (BlkW.rows (rows_to (row1 IntKind.i64) (r := List.map (row1 IntKind.i64) (revK l k ++ [(↑l.length : Int) - 1 - (↑k : Int)])) (l := revK l k ++ [(↑l.length : Int) - 1 - (↑k : Int)]) (m := revK l (k + 1)) rfl (show (revK l k ++ [(↑l.length : Int) - 1 - (↑k : Int)]) = (revK l (k + 1)) from (by (rw [q5 (qg (by assumption)), qh])))))) <| .c (show BlkW (Blk.slc 4 1 (List.map rowB (setW (List.map (fun (v : Nat) => wt l k (↑v : Int)) (List.range (l.length + 1))) (takesL (l.getD ((↑l.length : Int) - 1 - (↑k : Int)).toNat default)) (takesL (l.getD ((↑l.length : Int) - 1 - (↑k : Int)).toNat default)).length))) (Blk.slc 4 1 (List.map rowB (wL l (k + 1)))) from (BlkW.rows (rows_to (rowB) (r := List.map rowB (setW (List.map (fun (v : Nat) => wt l k (↑v : Int)) (List.range (l.length + 1))) (takesL (l.getD ((↑l.length : Int) - 1 - (↑k : Int)).toNat default)) (takesL (l.getD ((↑l.length : Int) - 1 - (↑k : Int)).toNat default)).length)) (l := setW (List.map (fun (v : Nat) => wt l k (↑v : Int)) (List.range (l.length + 1))) (takesL (l.getD ((↑l.length : Int) - 1 - (↑k : Int)).toNat default)) (takesL (l.getD ((↑l.length : Int) - 1 - (↑k : Int)).toNat default)).length) (m := wL l (k + 1)) rfl (show (setW (List.map (fun (v : Nat) => wt l k (↑v : Int)) (List.range (l.length + 1))) (takesL (l.getD ((↑l.length : Int) - 1 - (↑k : Int)).toNat default)) (takesL (l.getD ((↑l.length : Int) - 1 - (↑k : Int)).toNat default)).length) = (wL l (k + 1)) from (by (rw [qb]; exact q7 (by rw [q4]; exact qg (by assumption)))))))) <| .n)
set_option maxRecDepth 100000 in
set_option maxHeartbeats 2000000 in
theorem pused_o_e (l : List Nod) (hl : l.length ≤ 1000) (ho : orderedB l = true) : VT Try.prog (fnC Try.f23 [1, 0, 1, 1, 1, 1, 1, 0, 1, 0, 0]) (pused_o_I l (l.length)) (.exit 0) (pused_o_Z l) := by
  exact VT.run (W := [.r [] [], .br false]) (G := [.any [27, 28], .sort]) (by kernel_rfl) (.c (decide_eq_false (p := ((↑l.length : Int) - 1 - (↑l.length : Int) ≥ 0)) (by omega)) <| .n)
theorem pused_o (l : List Nod) (hl : l.length ≤ 1000) (ho : orderedB l = true) : VT Try.prog (fnC Try.f23 [1, 0, 1, 1, 1, 1, 1, 0, 1, 0]) (pused_o_I l 0) (.exit 0) (pused_o_Z l) :=
  VT.loop (fun k => pused_o_I l k) (l.length) (fun k hk => pused_o_s l hl ho k hk) (pused_o_e l hl ho) (by intro h; cases h)

set_option maxRecDepth 100000 in
set_option maxHeartbeats 2000000 in
theorem pused_y (l : List Nod) (hl : l.length ≤ 1000) (h0 : l.length ≠ 0) (ho : orderedB l = true) : VC Try.prog 23 ([.sl 19 (l.map nodC)]) (ints .i64 (usI (usedL l))) := by
  have q0 : (List.map nodC l).length = l.length := List.length_map _
  have q1 := revK_len l l.length
  have q2 := wL_len l 0
  have oz0 := (show ((↑(List.map nodC l).length : Int) == 0) = false by (refine decide_eq_false ?_; omega))
  have oz2 := @pord_v (l) hl
  have oz6 := (IntWalk.i64_in ((↑(List.map nodC l).length : Int) + 1) (by omega))
  have oz7 := (show (↑(List.map nodC l).length : Int) + 1 = (↑(wL l 0).length : Int) by omega)
  have oz15 := (IntWalk.i64_in ((↑(List.map nodC l).length : Int) - 1) (by omega))
  have oz16 := (Weak.int (k := .i64) (show (((↑(List.map nodC l).length : Int) - 1) : Int) = ((↑l.length : Int) - 1 - (↑0 : Int)) from (by omega)))
  have oz18 := @pused_o (l) hl ho
  have oz19 := @reverse_v (revK l l.length) (by omega)
  exact (VC.run (fn := Try.f23) (W := [.r [] [], .sc, .r [] [.br true, .br true, .callr (rO oz2), .br true, .br false], .br false, .r [] [.n (nO oz6), .nats (wL l 0).length (wL l 0).length], .r [] [.nat 0], .r [] [], .r [] [.n (nO oz15)], .code [.any (rg [(2, 1), (8, 19)]), .ren 19 901, .weak 5 (wO oz16), .nils 4 900 3 1, .blk 901 (Blk.slc 4 1 (List.map rowB (wL l 0))), .sort] (Exit.exit 0) (zO oz18), .r [] [.callm [(900, 100000)] [] (rM oz19) (oM oz19)], .r [] []]) (r := AV.sl 1 (List.map (row1 IntKind.i64) (revK l l.length).reverse)) Try.func23 (by kernel_rfl) (.c oz0 <| .c oz0 <| .c oz2 <| .c oz0 <| .c oz0 <| .c (show (!orderedB l) = false by (simp; omega)) <| .c oz6 <| .c oz7 <| .c oz7 <| .c (show (wL l 0).length ≤ (wL l 0).length by omega) <| .c (show 1 * (wL l 0).length ≤ 281474976710656 by omega) <| .c (show (wL l 0).length ≤ 9223372036854775807 by omega) <| .c (show 0 ≤ (↑(List.map nodC l).length : Int) by omega) <| .c (show (↑(List.map nodC l).length : Int) < (↑(List.replicate (wL l 0).length [bv false]).length : Int) by (simp; omega)) <| .c (show (↑(List.map nodC l).length : Int).toNat < (List.replicate (wL l 0).length [bv false]).length by (simp; omega)) <| .c oz15 <| .c oz16 <| .c (show BlkW (Blk.slc 4 1 ((List.replicate (wL l 0).length [bv false]).set (↑(List.map nodC l).length : Int).toNat [bv true])) (Blk.slc 4 1 (List.map rowB (wL l 0))) from (BlkW.rows (rows_to (rowB) (r := (List.replicate (wL l 0).length [bv false]).set (↑(List.map nodC l).length : Int).toNat [bv true]) (l := (List.replicate (wL l 0).length false).set (↑(List.map nodC l).length : Int).toNat true) (m := wL l 0) (by first | (simp only [List.map_append, List.map_cons, List.map_nil, List.map_set, List.map_replicate, List.map_take, List.map_drop]; done) | rfl | (simp only [List.map_append, List.map_cons, List.map_nil, List.map_set, List.map_replicate, List.map_take, List.map_drop]; rfl) | (simp only [List.map_append, List.map_cons, List.map_nil, List.map_set, List.map_replicate, List.map_take, List.map_drop, rowB, ints]; done)) (show ((List.replicate (wL l 0).length false).set (↑(List.map nodC l).length : Int).toNat true) = (wL l 0) from (by (rw [wL_len, List.length_map, Int.toNat_natCast, wL_0])))))) <| .c oz18 <| .c oz19 <| .n)).weak (WeakL.refl _) (Weak.rows (rows_to (row1 IntKind.i64) (r := List.map (row1 IntKind.i64) (revK l l.length).reverse) (l := (revK l l.length).reverse) (m := usI (usedL l)) rfl (show ((revK l l.length).reverse) = (usI (usedL l)) from (by (rw [← revK_all])))))

set_option maxRecDepth 100000 in
set_option maxHeartbeats 2000000 in
theorem pused_n (l : List Nod) (hl : l.length ≤ 1000) (h0 : l.length = 0 ∨ orderedB l = false) : VC Try.prog 23 ([.sl 19 (l.map nodC)]) (ints .i64 []) := by
  have q0 : (List.map nodC l).length = l.length := List.length_map _
  have oz0 := @pord_v (l) hl
  exact (VC.run (fn := Try.f23) (W := [.r [] [], .sc, .r [] [.op false, .op false, .callr (rO oz0), .op false, .sel 1], .br true, .r [] []]) (r := AV.lit (Value.slice none 0 0)) Try.func23 (by kernel_rfl) (.c oz0 <| .c (show ((↑(List.map nodC l).length : Int) == 0 || !orderedB l) = true by (rcases h0 with h0 | h0 <;> simp [h0])) <| .n)).weak (WeakL.refl _) (Weak.nil _)
end Go.Proofs.Ytgecmooedhnenaa

/- What is left of a block without what nobody takes, by the program: new numbers out of a map. No condition. -/
namespace Go.Proofs.Ytgecmooedhnenaa
open Go.RowKit
set_option linter.unusedSimpArgs false
set_option linter.unusedVariables false
set_option linter.unnecessarySimpa false

theorem look_snoc (a b n : Int) : ∀ A : List (Int × Int), lookI (A ++ [(a, b)]) n = if (A.any fun p => n == p.1) = true then lookI A n else if n = a then b else 0
  | [] => by simp only [List.nil_append, lookI, findI, List.any_nil, Bool.false_eq_true, if_false]; by_cases h : n = a <;> simp [h]
  | (k, v) :: A => by
    have ih := look_snoc a b n A
    simp only [List.cons_append, lookI, findI, List.any_cons, Bool.or_eq_true]
    by_cases h : (n == k) = true
    · simp [h]
    · simp only [h, if_false, Bool.false_eq_true, false_or]
      unfold lookI at ih
      cases h1 : findI (A ++ [(a, b)]) n with
      | none =>
        rw [h1] at ih
        cases h2 : findI A n with
        | none => rw [h2] at ih; exact ih
        | some q => obtain ⟨j, u⟩ := q; rw [h2] at ih; exact ih
      | some p =>
        obtain ⟨j', u'⟩ := p
        rw [h1] at ih
        cases h2 : findI A n with
        | none => rw [h2] at ih; exact ih
        | some q => obtain ⟨j, u⟩ := q; rw [h2] at ih; exact ih
theorem put_snoc (n x : Int) : ∀ A : List (Int × Int), (A.any fun p => n == p.1) = false → putI A n x = A ++ [(n, x)]
  | [], _ => rfl
  | (k, v) :: A, h => by
    simp only [List.any_cons, Bool.or_eq_false_iff] at h
    rw [putI, h.1, if_neg (by simp), put_snoc n x A h.2]; rfl
/-- The new numbers of the values, k nodes done. -/
def nowL (us : List Nat) : Nat → List (Int × Int)
  | 0 => [(0, 0)]
  | k + 1 => nowL us k ++ [(((us.getD k 0 : Nat) : Int) + 1, (k : Int) + 1)]
theorem now_keys (us : List Nat) (v : Int) : ∀ k, ((nowL us k).any fun p => v == p.1) = true ↔ v = 0 ∨ ∃ j, j < k ∧ v = (us.getD j 0 : Nat) + 1
  | 0 => by simp [nowL]
  | k + 1 => by
    rw [nowL, List.any_append, Bool.or_eq_true, now_keys us v k]
    simp only [List.any_cons, List.any_nil, Bool.or_false, beq_iff_eq]
    constructor
    · rintro ((h | ⟨j, h1, h2⟩) | h)
      · exact .inl h
      · exact .inr ⟨j, by omega, h2⟩
      · exact .inr ⟨k, by omega, h⟩
    · rintro (h | ⟨j, h1, h2⟩)
      · exact .inl (.inl h)
      · by_cases e : j = k
        · subst e; exact .inr h2
        · exact .inl (.inr ⟨j, by omega, h2⟩)
theorem now_0 (us : List Nat) : ∀ k, lookI (nowL us k) 0 = 0
  | 0 => rfl
  | k + 1 => by rw [nowL, look_snoc, if_pos ((now_keys us 0 k).2 (.inl rfl)), now_0 us k]
theorem us_lt {us : List Nat} (h : us.Pairwise (· < ·)) {i j : Nat} (hij : i < j) (hj : j < us.length) : us.getD i 0 < us.getD j 0 := by
  have := List.pairwise_iff_getElem.1 h i j (by omega) hj hij
  rw [List.getD_eq_getElem?_getD, List.getElem?_eq_getElem (by omega), List.getD_eq_getElem?_getD, List.getElem?_eq_getElem hj]; exact this
theorem now_at {us : List Nat} (h : us.Pairwise (· < ·)) : ∀ {k}, k ≤ us.length → ∀ {j}, j < k → lookI (nowL us k) ((us.getD j 0 : Nat) + 1) = (j : Int) + 1
  | k + 1, hk, j, hj => by
    rw [nowL, look_snoc]
    by_cases e : j = k
    · subst e
      rw [if_neg, if_pos rfl]
      rw [now_keys]
      rintro (h1 | ⟨i, h1, h2⟩)
      · omega
      · have := us_lt h h1 (by omega); omega
    · rw [if_pos ((now_keys _ _ _).2 (.inr ⟨j, by omega, rfl⟩)), now_at h (by omega) (by omega)]
theorem now_put {us : List Nat} (h : us.Pairwise (· < ·)) {k : Nat} (hk : k < us.length) : putI (nowL us k) ((us.getD k 0 : Nat) + 1) ((k : Int) + 1) = nowL us (k + 1) := by
  have ha : ((nowL us k).any fun p => ((us.getD k 0 : Nat) : Int) + 1 == p.1) = false := by
    cases e : (nowL us k).any fun p => ((us.getD k 0 : Nat) : Int) + 1 == p.1 with
    | false => rfl
    | true =>
      rcases (now_keys _ _ _).1 e with h1 | ⟨j, h1, h2⟩
      · omega
      · have := us_lt h h1 hk; omega
  rw [put_snoc _ _ _ ha, nowL]
theorem now_look {l : List Nod} (ho : orderedB l = true) {k : Nat} (hk : k < (usedL l).length) {v : Int} (hv : takesB (l.getD ((usedL l).getD k 0) default) v = true) : lookI (nowL (usedL l) k) v = numU (usedL l) v := by
  obtain ⟨h1, h2, h3⟩ := used_takes ho (used_at hk) hv
  rcases h3 with rfl | h3
  · rw [now_0, numU_0 _ (Int.le_refl 0)]
  · by_cases e : v = 0
    · subst e; rw [now_0, numU_0 _ (Int.le_refl 0)]
    · obtain ⟨j, hj, hjv⟩ := idx_used h3
      have hv2 : v = ((usedL l).getD j 0 : Nat) + 1 := by omega
      have hjk : j < k := by
        rcases Nat.lt_trichotomy j k with h | h | h
        · exact h
        · subst h; omega
        · have := us_lt (used_sorted l) h hj; omega
      rw [hv2, now_at (used_sorted l) (by omega) hjk, numU_up (used_sorted l) hj]
set_option maxRecDepth 100000 in
set_option maxHeartbeats 2000000 in
theorem pcopied_v (n : Nod) (hw : n.w.length ≤ 100000) (hb : n.b.length ≤ 100000) : VC Try.prog 81 ([nod n]) (nod n) := by
  have oz0 := @clone8_v (n.w) (by omega)
  have oz1 := @clone32_v (n.b) (by omega)
  exact VC.run (fn := Try.f81) (W := [.r [] [], .r [] [.callr (rO oz0), .callr (rO oz1)], .r [] []]) Try.func81 (by kernel_rfl) (.c oz0 <| .c oz1 <| .n)

noncomputable def pblock_c_I (l : List Nod) (k : Nat) : VS := stt 64 [(3, .own 900), (13, .sl 19 (l.map nodC)), (14, i64 l.length), (15, i64 k)] [(900, .slc 47 19 ((l.take k).map nodC))]
set_option maxRecDepth 100000 in
set_option maxHeartbeats 2000000 in
theorem pblock_c_s (l : List Nod) (hl : l.length ≤ 1000) (hw : ∀ n ∈ l, n.w.length ≤ 100000 ∧ n.b.length ≤ 100000) (k : Nat) (hk : k < l.length) : VT Try.prog (fnC Try.f20 [1, 1, 0, 1, 0, 0, 1, 0, 0]) (pblock_c_I l k) .normal (pblock_c_I l (k + 1)) := by
  have q := getD_in hw hk
  obtain ⟨q1, q2⟩ := q
  have q3 : (List.map nodC (l.take k)).length = k := by rw [List.length_map, List.length_take]; omega
  have q4 : l.take (k + 1) = l.take k ++ [l.getD k default] := by
    rw [List.take_add_one, List.getD_eq_getElem?_getD, List.getElem?_eq_getElem hk]; rfl
  have oz2 := (map_at (nodC) (default) (l := l) (i := k) hk)
  have oz3 := @pcopied_v (l.getD k default) q1 q2
  exact VT.run (W := [.r [] [], .br true, .r [] [.row (sO oz2)], .r [] [.callr (rO oz3)], .r [] [.n ((↑k : Int) + 1)]]) (G := [.any (rg [(5, 1), (16, 9)]), .drop [5, 22], .ren 23 900, .weak 15 (i64 (↑(k + 1) : Int)), .blk 900 (Blk.slc 47 19 (List.map nodC (List.take (k + 1) l))), .sort]) (by kernel_rfl) (.c (decide_eq_true (p := ((↑k : Int) < (↑l.length : Int))) (by omega)) <| .c (show 0 ≤ (↑k : Int) by omega) <| .c oz2 <| .c oz3 <| .c (show ((List.map nodC (List.take k l)).length + 1) * 168 ≤ 140737488355328 by omega) <| .c (show (List.map nodC (List.take k l)).length + 1 ≤ 9223372036854775807 by omega) <| .c (IntWalk.i64_in ((↑k : Int) + 1) (by omega)) <| .c (Weak.int (k := .i64) (show (((↑k : Int) + 1) : Int) = ((↑(k + 1) : Int)) from (by omega))) <| .c (show BlkW (Blk.slc 47 19 (List.map nodC (List.take k l) ++ [[i64 (l.getD k default).kd, i64 (l.getD k default).na, i64 (l.getD k default).nb, i64 (l.getD k default).nk, i64 (l.getD k default).ns, i64 (l.getD k default).np, i64 (l.getD k default).no, i8 (l.getD k default).za, i8 (l.getD k default).zb, AV.sl 1 (List.map (row1 IntKind.i8) (l.getD k default).w), AV.sl 1 (List.map (row1 IntKind.i32) (l.getD k default).b), i32 (l.getD k default).qm, i64 (l.getD k default).qs, i8 (l.getD k default).qz, i32 (l.getD k default).rm, i64 (l.getD k default).rs, i8 (l.getD k default).rz, i8 (l.getD k default).lo, i8 (l.getD k default).hi]])) (Blk.slc 47 19 (List.map nodC (List.take (k + 1) l))) from (BlkW.rows (rows_to (nodC) (r := List.map nodC (List.take k l) ++ [[i64 (l.getD k default).kd, i64 (l.getD k default).na, i64 (l.getD k default).nb, i64 (l.getD k default).nk, i64 (l.getD k default).ns, i64 (l.getD k default).np, i64 (l.getD k default).no, i8 (l.getD k default).za, i8 (l.getD k default).zb, AV.sl 1 (List.map (row1 IntKind.i8) (l.getD k default).w), AV.sl 1 (List.map (row1 IntKind.i32) (l.getD k default).b), i32 (l.getD k default).qm, i64 (l.getD k default).qs, i8 (l.getD k default).qz, i32 (l.getD k default).rm, i64 (l.getD k default).rs, i8 (l.getD k default).rz, i8 (l.getD k default).lo, i8 (l.getD k default).hi]]) (l := List.take k l ++ [Nod.mk (l.getD k default).kd (l.getD k default).na (l.getD k default).nb (l.getD k default).nk (l.getD k default).ns (l.getD k default).np (l.getD k default).no (l.getD k default).za (l.getD k default).zb (l.getD k default).w (l.getD k default).b (l.getD k default).qm (l.getD k default).qs (l.getD k default).qz (l.getD k default).rm (l.getD k default).rs (l.getD k default).rz (l.getD k default).lo (l.getD k default).hi]) (m := List.take (k + 1) l) (by first | (simp only [List.map_append, List.map_cons, List.map_nil, List.map_set, List.map_replicate, List.map_take, List.map_drop]; done) | rfl | (simp only [List.map_append, List.map_cons, List.map_nil, List.map_set, List.map_replicate, List.map_take, List.map_drop]; rfl) | (simp only [List.map_append, List.map_cons, List.map_nil, List.map_set, List.map_replicate, List.map_take, List.map_drop, nodC, ints]; done)) (show (List.take k l ++ [Nod.mk (l.getD k default).kd (l.getD k default).na (l.getD k default).nb (l.getD k default).nk (l.getD k default).ns (l.getD k default).np (l.getD k default).no (l.getD k default).za (l.getD k default).zb (l.getD k default).w (l.getD k default).b (l.getD k default).qm (l.getD k default).qs (l.getD k default).qz (l.getD k default).rm (l.getD k default).rs (l.getD k default).rz (l.getD k default).lo (l.getD k default).hi]) = (List.take (k + 1) l) from (by (rw [q4])))))) <| .n)
noncomputable def pblock_m_I (l : List Nod) (k : Nat) : VS := stt 64 [(0, .sl 19 (l.map nodC)), (3, .own 900), (6, .mp 902), (29, ints .i64 (usI (usedL l))), (30, i64 (usedL l).length), (31, i64 k)] [(900, .slc 47 19 ((prunK l k).map nodC)), (902, .obj (mobj (nowL (usedL l) k)))]
noncomputable def pblock_m_Z (l : List Nod) : VS := pblock_m_I l ((usedL l).length)
set_option maxRecDepth 100000 in
set_option maxHeartbeats 2000000 in
theorem pblock_m_s (l : List Nod) (hl : l.length ≤ 1000) (hw : ∀ n ∈ l, n.w.length ≤ 100000 ∧ n.b.length ≤ 100000) (ho : orderedB l = true) (k : Nat) (hk : k < (usedL l).length) : VT Try.prog (fnC Try.f20 [1, 1, 1, 1, 0, 1, 0, 0]) (pblock_m_I l k) .normal (pblock_m_I l (k + 1)) := by
  have q := prunK_len l k
  have q2 : (List.map nodC (prunK l k)).length = (prunK l k).length := List.length_map _
  have q3 := used_len l
  have q4 := usI_at hk
  have q5 := (mem_used.1 (used_at hk)).1
  have q6 := @prunK_step l k hk
  have q7 : (usI (usedL l)).length = (usedL l).length := List.length_map _
  have q9 : (List.map (row1 .i64) (usI (usedL l))).length = (usI (usedL l)).length := List.length_map _
  have q8 : ((usI (usedL l)).getD k 0).toNat = (usedL l).getD k 0 := by rw [q4]; rfl
  have qw := getD_in hw q5
  have qa := now_look ho hk (takes_na _)
  have qb := fun h => now_look ho hk (takes_nb h)
  have qp := now_put (used_sorted l) hk
  have ql : (prunK l k).length = k := by unfold prunK; rw [List.length_map, List.length_take]; omega
  rw [← q8] at q6 qw qa
  simp only [← q8] at qb
  rw [← q4] at qp
  obtain ⟨qw1, qw2⟩ := qw
  unfold pruneN at q6
  have oz0 := (decide_eq_true (p := ((↑k : Int) < (↑(usedL l).length : Int))) (by omega))
  have oz1 := (show 0 ≤ (↑k : Int) by omega)
  have oz2 := (map_at (row1 IntKind.i64) (0) (l := usI (usedL l)) (i := k) (by omega))
  have oz3 := (show 0 ≤ (usI (usedL l)).getD k 0 by omega)
  have oz4 := (map_at (nodC) (default) (l := l) (i := ((usI (usedL l)).getD k 0).toNat) (by omega))
  have oz5 := @pcopied_v (l.getD ((usI (usedL l)).getD k 0).toNat default) qw1 qw2
  have oz6 := (show mobj (nowL (usedL l) k) = mobj (nowL (usedL l) k) from rfl)
  rcases Bool.eq_false_or_eq_true ((l.getD ((usI (usedL l)).getD k 0).toNat default).kd == 6) with hc0 | hc0
  · have gc0 : (l.getD ((usI (usedL l)).getD k 0).toNat default).kd = 6 := bet hc0
    exact VT.run (W := [.r [] [], .br true, .r [] [.row (sO oz2)], .r [] [.row (sO oz4), .callr (rO oz5)], .r [] [.mapl (nowL (usedL l) k)], .r [] [], .br true, .r [] [.mapl (nowL (usedL l) k)], .r [] [], .r [] [.n ((usI (usedL l)).getD k 0 + 1), .mapl (nowL (usedL l) k)], .r [] [.n ((↑k : Int) + 1)]]) (G := [.any (rg [(8, 2), (32, 31)]), .drop [9, 55], .ren 56 900, .weak 31 (i64 (↑(k + 1) : Int)), .blk 900 (Blk.slc 47 19 (List.map nodC (prunK l (k + 1)))), .blk 902 (Blk.obj (mobj (nowL (usedL l) (k + 1)))), .sort]) (by kernel_rfl) (.c oz0 <| .c oz1 <| .c oz2 <| .c oz3 <| .c oz4 <| .c oz5 <| .c oz6 <| .c hc0 <| .c oz6 <| .c (show ((List.map nodC (prunK l k)).length + 1) * 168 ≤ 140737488355328 by omega) <| .c (show (List.map nodC (prunK l k)).length + 1 ≤ 9223372036854775807 by omega) <| .c (IntWalk.i64_in ((usI (usedL l)).getD k 0 + 1) (by omega)) <| .c oz6 <| .c (IntWalk.i64_in ((↑k : Int) + 1) (by omega)) <| .c (Weak.int (k := .i64) (show (((↑k : Int) + 1) : Int) = ((↑(k + 1) : Int)) from (by omega))) <| .c (show BlkW (Blk.slc 47 19 (List.map nodC (prunK l k) ++ [[i64 (l.getD ((usI (usedL l)).getD k 0).toNat default).kd, i64 (lookI (nowL (usedL l) k) (l.getD ((usI (usedL l)).getD k 0).toNat default).na), i64 (lookI (nowL (usedL l) k) (l.getD ((usI (usedL l)).getD k 0).toNat default).nb), i64 (l.getD ((usI (usedL l)).getD k 0).toNat default).nk, i64 (l.getD ((usI (usedL l)).getD k 0).toNat default).ns, i64 (l.getD ((usI (usedL l)).getD k 0).toNat default).np, i64 (l.getD ((usI (usedL l)).getD k 0).toNat default).no, i8 (l.getD ((usI (usedL l)).getD k 0).toNat default).za, i8 (l.getD ((usI (usedL l)).getD k 0).toNat default).zb, AV.sl 1 (List.map (row1 IntKind.i8) (l.getD ((usI (usedL l)).getD k 0).toNat default).w), AV.sl 1 (List.map (row1 IntKind.i32) (l.getD ((usI (usedL l)).getD k 0).toNat default).b), i32 (l.getD ((usI (usedL l)).getD k 0).toNat default).qm, i64 (l.getD ((usI (usedL l)).getD k 0).toNat default).qs, i8 (l.getD ((usI (usedL l)).getD k 0).toNat default).qz, i32 (l.getD ((usI (usedL l)).getD k 0).toNat default).rm, i64 (l.getD ((usI (usedL l)).getD k 0).toNat default).rs, i8 (l.getD ((usI (usedL l)).getD k 0).toNat default).rz, i8 (l.getD ((usI (usedL l)).getD k 0).toNat default).lo, i8 (l.getD ((usI (usedL l)).getD k 0).toNat default).hi]])) (Blk.slc 47 19 (List.map nodC (prunK l (k + 1)))) from (BlkW.rows (rows_to (nodC) (r := List.map nodC (prunK l k) ++ [[i64 (l.getD ((usI (usedL l)).getD k 0).toNat default).kd, i64 (lookI (nowL (usedL l) k) (l.getD ((usI (usedL l)).getD k 0).toNat default).na), i64 (lookI (nowL (usedL l) k) (l.getD ((usI (usedL l)).getD k 0).toNat default).nb), i64 (l.getD ((usI (usedL l)).getD k 0).toNat default).nk, i64 (l.getD ((usI (usedL l)).getD k 0).toNat default).ns, i64 (l.getD ((usI (usedL l)).getD k 0).toNat default).np, i64 (l.getD ((usI (usedL l)).getD k 0).toNat default).no, i8 (l.getD ((usI (usedL l)).getD k 0).toNat default).za, i8 (l.getD ((usI (usedL l)).getD k 0).toNat default).zb, AV.sl 1 (List.map (row1 IntKind.i8) (l.getD ((usI (usedL l)).getD k 0).toNat default).w), AV.sl 1 (List.map (row1 IntKind.i32) (l.getD ((usI (usedL l)).getD k 0).toNat default).b), i32 (l.getD ((usI (usedL l)).getD k 0).toNat default).qm, i64 (l.getD ((usI (usedL l)).getD k 0).toNat default).qs, i8 (l.getD ((usI (usedL l)).getD k 0).toNat default).qz, i32 (l.getD ((usI (usedL l)).getD k 0).toNat default).rm, i64 (l.getD ((usI (usedL l)).getD k 0).toNat default).rs, i8 (l.getD ((usI (usedL l)).getD k 0).toNat default).rz, i8 (l.getD ((usI (usedL l)).getD k 0).toNat default).lo, i8 (l.getD ((usI (usedL l)).getD k 0).toNat default).hi]]) (l := prunK l k ++ [Nod.mk (l.getD ((usI (usedL l)).getD k 0).toNat default).kd (lookI (nowL (usedL l) k) (l.getD ((usI (usedL l)).getD k 0).toNat default).na) (lookI (nowL (usedL l) k) (l.getD ((usI (usedL l)).getD k 0).toNat default).nb) (l.getD ((usI (usedL l)).getD k 0).toNat default).nk (l.getD ((usI (usedL l)).getD k 0).toNat default).ns (l.getD ((usI (usedL l)).getD k 0).toNat default).np (l.getD ((usI (usedL l)).getD k 0).toNat default).no (l.getD ((usI (usedL l)).getD k 0).toNat default).za (l.getD ((usI (usedL l)).getD k 0).toNat default).zb (l.getD ((usI (usedL l)).getD k 0).toNat default).w (l.getD ((usI (usedL l)).getD k 0).toNat default).b (l.getD ((usI (usedL l)).getD k 0).toNat default).qm (l.getD ((usI (usedL l)).getD k 0).toNat default).qs (l.getD ((usI (usedL l)).getD k 0).toNat default).qz (l.getD ((usI (usedL l)).getD k 0).toNat default).rm (l.getD ((usI (usedL l)).getD k 0).toNat default).rs (l.getD ((usI (usedL l)).getD k 0).toNat default).rz (l.getD ((usI (usedL l)).getD k 0).toNat default).lo (l.getD ((usI (usedL l)).getD k 0).toNat default).hi]) (m := prunK l (k + 1)) (by first | (simp only [List.map_append, List.map_cons, List.map_nil, List.map_set, List.map_replicate, List.map_take, List.map_drop]; done) | rfl | (simp only [List.map_append, List.map_cons, List.map_nil, List.map_set, List.map_replicate, List.map_take, List.map_drop]; rfl) | (simp only [List.map_append, List.map_cons, List.map_nil, List.map_set, List.map_replicate, List.map_take, List.map_drop, nodC, ints]; done)) (show (prunK l k ++ [Nod.mk (l.getD ((usI (usedL l)).getD k 0).toNat default).kd (lookI (nowL (usedL l) k) (l.getD ((usI (usedL l)).getD k 0).toNat default).na) (lookI (nowL (usedL l) k) (l.getD ((usI (usedL l)).getD k 0).toNat default).nb) (l.getD ((usI (usedL l)).getD k 0).toNat default).nk (l.getD ((usI (usedL l)).getD k 0).toNat default).ns (l.getD ((usI (usedL l)).getD k 0).toNat default).np (l.getD ((usI (usedL l)).getD k 0).toNat default).no (l.getD ((usI (usedL l)).getD k 0).toNat default).za (l.getD ((usI (usedL l)).getD k 0).toNat default).zb (l.getD ((usI (usedL l)).getD k 0).toNat default).w (l.getD ((usI (usedL l)).getD k 0).toNat default).b (l.getD ((usI (usedL l)).getD k 0).toNat default).qm (l.getD ((usI (usedL l)).getD k 0).toNat default).qs (l.getD ((usI (usedL l)).getD k 0).toNat default).qz (l.getD ((usI (usedL l)).getD k 0).toNat default).rm (l.getD ((usI (usedL l)).getD k 0).toNat default).rs (l.getD ((usI (usedL l)).getD k 0).toNat default).rz (l.getD ((usI (usedL l)).getD k 0).toNat default).lo (l.getD ((usI (usedL l)).getD k 0).toNat default).hi]) = (prunK l (k + 1)) from (by (rw [q6, if_pos (by assumption), qa, qb (by assumption)])))))) <| .c (show BlkW (Blk.obj (mobj (putI (nowL (usedL l) k) ((usI (usedL l)).getD k 0 + 1) (↑(List.map nodC (prunK l k) ++ [[i64 (l.getD ((usI (usedL l)).getD k 0).toNat default).kd, i64 (lookI (nowL (usedL l) k) (l.getD ((usI (usedL l)).getD k 0).toNat default).na), i64 (lookI (nowL (usedL l) k) (l.getD ((usI (usedL l)).getD k 0).toNat default).nb), i64 (l.getD ((usI (usedL l)).getD k 0).toNat default).nk, i64 (l.getD ((usI (usedL l)).getD k 0).toNat default).ns, i64 (l.getD ((usI (usedL l)).getD k 0).toNat default).np, i64 (l.getD ((usI (usedL l)).getD k 0).toNat default).no, i8 (l.getD ((usI (usedL l)).getD k 0).toNat default).za, i8 (l.getD ((usI (usedL l)).getD k 0).toNat default).zb, AV.sl 1 (List.map (row1 IntKind.i8) (l.getD ((usI (usedL l)).getD k 0).toNat default).w), AV.sl 1 (List.map (row1 IntKind.i32) (l.getD ((usI (usedL l)).getD k 0).toNat default).b), i32 (l.getD ((usI (usedL l)).getD k 0).toNat default).qm, i64 (l.getD ((usI (usedL l)).getD k 0).toNat default).qs, i8 (l.getD ((usI (usedL l)).getD k 0).toNat default).qz, i32 (l.getD ((usI (usedL l)).getD k 0).toNat default).rm, i64 (l.getD ((usI (usedL l)).getD k 0).toNat default).rs, i8 (l.getD ((usI (usedL l)).getD k 0).toNat default).rz, i8 (l.getD ((usI (usedL l)).getD k 0).toNat default).lo, i8 (l.getD ((usI (usedL l)).getD k 0).toNat default).hi]]).length : Int)))) (Blk.obj (mobj (nowL (usedL l) (k + 1)))) from (BlkW.map (show putI (nowL (usedL l) k) ((usI (usedL l)).getD k 0 + 1) (↑(List.map nodC (prunK l k) ++ [[i64 (l.getD ((usI (usedL l)).getD k 0).toNat default).kd, i64 (lookI (nowL (usedL l) k) (l.getD ((usI (usedL l)).getD k 0).toNat default).na), i64 (lookI (nowL (usedL l) k) (l.getD ((usI (usedL l)).getD k 0).toNat default).nb), i64 (l.getD ((usI (usedL l)).getD k 0).toNat default).nk, i64 (l.getD ((usI (usedL l)).getD k 0).toNat default).ns, i64 (l.getD ((usI (usedL l)).getD k 0).toNat default).np, i64 (l.getD ((usI (usedL l)).getD k 0).toNat default).no, i8 (l.getD ((usI (usedL l)).getD k 0).toNat default).za, i8 (l.getD ((usI (usedL l)).getD k 0).toNat default).zb, AV.sl 1 (List.map (row1 IntKind.i8) (l.getD ((usI (usedL l)).getD k 0).toNat default).w), AV.sl 1 (List.map (row1 IntKind.i32) (l.getD ((usI (usedL l)).getD k 0).toNat default).b), i32 (l.getD ((usI (usedL l)).getD k 0).toNat default).qm, i64 (l.getD ((usI (usedL l)).getD k 0).toNat default).qs, i8 (l.getD ((usI (usedL l)).getD k 0).toNat default).qz, i32 (l.getD ((usI (usedL l)).getD k 0).toNat default).rm, i64 (l.getD ((usI (usedL l)).getD k 0).toNat default).rs, i8 (l.getD ((usI (usedL l)).getD k 0).toNat default).rz, i8 (l.getD ((usI (usedL l)).getD k 0).toNat default).lo, i8 (l.getD ((usI (usedL l)).getD k 0).toNat default).hi]]).length : Int) = nowL (usedL l) (k + 1) from (by (rw [← qp]; congr 1; simp; omega))))) <| .n)
  · have gc0 : ¬(l.getD ((usI (usedL l)).getD k 0).toNat default).kd = 6 := bef hc0
    exact VT.run (W := [.r [] [], .br true, .r [] [.row (sO oz2)], .r [] [.row (sO oz4), .callr (rO oz5)], .r [] [.mapl (nowL (usedL l) k)], .r [] [], .br false, .r [] [], .r [] [.n ((usI (usedL l)).getD k 0 + 1), .mapl (nowL (usedL l) k)], .r [] [.n ((↑k : Int) + 1)]]) (G := [.any (rg [(8, 2), (32, 16), (53, 10)]), .drop [9, 55], .ren 56 900, .weak 31 (i64 (↑(k + 1) : Int)), .blk 900 (Blk.slc 47 19 (List.map nodC (prunK l (k + 1)))), .blk 902 (Blk.obj (mobj (nowL (usedL l) (k + 1)))), .sort]) (by kernel_rfl) (.c oz0 <| .c oz1 <| .c oz2 <| .c oz3 <| .c oz4 <| .c oz5 <| .c oz6 <| .c hc0 <| .c (show ((List.map nodC (prunK l k)).length + 1) * 168 ≤ 140737488355328 by omega) <| .c (show (List.map nodC (prunK l k)).length + 1 ≤ 9223372036854775807 by omega) <| .c (IntWalk.i64_in ((usI (usedL l)).getD k 0 + 1) (by omega)) <| .c oz6 <| .c (IntWalk.i64_in ((↑k : Int) + 1) (by omega)) <| .c (Weak.int (k := .i64) (show (((↑k : Int) + 1) : Int) = ((↑(k + 1) : Int)) from (by omega))) <| .c (show BlkW (Blk.slc 47 19 (List.map nodC (prunK l k) ++ [[i64 (l.getD ((usI (usedL l)).getD k 0).toNat default).kd, i64 (lookI (nowL (usedL l) k) (l.getD ((usI (usedL l)).getD k 0).toNat default).na), i64 (l.getD ((usI (usedL l)).getD k 0).toNat default).nb, i64 (l.getD ((usI (usedL l)).getD k 0).toNat default).nk, i64 (l.getD ((usI (usedL l)).getD k 0).toNat default).ns, i64 (l.getD ((usI (usedL l)).getD k 0).toNat default).np, i64 (l.getD ((usI (usedL l)).getD k 0).toNat default).no, i8 (l.getD ((usI (usedL l)).getD k 0).toNat default).za, i8 (l.getD ((usI (usedL l)).getD k 0).toNat default).zb, AV.sl 1 (List.map (row1 IntKind.i8) (l.getD ((usI (usedL l)).getD k 0).toNat default).w), AV.sl 1 (List.map (row1 IntKind.i32) (l.getD ((usI (usedL l)).getD k 0).toNat default).b), i32 (l.getD ((usI (usedL l)).getD k 0).toNat default).qm, i64 (l.getD ((usI (usedL l)).getD k 0).toNat default).qs, i8 (l.getD ((usI (usedL l)).getD k 0).toNat default).qz, i32 (l.getD ((usI (usedL l)).getD k 0).toNat default).rm, i64 (l.getD ((usI (usedL l)).getD k 0).toNat default).rs, i8 (l.getD ((usI (usedL l)).getD k 0).toNat default).rz, i8 (l.getD ((usI (usedL l)).getD k 0).toNat default).lo, i8 (l.getD ((usI (usedL l)).getD k 0).toNat default).hi]])) (Blk.slc 47 19 (List.map nodC (prunK l (k + 1)))) from (BlkW.rows (rows_to (nodC) (r := List.map nodC (prunK l k) ++ [[i64 (l.getD ((usI (usedL l)).getD k 0).toNat default).kd, i64 (lookI (nowL (usedL l) k) (l.getD ((usI (usedL l)).getD k 0).toNat default).na), i64 (l.getD ((usI (usedL l)).getD k 0).toNat default).nb, i64 (l.getD ((usI (usedL l)).getD k 0).toNat default).nk, i64 (l.getD ((usI (usedL l)).getD k 0).toNat default).ns, i64 (l.getD ((usI (usedL l)).getD k 0).toNat default).np, i64 (l.getD ((usI (usedL l)).getD k 0).toNat default).no, i8 (l.getD ((usI (usedL l)).getD k 0).toNat default).za, i8 (l.getD ((usI (usedL l)).getD k 0).toNat default).zb, AV.sl 1 (List.map (row1 IntKind.i8) (l.getD ((usI (usedL l)).getD k 0).toNat default).w), AV.sl 1 (List.map (row1 IntKind.i32) (l.getD ((usI (usedL l)).getD k 0).toNat default).b), i32 (l.getD ((usI (usedL l)).getD k 0).toNat default).qm, i64 (l.getD ((usI (usedL l)).getD k 0).toNat default).qs, i8 (l.getD ((usI (usedL l)).getD k 0).toNat default).qz, i32 (l.getD ((usI (usedL l)).getD k 0).toNat default).rm, i64 (l.getD ((usI (usedL l)).getD k 0).toNat default).rs, i8 (l.getD ((usI (usedL l)).getD k 0).toNat default).rz, i8 (l.getD ((usI (usedL l)).getD k 0).toNat default).lo, i8 (l.getD ((usI (usedL l)).getD k 0).toNat default).hi]]) (l := prunK l k ++ [Nod.mk (l.getD ((usI (usedL l)).getD k 0).toNat default).kd (lookI (nowL (usedL l) k) (l.getD ((usI (usedL l)).getD k 0).toNat default).na) (l.getD ((usI (usedL l)).getD k 0).toNat default).nb (l.getD ((usI (usedL l)).getD k 0).toNat default).nk (l.getD ((usI (usedL l)).getD k 0).toNat default).ns (l.getD ((usI (usedL l)).getD k 0).toNat default).np (l.getD ((usI (usedL l)).getD k 0).toNat default).no (l.getD ((usI (usedL l)).getD k 0).toNat default).za (l.getD ((usI (usedL l)).getD k 0).toNat default).zb (l.getD ((usI (usedL l)).getD k 0).toNat default).w (l.getD ((usI (usedL l)).getD k 0).toNat default).b (l.getD ((usI (usedL l)).getD k 0).toNat default).qm (l.getD ((usI (usedL l)).getD k 0).toNat default).qs (l.getD ((usI (usedL l)).getD k 0).toNat default).qz (l.getD ((usI (usedL l)).getD k 0).toNat default).rm (l.getD ((usI (usedL l)).getD k 0).toNat default).rs (l.getD ((usI (usedL l)).getD k 0).toNat default).rz (l.getD ((usI (usedL l)).getD k 0).toNat default).lo (l.getD ((usI (usedL l)).getD k 0).toNat default).hi]) (m := prunK l (k + 1)) (by first | (simp only [List.map_append, List.map_cons, List.map_nil, List.map_set, List.map_replicate, List.map_take, List.map_drop]; done) | rfl | (simp only [List.map_append, List.map_cons, List.map_nil, List.map_set, List.map_replicate, List.map_take, List.map_drop]; rfl) | (simp only [List.map_append, List.map_cons, List.map_nil, List.map_set, List.map_replicate, List.map_take, List.map_drop, nodC, ints]; done)) (show (prunK l k ++ [Nod.mk (l.getD ((usI (usedL l)).getD k 0).toNat default).kd (lookI (nowL (usedL l) k) (l.getD ((usI (usedL l)).getD k 0).toNat default).na) (l.getD ((usI (usedL l)).getD k 0).toNat default).nb (l.getD ((usI (usedL l)).getD k 0).toNat default).nk (l.getD ((usI (usedL l)).getD k 0).toNat default).ns (l.getD ((usI (usedL l)).getD k 0).toNat default).np (l.getD ((usI (usedL l)).getD k 0).toNat default).no (l.getD ((usI (usedL l)).getD k 0).toNat default).za (l.getD ((usI (usedL l)).getD k 0).toNat default).zb (l.getD ((usI (usedL l)).getD k 0).toNat default).w (l.getD ((usI (usedL l)).getD k 0).toNat default).b (l.getD ((usI (usedL l)).getD k 0).toNat default).qm (l.getD ((usI (usedL l)).getD k 0).toNat default).qs (l.getD ((usI (usedL l)).getD k 0).toNat default).qz (l.getD ((usI (usedL l)).getD k 0).toNat default).rm (l.getD ((usI (usedL l)).getD k 0).toNat default).rs (l.getD ((usI (usedL l)).getD k 0).toNat default).rz (l.getD ((usI (usedL l)).getD k 0).toNat default).lo (l.getD ((usI (usedL l)).getD k 0).toNat default).hi]) = (prunK l (k + 1)) from (by (rw [q6, if_neg (by assumption), qa])))))) <| .c (show BlkW (Blk.obj (mobj (putI (nowL (usedL l) k) ((usI (usedL l)).getD k 0 + 1) (↑(List.map nodC (prunK l k) ++ [[i64 (l.getD ((usI (usedL l)).getD k 0).toNat default).kd, i64 (lookI (nowL (usedL l) k) (l.getD ((usI (usedL l)).getD k 0).toNat default).na), i64 (l.getD ((usI (usedL l)).getD k 0).toNat default).nb, i64 (l.getD ((usI (usedL l)).getD k 0).toNat default).nk, i64 (l.getD ((usI (usedL l)).getD k 0).toNat default).ns, i64 (l.getD ((usI (usedL l)).getD k 0).toNat default).np, i64 (l.getD ((usI (usedL l)).getD k 0).toNat default).no, i8 (l.getD ((usI (usedL l)).getD k 0).toNat default).za, i8 (l.getD ((usI (usedL l)).getD k 0).toNat default).zb, AV.sl 1 (List.map (row1 IntKind.i8) (l.getD ((usI (usedL l)).getD k 0).toNat default).w), AV.sl 1 (List.map (row1 IntKind.i32) (l.getD ((usI (usedL l)).getD k 0).toNat default).b), i32 (l.getD ((usI (usedL l)).getD k 0).toNat default).qm, i64 (l.getD ((usI (usedL l)).getD k 0).toNat default).qs, i8 (l.getD ((usI (usedL l)).getD k 0).toNat default).qz, i32 (l.getD ((usI (usedL l)).getD k 0).toNat default).rm, i64 (l.getD ((usI (usedL l)).getD k 0).toNat default).rs, i8 (l.getD ((usI (usedL l)).getD k 0).toNat default).rz, i8 (l.getD ((usI (usedL l)).getD k 0).toNat default).lo, i8 (l.getD ((usI (usedL l)).getD k 0).toNat default).hi]]).length : Int)))) (Blk.obj (mobj (nowL (usedL l) (k + 1)))) from (BlkW.map (show putI (nowL (usedL l) k) ((usI (usedL l)).getD k 0 + 1) (↑(List.map nodC (prunK l k) ++ [[i64 (l.getD ((usI (usedL l)).getD k 0).toNat default).kd, i64 (lookI (nowL (usedL l) k) (l.getD ((usI (usedL l)).getD k 0).toNat default).na), i64 (l.getD ((usI (usedL l)).getD k 0).toNat default).nb, i64 (l.getD ((usI (usedL l)).getD k 0).toNat default).nk, i64 (l.getD ((usI (usedL l)).getD k 0).toNat default).ns, i64 (l.getD ((usI (usedL l)).getD k 0).toNat default).np, i64 (l.getD ((usI (usedL l)).getD k 0).toNat default).no, i8 (l.getD ((usI (usedL l)).getD k 0).toNat default).za, i8 (l.getD ((usI (usedL l)).getD k 0).toNat default).zb, AV.sl 1 (List.map (row1 IntKind.i8) (l.getD ((usI (usedL l)).getD k 0).toNat default).w), AV.sl 1 (List.map (row1 IntKind.i32) (l.getD ((usI (usedL l)).getD k 0).toNat default).b), i32 (l.getD ((usI (usedL l)).getD k 0).toNat default).qm, i64 (l.getD ((usI (usedL l)).getD k 0).toNat default).qs, i8 (l.getD ((usI (usedL l)).getD k 0).toNat default).qz, i32 (l.getD ((usI (usedL l)).getD k 0).toNat default).rm, i64 (l.getD ((usI (usedL l)).getD k 0).toNat default).rs, i8 (l.getD ((usI (usedL l)).getD k 0).toNat default).rz, i8 (l.getD ((usI (usedL l)).getD k 0).toNat default).lo, i8 (l.getD ((usI (usedL l)).getD k 0).toNat default).hi]]).length : Int) = nowL (usedL l) (k + 1) from (by (rw [← qp]; congr 1; simp; omega))))) <| .n)
set_option maxRecDepth 100000 in
set_option maxHeartbeats 2000000 in
theorem pblock_m_e (l : List Nod) (hl : l.length ≤ 1000) (hw : ∀ n ∈ l, n.w.length ≤ 100000 ∧ n.b.length ≤ 100000) (ho : orderedB l = true) : VT Try.prog (fnC Try.f20 [1, 1, 1, 1, 0, 1, 0, 0]) (pblock_m_I l ((usedL l).length)) (.exit 2) (pblock_m_Z l) := by
  exact VT.run (W := [.r [] [], .br false]) (G := [.any [32], .sort]) (by kernel_rfl) (.c (decide_eq_false (p := ((↑(usedL l).length : Int) < (↑(usedL l).length : Int))) (by omega)) <| .n)
theorem pblock_m (l : List Nod) (hl : l.length ≤ 1000) (hw : ∀ n ∈ l, n.w.length ≤ 100000 ∧ n.b.length ≤ 100000) (ho : orderedB l = true) : VT Try.prog (fnC Try.f20 [1, 1, 1, 1, 0, 1, 0]) (pblock_m_I l 0) (.exit 2) (pblock_m_Z l) :=
  VT.loop (fun k => pblock_m_I l k) ((usedL l).length) (fun k hk => pblock_m_s l hl hw ho k hk) (pblock_m_e l hl hw ho) (by intro h; cases h)
end Go.Proofs.Ytgecmooedhnenaa

/- A node with what its kind tells alone: the law. No condition. -/
namespace Go.Proofs.Ytgecmooedhnenaa
open Go.RowKit
set_option linter.unusedSimpArgs false
set_option linter.unusedVariables false
set_option linter.unnecessarySimpa false

theorem nodEq_false {a b : Nod} (h : (a.kd != b.kd || a.na != b.na || a.nb != b.nb || a.nk != b.nk || a.ns != b.ns || a.np != b.np || a.no != b.no) = true) : false = nodEq a b := by
  symm
  rw [Bool.eq_false_iff]
  intro h'
  have h' := (nodEq_iff _ _).1 h'
  subst h'
  simp at h
theorem nodEq_rest {a b : Nod} (h : (a.kd != b.kd || a.na != b.na || a.nb != b.nb || a.nk != b.nk || a.ns != b.ns || a.np != b.np || a.no != b.no) = false) :
    (a.za == b.za && a.zb == b.zb && a.lo == b.lo && a.hi == b.hi && eqNums [(IntKind.i32, a.qm, b.qm), (IntKind.i64, a.qs, b.qs), (IntKind.i8, a.qz, b.qz)] && eqNums [(IntKind.i32, a.rm, b.rm), (IntKind.i64, a.rs, b.rs), (IntKind.i8, a.rz, b.rz)] && decide (a.w = b.w) && decide (a.b = b.b)) = nodEq a b := by
  simp only [Bool.or_eq_false_iff, bne_eq_false_iff_eq] at h
  obtain ⟨⟨⟨⟨⟨⟨h1, h2⟩, h3⟩, h4⟩, h5⟩, h6⟩, h7⟩ := h
  rw [Bool.eq_iff_iff]
  simp only [nodEq, eqNums, h1, h2, h3, h4, h5, h6, h7, Bool.and_eq_true, decide_eq_true_eq, beq_iff_eq, true_and, and_true]
  constructor
  · rintro ⟨⟨⟨⟨⟨⟨⟨q1, q2⟩, q3⟩, q4⟩, q5⟩, q6⟩, q7⟩, q8⟩; exact ⟨⟨⟨⟨q7, q8⟩, q1, q2, q3, q4⟩, q5⟩, q6⟩
  · rintro ⟨⟨⟨⟨q7, q8⟩, q1, q2, q3, q4⟩, q5⟩, q6⟩; exact ⟨⟨⟨⟨⟨⟨⟨q1, q2⟩, q3⟩, q4⟩, q5⟩, q6⟩, q7⟩, q8⟩
set_option maxRecDepth 100000 in
set_option maxHeartbeats 2000000 in
theorem refSame_v (a b : Nod) (hw : a.w.length ≤ 100000) (hb : a.b.length ≤ 100000) : VC Try.prog 25 ([nod a, nod b]) (bv (nodEq a b)) := by
  rcases Bool.eq_false_or_eq_true (a.kd != b.kd || a.na != b.na || a.nb != b.nb || a.nk != b.nk || a.ns != b.ns || a.np != b.np || a.no != b.no) with hc0 | hc0
  · have gc0 : (((((¬a.kd = b.kd ∨ ¬a.na = b.na) ∨ ¬a.nb = b.nb) ∨ ¬a.nk = b.nk) ∨ ¬a.ns = b.ns) ∨ ¬a.np = b.np) ∨ ¬a.no = b.no := by first | (simp only [Bool.or_eq_true, Bool.or_eq_false_iff, Bool.and_eq_true, Bool.and_eq_false_iff, Bool.not_eq_true', Bool.not_eq_false', decide_eq_true_eq, decide_eq_false_iff_not, beq_iff_eq, bne_iff_ne, ne_eq, beq_eq_false_iff_ne, bne_eq_false_iff_eq, eqNums, Bool.and_true] at hc0; first | exact hc0 | omega) | simpa using hc0 | (simp at hc0 ⊢; omega) | (apply Classical.byContradiction; intro hn; simp_all [eqNums]; done) | (apply Classical.byContradiction; intro hn; simp [eqNums] at hc0 hn; omega)
    exact (VC.run (fn := Try.f25) (W := [.r [] [], .r [] [.op false, .op false, .op false, .op false, .op false, .sel 1, .op false, .op false, .op false, .op false, .op false, .sel 1, .op false, .op false, .op false, .op false, .op false, .sel 1, .op false, .op false, .op false, .op false, .op false, .sel 1, .op false, .op false, .op false, .op false, .op false, .sel 1, .op false, .op false, .op false, .op false, .op false, .sel 1], .br true, .r [] []]) (r := bv false) Try.func25 (by kernel_rfl) (.c hc0 <| .n)).weak (WeakL.refl _) (Weak.bool (show ((false) : Bool) = (nodEq a b) from (by (exact nodEq_false (by assumption)))))
  · have gc0 : (((((a.kd = b.kd ∧ a.na = b.na) ∧ a.nb = b.nb) ∧ a.nk = b.nk) ∧ a.ns = b.ns) ∧ a.np = b.np) ∧ a.no = b.no := by first | (simp only [Bool.or_eq_true, Bool.or_eq_false_iff, Bool.and_eq_true, Bool.and_eq_false_iff, Bool.not_eq_true', Bool.not_eq_false', decide_eq_true_eq, decide_eq_false_iff_not, beq_iff_eq, bne_iff_ne, ne_eq, beq_eq_false_iff_ne, bne_eq_false_iff_eq, eqNums, Bool.and_true] at hc0; first | exact hc0 | omega) | simpa using hc0 | (simp at hc0 ⊢; omega) | (apply Classical.byContradiction; intro hn; simp_all [eqNums]; done) | (apply Classical.byContradiction; intro hn; simp [eqNums] at hc0 hn; omega)
    have oz3 := @rsame8_v (a.w) (b.w) (by omega)
    have oz4 := @rsame32_v (a.b) (b.b) (by omega)
    exact (VC.run (fn := Try.f25) (W := [.r [] [], .r [] [.op false, .op false, .op false, .op false, .op false, .sel 1, .op false, .op false, .op false, .op false, .op false, .sel 1, .op false, .op false, .op false, .op false, .op false, .sel 1, .op false, .op false, .op false, .op false, .op false, .sel 1, .op false, .op false, .op false, .op false, .op false, .sel 1, .op false, .op false, .op false, .op false, .op false, .sel 1], .br false, .r [] [.op false, .op false, .op false, .op false, .op false, .sel 2, .op false, .op false, .op false, .op false, .op false, .sel 2, .op false, .op false, .op false, .op false, .op false, .sel 2, .op false, .op false, .op false, .op false, .op false, .v (Value.bool (eqNums [(IntKind.i32, a.qm, b.qm), (IntKind.i64, a.qs, b.qs), (IntKind.i8, a.qz, b.qz)])), .sel 2, .op false, .op false, .op false, .op false, .op false, .v (Value.bool (eqNums [(IntKind.i32, a.rm, b.rm), (IntKind.i64, a.rs, b.rs), (IntKind.i8, a.rz, b.rz)])), .sel 2, .op false, .op false, .op false, .op false, .op false, .callr (rO oz3), .sel 2, .op false, .op false, .op false, .op false, .op false, .callr (rO oz4), .sel 2]]) (r := bv (a.za == b.za && a.zb == b.zb && a.lo == b.lo && a.hi == b.hi && eqNums [(IntKind.i32, a.qm, b.qm), (IntKind.i64, a.qs, b.qs), (IntKind.i8, a.qz, b.qz)] && eqNums [(IntKind.i32, a.rm, b.rm), (IntKind.i64, a.rs, b.rs), (IntKind.i8, a.rz, b.rz)] && decide (a.w = b.w) && decide (a.b = b.b))) Try.func25 (by kernel_rfl) (.c hc0 <| .c (show BinTo Try.prog BinOp.eql 45 (Operand.tmp 80) (Operand.tmp 82) (Value.agg #[Value.int IntKind.i32 a.qm, Value.int IntKind.i64 a.qs, Value.int IntKind.i8 a.qz]) (Value.agg #[Value.int IntKind.i32 b.qm, Value.int IntKind.i64 b.qs, Value.int IntKind.i8 b.qz]) (Value.bool (eqNums [(IntKind.i32, a.qm, b.qm), (IntKind.i64, a.qs, b.qs), (IntKind.i8, a.qz, b.qz)])) from ((bin_nums (l := [(IntKind.i32, a.qm, b.qm), (IntKind.i64, a.qs, b.qs), (IntKind.i8, a.qz, b.qz)]) (by kernel_rfl) (by kernel_rfl) (by kernel_rfl) (by kernel_rfl) _ _).1)) <| .c (show BinTo Try.prog BinOp.eql 45 (Operand.tmp 87) (Operand.tmp 89) (Value.agg #[Value.int IntKind.i32 a.rm, Value.int IntKind.i64 a.rs, Value.int IntKind.i8 a.rz]) (Value.agg #[Value.int IntKind.i32 b.rm, Value.int IntKind.i64 b.rs, Value.int IntKind.i8 b.rz]) (Value.bool (eqNums [(IntKind.i32, a.rm, b.rm), (IntKind.i64, a.rs, b.rs), (IntKind.i8, a.rz, b.rz)])) from ((bin_nums (l := [(IntKind.i32, a.rm, b.rm), (IntKind.i64, a.rs, b.rs), (IntKind.i8, a.rz, b.rz)]) (by kernel_rfl) (by kernel_rfl) (by kernel_rfl) (by kernel_rfl) _ _).1)) <| .c oz3 <| .c oz4 <| .n)).weak (WeakL.refl _) (Weak.bool (show ((a.za == b.za && a.zb == b.zb && a.lo == b.lo && a.hi == b.hi && eqNums [(IntKind.i32, a.qm, b.qm), (IntKind.i64, a.qs, b.qs), (IntKind.i8, a.qz, b.qz)] && eqNums [(IntKind.i32, a.rm, b.rm), (IntKind.i64, a.rs, b.rs), (IntKind.i8, a.rz, b.rz)] && decide (a.w = b.w) && decide (a.b = b.b)) : Bool) = (nodEq a b) from (by (exact nodEq_rest (by assumption)))))
end Go.Proofs.Ytgecmooedhnenaa

/- Several nodes as one, one time, by the document. No condition. -/
namespace Go.Proofs.Ytgecmooedhnenaa
open Go.RowKit
set_option linter.unusedSimpArgs false
set_option linter.unusedVariables false
set_option linter.unnecessarySimpa false

/-- What lies behind k of those that change nothing. -/
def itV (L : List Nod) (v : Int) : Nat → Int
  | 0 => v
  | k + 1 => (L.getD (itV L v k - 1).toNat default).na
theorem itV_up (L : List Nod) (v : Int) : ∀ k, itV L (L.getD (v - 1).toNat default).na k = itV L v (k + 1)
  | 0 => rfl
  | k + 1 => by rw [itV, itV_up L v k]; rfl
structure PastRun (L : List Nod) (v : Int) (m : Nat) : Prop where
  y : ∀ k, k < m → (decide (itV L v k > 0) && sameN (L.getD (itV L v k - 1).toNat default)) = true
  n : (decide (itV L v m > 0) && sameN (L.getD (itV L v m - 1).toNat default)) = false
  b : ∀ k, k ≤ m → 0 ≤ itV L v k ∧ itV L v k ≤ v
  e : itV L v m = pastV L v
  h : hitT L v = decide (0 < m)
theorem pastK_run {L : List Nod} {K : Nat} (d : Desc L K) : ∀ (f : Nat) (v : Int), v.toNat ≤ f → 0 ≤ v → v ≤ K → ∃ m, (∀ k, k < m → hitT L (itV L v k) = true) ∧ hitT L (itV L v m) = false ∧ (∀ k, k ≤ m → 0 ≤ itV L v k ∧ itV L v k ≤ v) ∧ itV L v m = pastK L f v ∧ hitT L v = decide (0 < m)
  | 0, v, hf, h0, _ => by
    have hn : hitT L v = false := by unfold hitT; rw [decide_eq_false (by omega), Bool.false_and]
    exact ⟨0, fun k hk => by omega, hn, fun k hk => by have : k = 0 := by omega
                                                       subst this; exact ⟨h0, Int.le_refl _⟩, rfl, by rw [hn]; rfl⟩
  | f + 1, v, hf, h0, h1 => by
    by_cases q : 0 < v ∧ sameN (L.getD (v - 1).toNat default) = true
    · have hh : hitT L v = true := by unfold hitT; rw [decide_eq_true q.1, q.2]; rfl
      have dv := d (v - 1).toNat (by omega)
      obtain ⟨m, a1, a2, a3, a4, a5⟩ := pastK_run d f (L.getD (v - 1).toNat default).na (by omega) (by omega) (by omega)
      refine ⟨m + 1, fun k hk => ?_, by rw [← itV_up]; exact a2, fun k hk => ?_, by rw [← itV_up, a4, pastK, if_pos q], by rw [hh]; simp⟩
      · cases k with
        | zero => exact hh
        | succ k => rw [← itV_up]; exact a1 k (by omega)
      · cases k with
        | zero => exact ⟨h0, Int.le_refl _⟩
        | succ k => rw [← itV_up]; have := a3 k (by omega); omega
    · have hn : hitT L v = false := by
        cases e : hitT L v with
        | false => rfl
        | true => unfold hitT at e; simp only [Bool.and_eq_true, decide_eq_true_eq] at e; exact absurd e q
      exact ⟨0, fun k hk => by omega, hn, fun k hk => by have : k = 0 := by omega
                                                         subst this; exact ⟨h0, Int.le_refl _⟩, by rw [pastK, if_neg q]; rfl, by rw [hn]; rfl⟩
theorem past_run {L : List Nod} {K : Nat} (d : Desc L K) {v : Int} (h0 : 0 ≤ v) (h1 : v ≤ K) : ∃ m, PastRun L v m := by
  obtain ⟨m, a1, a2, a3, a4, a5⟩ := pastK_run d v.toNat v (Nat.le_refl _) h0 h1
  exact ⟨m, a1, a2, a3, a4, a5⟩
noncomputable def rpast_l_I (L : List Nod) (v : Int) (m : Nat) (k : Nat) : VS := stt 22 [(0, .sl 19 (L.map nodC)), (1, i64 (itV L v k))] []
noncomputable def rpast_l_Z (L : List Nod) (v : Int) (m : Nat) : VS := rpast_l_I L v m (m)
set_option maxRecDepth 100000 in
set_option maxHeartbeats 2000000 in
theorem rpast_l_s (L : List Nod) (v : Int) (m : Nat) (p : PastRun L v m) (hv : v ≤ L.length) (hl : L.length ≤ 1000) (ok : ∀ n ∈ L, n.Ok) (wl : ∀ n ∈ L, n.w.length ≤ 100000 ∧ n.b.length ≤ 100000) (k : Nat) (hk : k < m) : VT Try.prog (fnC Try.f156 [1, 0, 0, 0]) (rpast_l_I L v m k) .normal (rpast_l_I L v m (k + 1)) := by
  have q := p.y k hk
  have q1 := p.b k (by omega)
  have q2 := fun (h : itV L v k > 0) => getD_in ok (i := (itV L v k - 1).toNat) (by omega)
  have q3 := fun (h : itV L v k > 0) => getD_in wl (i := (itV L v k - 1).toNat) (by omega)
  have q4 : itV L v (k + 1) = (L.getD (itV L v k - 1).toNat default).na := rfl
  have q5 : itV L v k > 0 := by simp only [Bool.and_eq_true, decide_eq_true_eq] at q; exact q.1
  have q6 : sameN (L.getD (itV L v k - 1).toNat default) = true := by simp only [Bool.and_eq_true, decide_eq_true_eq] at q; exact q.2
  have oz0 := (decide_eq_true (p := (itV L v k > 0)) (by omega))
  have oz3 := (IntWalk.i64_in (itV L v k - 1) (by omega))
  have oz5 := (show 0 ≤ itV L v k - 1 by omega)
  have oz6 := (map_at (nodC) (default) (l := L) (i := (itV L v k - 1).toNat) (by omega))
  have oz9 := @rsame52_v (L.getD (itV L v k - 1).toNat default) (by (exact q2 (by omega))) (by omega) (by omega)
  exact VT.run (W := [.r [] [.br true, .br true, .br true, .n (nO oz3), .br true, .row (sO oz6), .br true, .br true, .callr (rO oz9), .br true], .br true, .r [] [.n (nO oz3), .row (sO oz6)]]) (G := [.any (rg [(5, 16)]), .weak 1 (i64 (itV L v (k + 1))), .sort]) (by kernel_rfl) (.c oz0 <| .c oz0 <| .c oz0 <| .c oz3 <| .c oz0 <| .c oz5 <| .c oz6 <| .c oz0 <| .c oz0 <| .c oz9 <| .c oz0 <| .c q6 <| .c oz3 <| .c oz5 <| .c oz6 <| .c (Weak.int (k := .i64) (show (((L.getD (itV L v k - 1).toNat default).na) : Int) = (itV L v (k + 1)) from (by omega))) <| .n)
set_option maxRecDepth 100000 in
set_option maxHeartbeats 2000000 in
theorem rpast_l_e (L : List Nod) (v : Int) (m : Nat) (p : PastRun L v m) (hv : v ≤ L.length) (hl : L.length ≤ 1000) (ok : ∀ n ∈ L, n.Ok) (wl : ∀ n ∈ L, n.w.length ≤ 100000 ∧ n.b.length ≤ 100000) : VT Try.prog (fnC Try.f156 [1, 0, 0, 0]) (rpast_l_I L v m (m)) (.exit 0) (rpast_l_Z L v m) := by
  have q := p.n
  have q6 : itV L v m > 0 → sameN (L.getD (itV L v m - 1).toNat default) = false := fun h => by rw [decide_eq_true h, Bool.true_and] at q; exact q
  have q1 := p.b m (by omega)
  have q2 := fun (h : itV L v m > 0) => getD_in ok (i := (itV L v m - 1).toNat) (by omega)
  have q3 := fun (h : itV L v m > 0) => getD_in wl (i := (itV L v m - 1).toNat) (by omega)
  have oz2 := (show decide (itV L v m > 0) = true → (List.map nodC L)[(itV L v m - 1).toNat]? = some [i64 (L.getD (itV L v m - 1).toNat default).kd, i64 (L.getD (itV L v m - 1).toNat default).na, i64 (L.getD (itV L v m - 1).toNat default).nb, i64 (L.getD (itV L v m - 1).toNat default).nk, i64 (L.getD (itV L v m - 1).toNat default).ns, i64 (L.getD (itV L v m - 1).toNat default).np, i64 (L.getD (itV L v m - 1).toNat default).no, i8 (L.getD (itV L v m - 1).toNat default).za, i8 (L.getD (itV L v m - 1).toNat default).zb, AV.sl 1 (List.map (row1 IntKind.i8) (L.getD (itV L v m - 1).toNat default).w), AV.sl 1 (List.map (row1 IntKind.i32) (L.getD (itV L v m - 1).toNat default).b), i32 (L.getD (itV L v m - 1).toNat default).qm, i64 (L.getD (itV L v m - 1).toNat default).qs, i8 (L.getD (itV L v m - 1).toNat default).qz, i32 (L.getD (itV L v m - 1).toNat default).rm, i64 (L.getD (itV L v m - 1).toNat default).rs, i8 (L.getD (itV L v m - 1).toNat default).rz, i8 (L.getD (itV L v m - 1).toNat default).lo, i8 (L.getD (itV L v m - 1).toNat default).hi] from (fun hc0 => have gc0 : itV L v m > 0 := (by first | exact hc0 | exact of_decide_eq_true hc0 | exact of_decide_eq_false hc0 | simpa [eqNums] using hc0 | (simp [eqNums] at hc0 ⊢; first | done | assumption | omega)); (map_at (nodC) (default) (l := L) (i := (itV L v m - 1).toNat) (by omega))))
  exact VT.run (W := [.r [] [.op false, .op false, .op false, .n (itV L v m - 1), .op true, .row [i64 (L.getD (itV L v m - 1).toNat default).kd, i64 (L.getD (itV L v m - 1).toNat default).na, i64 (L.getD (itV L v m - 1).toNat default).nb, i64 (L.getD (itV L v m - 1).toNat default).nk, i64 (L.getD (itV L v m - 1).toNat default).ns, i64 (L.getD (itV L v m - 1).toNat default).np, i64 (L.getD (itV L v m - 1).toNat default).no, i8 (L.getD (itV L v m - 1).toNat default).za, i8 (L.getD (itV L v m - 1).toNat default).zb, AV.sl 1 (List.map (row1 IntKind.i8) (L.getD (itV L v m - 1).toNat default).w), AV.sl 1 (List.map (row1 IntKind.i32) (L.getD (itV L v m - 1).toNat default).b), i32 (L.getD (itV L v m - 1).toNat default).qm, i64 (L.getD (itV L v m - 1).toNat default).qs, i8 (L.getD (itV L v m - 1).toNat default).qz, i32 (L.getD (itV L v m - 1).toNat default).rm, i64 (L.getD (itV L v m - 1).toNat default).rs, i8 (L.getD (itV L v m - 1).toNat default).rz, i8 (L.getD (itV L v m - 1).toNat default).lo, i8 (L.getD (itV L v m - 1).toNat default).hi], .op false, .op true, .callr (bv (sameN (L.getD (itV L v m - 1).toNat default))), .sel 2], .br false]) (G := [.any (rg [(5, 10)]), .sort]) (by kernel_rfl) (.c (IntWalk.i64_in (itV L v m - 1) (by omega)) <| .c (show decide (itV L v m > 0) = true → 0 ≤ itV L v m - 1 from (fun hc0 => have gc0 : itV L v m > 0 := (by first | exact hc0 | exact of_decide_eq_true hc0 | exact of_decide_eq_false hc0 | simpa [eqNums] using hc0 | (simp [eqNums] at hc0 ⊢; first | done | assumption | omega)); (by omega))) <| .c oz2 <| .c (show decide (itV L v m > 0) = true → VC Try.prog 205 (List.map (fun (x : Operand) => (evV (VS.mk [AV.sl 19 (List.map nodC L), i64 (itV L v m), AV.any, AV.any, AV.any, i64 (itV L v m), bv (decide (itV L v m > 0)), bv (decide (itV L v m > 0)), AV.opt (decide (itV L v m > 0)) 7 true (AV.sl 19 (List.map nodC L)), AV.opt (decide (itV L v m > 0)) 7 true (i64 (itV L v m)), AV.opt (decide (itV L v m > 0)) 7 true (i64 (itV L v m - 1)), AV.opt (decide (itV L v m > 0)) 7 true (AV.ia [i64 (L.getD (itV L v m - 1).toNat default).kd, i64 (L.getD (itV L v m - 1).toNat default).na, i64 (L.getD (itV L v m - 1).toNat default).nb, i64 (L.getD (itV L v m - 1).toNat default).nk, i64 (L.getD (itV L v m - 1).toNat default).ns, i64 (L.getD (itV L v m - 1).toNat default).np, i64 (L.getD (itV L v m - 1).toNat default).no, i8 (L.getD (itV L v m - 1).toNat default).za, i8 (L.getD (itV L v m - 1).toNat default).zb, AV.sl 1 (List.map (row1 IntKind.i8) (L.getD (itV L v m - 1).toNat default).w), AV.sl 1 (List.map (row1 IntKind.i32) (L.getD (itV L v m - 1).toNat default).b), i32 (L.getD (itV L v m - 1).toNat default).qm, i64 (L.getD (itV L v m - 1).toNat default).qs, i8 (L.getD (itV L v m - 1).toNat default).qz, i32 (L.getD (itV L v m - 1).toNat default).rm, i64 (L.getD (itV L v m - 1).toNat default).rs, i8 (L.getD (itV L v m - 1).toNat default).rz, i8 (L.getD (itV L v m - 1).toNat default).lo, i8 (L.getD (itV L v m - 1).toNat default).hi]), AV.opt (decide (itV L v m > 0)) 7 true (AV.agg [i64 (L.getD (itV L v m - 1).toNat default).kd, i64 (L.getD (itV L v m - 1).toNat default).na, i64 (L.getD (itV L v m - 1).toNat default).nb, i64 (L.getD (itV L v m - 1).toNat default).nk, i64 (L.getD (itV L v m - 1).toNat default).ns, i64 (L.getD (itV L v m - 1).toNat default).np, i64 (L.getD (itV L v m - 1).toNat default).no, i8 (L.getD (itV L v m - 1).toNat default).za, i8 (L.getD (itV L v m - 1).toNat default).zb, AV.sl 1 (List.map (row1 IntKind.i8) (L.getD (itV L v m - 1).toNat default).w), AV.sl 1 (List.map (row1 IntKind.i32) (L.getD (itV L v m - 1).toNat default).b), i32 (L.getD (itV L v m - 1).toNat default).qm, i64 (L.getD (itV L v m - 1).toNat default).qs, i8 (L.getD (itV L v m - 1).toNat default).qz, i32 (L.getD (itV L v m - 1).toNat default).rm, i64 (L.getD (itV L v m - 1).toNat default).rs, i8 (L.getD (itV L v m - 1).toNat default).rz, i8 (L.getD (itV L v m - 1).toNat default).lo, i8 (L.getD (itV L v m - 1).toNat default).hi]), AV.any, AV.any, AV.any, AV.any, AV.any, AV.any, AV.any, AV.any, AV.any] []).t x).strip) #[Operand.tmp 12].toList ++ []) (bv (sameN (L.getD (itV L v m - 1).toNat default))) from (fun hc0 => have gc0 : itV L v m > 0 := (by first | exact hc0 | exact of_decide_eq_true hc0 | exact of_decide_eq_false hc0 | simpa [eqNums] using hc0 | (simp [eqNums] at hc0 ⊢; first | done | assumption | omega)); (@rsame52_v (L.getD (itV L v m - 1).toNat default) (by (exact q2 (by omega))) (by omega) (by omega)))) <| .c q <| .n)
theorem rpast_l (L : List Nod) (v : Int) (m : Nat) (p : PastRun L v m) (hv : v ≤ L.length) (hl : L.length ≤ 1000) (ok : ∀ n ∈ L, n.Ok) (wl : ∀ n ∈ L, n.w.length ≤ 100000 ∧ n.b.length ≤ 100000) : VT Try.prog (fnC Try.f156 [1, 0, 0]) (rpast_l_I L v m 0) (.exit 0) (rpast_l_Z L v m) :=
  VT.loop (fun k => rpast_l_I L v m k) (m) (fun k hk => rpast_l_s L v m p hv hl ok wl k hk) (rpast_l_e L v m p hv hl ok wl) (by intro h; cases h)

set_option maxRecDepth 100000 in
set_option maxHeartbeats 2000000 in
theorem rpast_w (L : List Nod) (v : Int) (m : Nat) (p : PastRun L v m) (hv : v ≤ L.length) (hl : L.length ≤ 1000) (ok : ∀ n ∈ L, n.Ok) (wl : ∀ n ∈ L, n.w.length ≤ 100000 ∧ n.b.length ≤ 100000) : VC Try.prog 156 ([.sl 19 (L.map nodC), i64 v]) (i64 (itV L v m)) := by
  have oz0 := @rpast_l (L) (v) (m) p hv hl ok wl
  exact VC.run (fn := Try.f156) (W := [.r [] [], .code [.any [4], .sort] (Exit.exit 0) (zO oz0), .r [] []]) Try.func156 (by kernel_rfl) (.c oz0 <| .n)
theorem rpast_v (L : List Nod) (v : Int) (d : Desc L L.length) (h0 : 0 ≤ v) (hv : v ≤ L.length) (hl : L.length ≤ 1000) (ok : ∀ n ∈ L, n.Ok) (wl : ∀ n ∈ L, n.w.length ≤ 100000 ∧ n.b.length ≤ 100000) : VC Try.prog 156 [.sl 19 (L.map nodC), i64 v] (i64 (pastV L v)) := by
  obtain ⟨m, p⟩ := past_run d h0 hv
  rw [← p.e]; exact rpast_w L v m p hv hl ok wl
end Go.Proofs.Ytgecmooedhnenaa

/- Which nodes are gone through. No condition. -/
namespace Go.Proofs.Ytgecmooedhnenaa
open Go.RowKit
set_option linter.unusedSimpArgs false
set_option linter.unusedVariables false
set_option linter.unnecessarySimpa false

def smallB (n : Nod) : Bool := decide (n.w.length ≤ 1000) && decide (n.b.length ≤ 100)
def fewB (l : List Nod) (d : Nat) : Bool := decide (l.length ≤ 12) && decide (d ≤ 300) && l.all smallB
noncomputable def few_ly_I (l : List Nod) (k : Nat) : VS := stt 37 [(0, .sl 19 (l.map nodC)), (5, i64 k)] []
noncomputable def few_ly_Z (l : List Nod) : VS := few_ly_I l (l.length)
set_option maxRecDepth 100000 in
set_option maxHeartbeats 2000000 in
theorem few_ly_s (l : List Nod) (hl : l.length ≤ 12) (h : ∀ k, k < l.length → smallB (l.getD k default) = true) (k : Nat) (hk : k < l.length) : VT Try.prog (fnC Try.f13 [1, 1, 0, 1, 0, 0]) (few_ly_I l k) .normal (few_ly_I l (k + 1)) := by
  have q := h k hk
  simp only [smallB, Bool.and_eq_true, decide_eq_true_eq] at q
  obtain ⟨q1, q2⟩ := q
  have oz1 := (show 0 ≤ (↑k : Int) by omega)
  have oz2 := (map_at (nodC) (default) (l := l) (i := k) hk)
  exact VT.run (W := [.r [] [], .br true, .r [] [.row (sO oz2), .op false, .op false, .op false, .row (sO oz2), .op false, .op false, .op false, .op false, .sel 1], .br false, .r [] [.n ((↑k : Int) + 1)]]) (G := [.any (rg [(15, 14), (36, 1)]), .weak 5 (i64 (↑(k + 1) : Int)), .sort]) (by kernel_rfl) (.c (show decide ((↑k : Int) < (↑(List.map nodC l).length : Int)) = true by (simp; omega)) <| .c oz1 <| .c oz2 <| .c oz1 <| .c oz2 <| .c (show (decide ((↑(List.map (row1 IntKind.i8) (l.getD k default).w).length : Int) > 1000) || decide ((↑(List.map (row1 IntKind.i32) (l.getD k default).b).length : Int) > 100)) = false by (simp at *; omega)) <| .c (IntWalk.i64_in ((↑k : Int) + 1) (by omega)) <| .c (Weak.int (k := .i64) (show (((↑k : Int) + 1) : Int) = ((↑(k + 1) : Int)) from (by omega))) <| .n)
set_option maxRecDepth 100000 in
set_option maxHeartbeats 2000000 in
theorem few_ly_e (l : List Nod) (hl : l.length ≤ 12) (h : ∀ k, k < l.length → smallB (l.getD k default) = true) : VT Try.prog (fnC Try.f13 [1, 1, 0, 1, 0, 0]) (few_ly_I l (l.length)) (.exit 0) (few_ly_Z l) := by
  exact VT.run (W := [.r [] [], .br false]) (G := [.any (rg [(15, 4)]), .sort]) (by kernel_rfl) (.c (show decide ((↑l.length : Int) < (↑(List.map nodC l).length : Int)) = false by (simp; done)) <| .n)
theorem few_ly (l : List Nod) (hl : l.length ≤ 12) (h : ∀ k, k < l.length → smallB (l.getD k default) = true) : VT Try.prog (fnC Try.f13 [1, 1, 0, 1, 0]) (few_ly_I l 0) (.exit 0) (few_ly_Z l) :=
  VT.loop (fun k => few_ly_I l k) (l.length) (fun k hk => few_ly_s l hl h k hk) (few_ly_e l hl h) (by intro h; cases h)

noncomputable def few_ln_I (l : List Nod) (m : Nat) (k : Nat) : VS := stt 37 [(0, .sl 19 (l.map nodC)), (5, i64 k)] []
noncomputable def few_ln_Z (l : List Nod) (m : Nat) : VS := stt 37 [(4, bv false)] []
set_option maxRecDepth 100000 in
set_option maxHeartbeats 2000000 in
theorem few_ln_s (l : List Nod) (m : Nat) (hl : l.length ≤ 12) (hm : m < l.length) (hf : smallB (l.getD m default) = false) (h : ∀ k, k < m → smallB (l.getD k default) = true) (k : Nat) (hk : k < m) : VT Try.prog (fnC Try.f13 [1, 1, 0, 1, 0, 0]) (few_ln_I l m k) .normal (few_ln_I l m (k + 1)) := by
  have q := h k hk
  simp only [smallB, Bool.and_eq_true, decide_eq_true_eq] at q
  obtain ⟨q1, q2⟩ := q
  have oz1 := (show 0 ≤ (↑k : Int) by omega)
  have oz2 := (map_at (nodC) (default) (l := l) (i := k) (by omega))
  exact VT.run (W := [.r [] [], .br true, .r [] [.row (sO oz2), .op false, .op false, .op false, .row (sO oz2), .op false, .op false, .op false, .op false, .sel 1], .br false, .r [] [.n ((↑k : Int) + 1)]]) (G := [.any (rg [(15, 14), (36, 1)]), .weak 5 (i64 (↑(k + 1) : Int)), .sort]) (by kernel_rfl) (.c (show decide ((↑k : Int) < (↑(List.map nodC l).length : Int)) = true by (simp; omega)) <| .c oz1 <| .c oz2 <| .c oz1 <| .c oz2 <| .c (show (decide ((↑(List.map (row1 IntKind.i8) (l.getD k default).w).length : Int) > 1000) || decide ((↑(List.map (row1 IntKind.i32) (l.getD k default).b).length : Int) > 100)) = false by (simp at *; omega)) <| .c (IntWalk.i64_in ((↑k : Int) + 1) (by omega)) <| .c (Weak.int (k := .i64) (show (((↑k : Int) + 1) : Int) = ((↑(k + 1) : Int)) from (by omega))) <| .n)
set_option maxRecDepth 100000 in
set_option maxHeartbeats 2000000 in
theorem few_ln_e (l : List Nod) (m : Nat) (hl : l.length ≤ 12) (hm : m < l.length) (hf : smallB (l.getD m default) = false) (h : ∀ k, k < m → smallB (l.getD k default) = true) : VT Try.prog (fnC Try.f13 [1, 1, 0, 1, 0, 0]) (few_ln_I l m (m)) (.ret) (few_ln_Z l m) := by
  simp only [smallB, Bool.and_eq_false_iff, decide_eq_false_iff_not] at hf
  have oz1 := (show 0 ≤ (↑m : Int) by omega)
  have oz2 := (map_at (nodC) (default) (l := l) (i := m) hm)
  exact VT.run (W := [.r [] [], .br true, .r [] [.row (sO oz2), .op false, .op false, .op false, .row (sO oz2), .op false, .op false, .op false, .op false, .sel 1], .br true, .r [] []]) (G := [.any (rg [(0, 1), (5, 1), (15, 4), (21, 8), (36, 1)]), .sort]) (by kernel_rfl) (.c (show decide ((↑m : Int) < (↑(List.map nodC l).length : Int)) = true by (simp; omega)) <| .c oz1 <| .c oz2 <| .c oz1 <| .c oz2 <| .c (show (decide ((↑(List.map (row1 IntKind.i8) (l.getD m default).w).length : Int) > 1000) || decide ((↑(List.map (row1 IntKind.i32) (l.getD m default).b).length : Int) > 100)) = true by (simp at *; omega)) <| .n)
theorem few_ln (l : List Nod) (m : Nat) (hl : l.length ≤ 12) (hm : m < l.length) (hf : smallB (l.getD m default) = false) (h : ∀ k, k < m → smallB (l.getD k default) = true) : VT Try.prog (fnC Try.f13 [1, 1, 0, 1, 0]) (few_ln_I l m 0) (.ret) (few_ln_Z l m) :=
  VT.loop (fun k => few_ln_I l m k) (m) (fun k hk => few_ln_s l m hl hm hf h k hk) (few_ln_e l m hl hm hf h) (by intro h; cases h)

set_option maxRecDepth 100000 in
set_option maxHeartbeats 2000000 in
theorem few_a (l : List Nod) (T : Ten) (h : 12 < l.length ∨ 300 < T.d.length) : VC Try.prog 13 ([.sl 19 (l.map nodC), ten .i8 T]) (bv false) := by
  exact VC.run (fn := Try.f13) (W := [.r [] [], .r [] [.op false, .op false, .op false, .op false, .sel 1], .br true, .r [] []]) Try.func13 (by kernel_rfl) (.c (show (decide ((↑(List.map nodC l).length : Int) > 12) || decide ((↑(List.map (row1 IntKind.i8) T.d).length : Int) > 300)) = true by (simp; omega)) <| .n)

set_option maxRecDepth 100000 in
set_option maxHeartbeats 2000000 in
theorem few_y (l : List Nod) (T : Ten) (hl : l.length ≤ 12) (hd : T.d.length ≤ 300) (h : ∀ k, k < l.length → smallB (l.getD k default) = true) : VC Try.prog 13 ([.sl 19 (l.map nodC), ten .i8 T]) (bv true) := by
  have oz2 := @few_ly (l) hl h
  exact VC.run (fn := Try.f13) (W := [.r [] [], .r [] [.op false, .op false, .op false, .op false, .sel 1], .br false, .r [] [], .code [.any [1, 3, 4, 6, 7, 8, 9, 14], .drop [3], .weak 5 (i64 (↑0 : Int)), .sort] (Exit.exit 0) (zO oz2), .r [] []]) Try.func13 (by kernel_rfl) (.c (show (decide ((↑(List.map nodC l).length : Int) > 12) || decide ((↑(List.map (row1 IntKind.i8) T.d).length : Int) > 300)) = false by (simp; omega)) <| .c (Weak.int (k := .i64) (show ((0) : Int) = ((↑0 : Int)) from (by omega))) <| .c oz2 <| .n)

set_option maxRecDepth 100000 in
set_option maxHeartbeats 2000000 in
theorem few_n (l : List Nod) (T : Ten) (m : Nat) (hl : l.length ≤ 12) (hd : T.d.length ≤ 300) (hm : m < l.length) (hf : smallB (l.getD m default) = false) (h : ∀ k, k < m → smallB (l.getD k default) = true) : VC Try.prog 13 ([.sl 19 (l.map nodC), ten .i8 T]) (bv false) := by
  have oz2 := @few_ln (l) (m) hl hm hf h
  exact VC.run (fn := Try.f13) (W := [.r [] [], .r [] [.op false, .op false, .op false, .op false, .sel 1], .br false, .r [] [], .code [.any [1, 3, 4, 6, 7, 8, 9, 14], .drop [3], .weak 5 (i64 (↑0 : Int)), .sort] (Exit.ret) (zO oz2)]) Try.func13 (by kernel_rfl) (.c (show (decide ((↑(List.map nodC l).length : Int) > 12) || decide ((↑(List.map (row1 IntKind.i8) T.d).length : Int) > 300)) = false by (simp; omega)) <| .c (Weak.int (k := .i64) (show ((0) : Int) = ((↑0 : Int)) from (by omega))) <| .c oz2 <| .n)
theorem few_v (l : List Nod) (T : Ten) : VC Try.prog 13 [.sl 19 (l.map nodC), ten .i8 T] (bv (fewB l T.d.length)) := by
  unfold fewB
  by_cases h1 : l.length ≤ 12
  · by_cases h2 : T.d.length ≤ 300
    · rw [decide_eq_true h1, decide_eq_true h2]
      rcases all_or (fun k => smallB (l.getD k default)) l.length with h | ⟨m, g1, g2, g3⟩
      · rw [all_getD.2 h]; exact few_y l T h1 h2 h
      · have : l.all smallB = false := by
          cases e : l.all smallB with
          | false => rfl
          | true => have := all_getD.1 e m g1; exact absurd (this.symm.trans g2) (by simp)
        rw [this]; exact few_n l T m h1 h2 g1 g2 g3
    · rw [decide_eq_false h2, Bool.and_false, Bool.false_and]; exact few_a l T (.inr (by omega))
  · rw [decide_eq_false h1, Bool.false_and, Bool.false_and]; exact few_a l T (.inl (by omega))
theorem few_0 (l : List Nod) : VC Try.prog 13 [.sl 19 (l.map nodC), .agg [i64 0, i64 0, i64 0, .sl 1 []]] (bv (fewB l 0)) := few_v l ⟨0, 0, 0, []⟩
theorem few_facts {l : List Nod} {d : Nat} (h : fewB l d = true) : l.length ≤ 12 ∧ d ≤ 300 ∧ ∀ n ∈ l, n.w.length ≤ 1000 ∧ n.b.length ≤ 100 := by
  simp only [fewB, Bool.and_eq_true, decide_eq_true_eq, List.all_eq_true, smallB] at h
  exact ⟨h.1.1, h.1.2, fun n hn => h.2 n hn⟩
theorem few_wide {l : List Nod} {d : Nat} (h : fewB l d = true) : ∀ n ∈ l, n.w.length ≤ 100000 ∧ n.b.length ≤ 100000 := fun n hn => by
  have := (few_facts h).2.2 n hn; omega
end Go.Proofs.Ytgecmooedhnenaa

/- The statement PruneUsed: which nodes are used, and what is left of them. No condition. -/
namespace Go.Proofs.Ytgecmooedhnenaa
open Go.RowKit
set_option linter.unusedSimpArgs false
set_option linter.unusedVariables false
set_option linter.unnecessarySimpa false

/-- The places of the used nodes; none, if they are in no order. -/
def usedE (l : List Nod) : List Int := if orderedB l = true then usI (usedL l) else []
theorem pused_v (l : List Nod) (hl : l.length ≤ 1000) : VC Try.prog 23 [.sl 19 (l.map nodC)] (ints .i64 (usedE l)) := by
  unfold usedE
  by_cases h0 : l.length = 0
  · have : l = [] := List.eq_nil_of_length_eq_zero h0
    subst this
    exact pused_n [] hl (.inl rfl)
  · cases e : orderedB l with
    | true => rw [if_pos rfl]; exact pused_y l hl h0 e
    | false => rw [if_neg (by simp)]; exact pused_n l hl (.inr e)
theorem nodEq_self (n : Nod) : nodEq n n = true := (nodEq_iff _ _).2 rfl
set_option maxRecDepth 100000 in
set_option maxHeartbeats 2000000 in
theorem kindsSame_v (n : Nod) (hw : n.w.length ≤ 100000) (hb : n.b.length ≤ 100000) : VC Try.prog 25 ([nod n, nod n]) (bv true) := by
  have q := nodEq_self n
  have oz1 := (show (n.za == n.za) = true by (refine decide_eq_true ?_; omega))
  have oz7 := (show (n.zb == n.zb) = true by (refine decide_eq_true ?_; omega))
  have oz13 := (show (n.lo == n.lo) = true by (refine decide_eq_true ?_; omega))
  have oz19 := (show (n.hi == n.hi) = true by (refine decide_eq_true ?_; omega))
  have oz27 := @rsame8_v (n.w) (n.w) (by omega)
  have oz28 := @rsame32_v (n.b) (n.b) (by omega)
  exact (VC.run (fn := Try.f25) (W := [.r [] [], .r [] [.op false, .op false, .op false, .op false, .op false, .sel 1, .op false, .op false, .op false, .op false, .op false, .sel 1, .op false, .op false, .op false, .op false, .op false, .sel 1, .op false, .op false, .op false, .op false, .op false, .sel 1, .op false, .op false, .op false, .op false, .op false, .sel 1, .op false, .op false, .op false, .op false, .op false, .sel 1], .br false, .r [] [.br true, .br true, .br true, .br true, .br true, .br true, .br true, .br true, .br true, .br true, .br true, .br true, .br true, .br true, .br true, .br true, .br true, .br true, .br true, .br true, .br true, .br true, .br true, .v (Value.bool (eqNums [(IntKind.i32, n.qm, n.qm), (IntKind.i64, n.qs, n.qs), (IntKind.i8, n.qz, n.qz)])), .br true, .op false, .op false, .op false, .op false, .op false, .v (Value.bool (eqNums [(IntKind.i32, n.rm, n.rm), (IntKind.i64, n.rs, n.rs), (IntKind.i8, n.rz, n.rz)])), .sel 2, .op false, .op false, .op false, .op false, .op false, .callr (rO oz27), .sel 2, .op false, .op false, .op false, .op false, .op false, .callr (rO oz28), .sel 2]]) (r := bv (eqNums [(IntKind.i32, n.qm, n.qm), (IntKind.i64, n.qs, n.qs), (IntKind.i8, n.qz, n.qz)] && eqNums [(IntKind.i32, n.rm, n.rm), (IntKind.i64, n.rs, n.rs), (IntKind.i8, n.rz, n.rz)] && decide (n.w = n.w) && decide (n.b = n.b))) Try.func25 (by kernel_rfl) (.c (show (n.kd != n.kd || n.na != n.na || n.nb != n.nb || n.nk != n.nk || n.ns != n.ns || n.np != n.np || n.no != n.no) = false by (simp; done)) <| .c oz1 <| .c oz1 <| .c oz1 <| .c oz1 <| .c oz1 <| .c oz1 <| .c oz7 <| .c oz7 <| .c oz7 <| .c oz7 <| .c oz7 <| .c oz7 <| .c oz13 <| .c oz13 <| .c oz13 <| .c oz13 <| .c oz13 <| .c oz13 <| .c oz19 <| .c oz19 <| .c oz19 <| .c oz19 <| .c oz19 <| .c (show BinTo Try.prog BinOp.eql 45 (Operand.tmp 80) (Operand.tmp 82) (Value.agg #[Value.int IntKind.i32 n.qm, Value.int IntKind.i64 n.qs, Value.int IntKind.i8 n.qz]) (Value.agg #[Value.int IntKind.i32 n.qm, Value.int IntKind.i64 n.qs, Value.int IntKind.i8 n.qz]) (Value.bool (eqNums [(IntKind.i32, n.qm, n.qm), (IntKind.i64, n.qs, n.qs), (IntKind.i8, n.qz, n.qz)])) from ((bin_nums (l := [(IntKind.i32, n.qm, n.qm), (IntKind.i64, n.qs, n.qs), (IntKind.i8, n.qz, n.qz)]) (by kernel_rfl) (by kernel_rfl) (by kernel_rfl) (by kernel_rfl) _ _).1)) <| .c oz19 <| .c (show BinTo Try.prog BinOp.eql 45 (Operand.tmp 87) (Operand.tmp 89) (Value.agg #[Value.int IntKind.i32 n.rm, Value.int IntKind.i64 n.rs, Value.int IntKind.i8 n.rz]) (Value.agg #[Value.int IntKind.i32 n.rm, Value.int IntKind.i64 n.rs, Value.int IntKind.i8 n.rz]) (Value.bool (eqNums [(IntKind.i32, n.rm, n.rm), (IntKind.i64, n.rs, n.rs), (IntKind.i8, n.rz, n.rz)])) from ((bin_nums (l := [(IntKind.i32, n.rm, n.rm), (IntKind.i64, n.rs, n.rs), (IntKind.i8, n.rz, n.rz)]) (by kernel_rfl) (by kernel_rfl) (by kernel_rfl) (by kernel_rfl) _ _).1)) <| .c oz27 <| .c oz28 <| .n)).weak (WeakL.refl _) (Weak.bool (show ((eqNums [(IntKind.i32, n.qm, n.qm), (IntKind.i64, n.qs, n.qs), (IntKind.i8, n.qz, n.qz)] && eqNums [(IntKind.i32, n.rm, n.rm), (IntKind.i64, n.rs, n.rs), (IntKind.i8, n.rz, n.rz)] && decide (n.w = n.w) && decide (n.b = n.b)) : Bool) = (true) from (by (simp [eqNums]))))
end Go.Proofs.Ytgecmooedhnenaa

/- The shapes of all values of a block, by the program and by the document. No condition. -/
namespace Go.Proofs.Ytgecmooedhnenaa
open Go.RowKit
set_option linter.unusedSimpArgs false
set_option linter.unusedVariables false
set_option linter.unnecessarySimpa false

def Shp.Rt (s : Shp) : Prop := 0 < elems s.h s.x s.c
abbrev zsh : Shp := ⟨0, 0, 0⟩
theorem zsh_ok : zsh.Ok := by constructor <;> exact ⟨by decide, by decide⟩
theorem Shp.Rt.ok {s : Shp} (h : s.Rt) : s.Ok := by
  have := elems_ok h
  exact ⟨⟨by omega, by omega⟩, ⟨by omega, by omega⟩, ⟨by omega, by omega⟩⟩
/-- Either all is right, or nothing is there. -/
def Told (r : Shp × Int) : Prop := (r.2 = 0 ∧ r.1.Rt) ∨ (r.2 ≠ 0 ∧ r.1 = zsh)
theorem slideE_told (t : Shp) (k s p o : Int) : Told (slideE t k s p o) := by
  unfold slideE
  split
  · exact .inr ⟨by dsimp only; decide, rfl⟩
  · split
    · exact .inr ⟨by assumption, rfl⟩
    · split
      · exact .inr ⟨by assumption, rfl⟩
      · split
        · exact .inr ⟨by dsimp only; decide, rfl⟩
        · rename_i h; exact .inl ⟨rfl, Classical.not_not.1 h⟩
theorem convE_told (t : Shp) (n : Nod) : Told (convE t n) := by
  have q := slideE_told t n.nk n.ns n.np n.no
  unfold convE
  split
  · exact .inr ⟨by assumption, rfl⟩
  · split
    · exact .inr ⟨by dsimp only; decide, rfl⟩
    · rcases q with q | q
      · exact .inl ⟨rfl, q.2⟩
      · exact absurd q.1 (by assumption)
theorem depthE_told (t : Shp) (n : Nod) : Told (depthE t n) := by
  have q := slideE_told t n.nk n.ns n.np t.c
  unfold depthE
  split
  · exact .inr ⟨by assumption, rfl⟩
  · split
    · exact .inr ⟨by dsimp only; decide, rfl⟩
    · rcases q with q | q
      · exact .inl ⟨rfl, q.2⟩
      · exact absurd q.1 (by assumption)
theorem denseE_told (t : Shp) (n : Nod) : Told (denseE t n) := by
  unfold denseE
  split
  · exact .inr ⟨by dsimp only; decide, rfl⟩
  · split
    · exact .inr ⟨by dsimp only; decide, rfl⟩
    · rename_i h _
      have := elems_in 1 1 n.no
      exact .inl ⟨rfl, by unfold Shp.Rt; dsimp only; omega⟩
theorem aroundE_told (a : Shp) (p : Int) : Told (aroundE a p) := by
  unfold aroundE
  split
  · exact .inr ⟨by dsimp only; decide, rfl⟩
  · split
    · exact .inr ⟨by dsimp only; decide, rfl⟩
    · have := elems_in (a.h + 2 * p) (a.x + 2 * p) a.c
      exact .inl ⟨rfl, by unfold Shp.Rt; dsimp only; omega⟩
theorem flat_rt {n : Int} (h0 : 0 < n) (h : n ≤ 1024) : 0 < elems 1 1 n := by
  unfold elems; rw [if_pos (by omega)]; omega
theorem shapeE_told (n : Nod) (a b : Shp) : Told (shapeE n a b) := by
  unfold shapeE
  split
  · exact convE_told a n
  · split
    · exact depthE_told a n
    · split
      · exact denseE_told a n
      · split
        · exact slideE_told a n.nk n.ns n.np a.c
        · split
          · exact .inr ⟨by dsimp only; decide, rfl⟩
          · split
            · exact .inr ⟨by dsimp only; decide, rfl⟩
            · rename_i h
              have q := elems_in a.h a.x a.c
              split
              · exact (.inl ⟨rfl, show 0 < elems 1 1 (elems a.h a.x a.c) from flat_rt (by omega) q.2⟩)
              · split
                · exact aroundE_told a n.np
                · exact .inl ⟨rfl, by unfold Shp.Rt; dsimp only; omega⟩
theorem nextE_told (n : Nod) (L : List Shp) : Told (nextE n L) := by
  unfold nextE
  split
  · exact .inr ⟨by assumption, rfl⟩
  · split
    · exact shapeE_told _ _ _
    · exact .inr ⟨by dsimp only; decide, rfl⟩
theorem Told.ok {r : Shp × Int} (h : Told r) : r.1.Ok := by
  rcases h with h | h
  · exact h.2.ok
  · rw [h.2]; exact zsh_ok
/-- All values of a block have shapes. -/
structure SOK (l : List Nod) (a : Shp) : Prop where
  i : a.Rt
  e : 0 < l.length
  f : l.length ≤ 8
  k : ∀ k, k < l.length → errL nextE l a k = 0
def shapesB (l : List Nod) (a : Shp) : Nat → Bool := fun k => errL nextE l a k == 0
/-- Where all ends, and what is wrong there. -/
def shapesE (l : List Nod) (a : Shp) : Int × Int :=
  if ¬ 0 < elems a.h a.x a.c then (-1, 5) else if l.length = 0 then (-1, 12) else if 8 < l.length then (-1, 4)
  else if firstBad (shapesB l a) l.length < l.length then (firstBad (shapesB l a) l.length, errL nextE l a (firstBad (shapesB l a) l.length)) else (l.length, 0)
theorem shapesE_at {l : List Nod} {a : Shp} {m : Nat} (i : a.Rt) (e : 0 < l.length) (f : l.length ≤ 8) (hm : m < l.length) (hf : errL nextE l a m ≠ 0) (h : ∀ k, k < m → errL nextE l a k = 0) : shapesE l a = ((m : Int), errL nextE l a m) := by
  unfold Shp.Rt at i
  have := firstBad_at (p := shapesB l a) (m := m) (by simpa [shapesB] using hf) (fun k hk => by simpa [shapesB] using h k hk) hm
  unfold shapesE
  rw [if_neg (by omega), if_neg (by omega), if_neg (by omega), this, if_pos hm]
theorem SOK.cases (l : List Nod) (a : Shp) : SOK l a ∨ ¬ a.Rt ∨ l.length = 0 ∨ 8 < l.length ∨ (a.Rt ∧ 0 < l.length ∧ l.length ≤ 8 ∧ ∃ m, m < l.length ∧ errL nextE l a m ≠ 0 ∧ ∀ k, k < m → errL nextE l a k = 0) := by
  by_cases i : a.Rt
  · by_cases e : 0 < l.length
    · by_cases f : l.length ≤ 8
      · rcases all_or (shapesB l a) l.length with h | ⟨m, h1, h2, h3⟩
        · exact .inl ⟨i, e, f, fun k hk => by simpa [shapesB] using h k hk⟩
        · exact .inr (.inr (.inr (.inr ⟨i, e, f, m, h1, by simpa [shapesB] using h2, fun k hk => by simpa [shapesB] using h3 k hk⟩)))
      · exact .inr (.inr (.inr (.inl (by omega))))
    · exact .inr (.inr (.inl (by omega)))
  · exact .inr (.inl i)
theorem shapesE_n {l : List Nod} {a : Shp} (h : ¬ SOK l a) : (shapesE l a).2 ≠ 0 := by
  rcases SOK.cases l a with q | q | q | q | ⟨i, e, f, m, h1, h2, h3⟩
  · exact absurd q h
  · have e : shapesE l a = (-1, 5) := by unfold shapesE; exact if_pos q
    rw [e]; decide
  · unfold shapesE
    by_cases c1 : ¬ 0 < elems a.h a.x a.c
    · rw [if_pos c1]; dsimp only; decide
    · rw [if_neg c1, if_pos q]; dsimp only; decide
  · unfold shapesE
    by_cases c1 : ¬ 0 < elems a.h a.x a.c
    · rw [if_pos c1]; dsimp only; decide
    · rw [if_neg c1, if_neg (by omega), if_pos q]; dsimp only; decide
  · rw [shapesE_at i e f h1 h2 h3]; exact h2
theorem grow_ok {l : List Nod} {a : Shp} (i : a.Ok) (k : Nat) : ∀ s ∈ growL nextE l a k, s.Ok :=
  growL_all (n := k) i (fun j _ _ => (nextE_told _ _).ok) k (Nat.le_refl _)
noncomputable def shapes_ly_I (l : List Nod) (a : Shp) (k : Nat) : VS := stt 51 [(0, .sl 19 (l.map nodC)), (7, .own 900), (26, .sl 19 (l.map nodC)), (27, i64 l.length), (28, i64 k)] [(900, .slc 24 3 ((growL nextE l a k).map shpC))]
noncomputable def shapes_ly_Z (l : List Nod) (a : Shp) : VS := shapes_ly_I l a (l.length)
set_option maxRecDepth 100000 in
set_option maxHeartbeats 2000000 in
theorem shapes_ly_s (l : List Nod) (a : Shp) (okl : ∀ n ∈ l, n.Ok) (wl : ∀ n ∈ l, n.w.length ≤ 100000 ∧ n.b.length ≤ 100000) (i : a.Ok) (f8 : l.length ≤ 8) (h : ∀ k, k < l.length → errL nextE l a k = 0) (k : Nat) (hk : k < l.length) : VT Try.prog (fnC Try.f91 [1, 1, 1, 0, 1, 0, 0]) (shapes_ly_I l a k) .normal (shapes_ly_I l a (k + 1)) := by
  have q := h k hk
  have q1 := growL_len nextE l a k
  have q2 := grow_ok (l := l) i k
  have q3 := getD_in okl hk
  have q4 := getD_in wl hk
  obtain ⟨q5, q6⟩ := q4
  unfold errL at q
  have oz2 := (map_at (nodC) (default) (l := l) (i := k) hk)
  have oz3 := @next_v (l.getD k default) (growL nextE l a k) q3 q2 (by omega) q5 q6
  exact VT.run (W := [.r [] [], .br true, .r [] [.row (sO oz2)], .r [] [.callr (rO oz3)], .r [] [], .br false, .r [] [], .r [] [.n ((↑k : Int) + 1)]]) (G := [.any (rg [(8, 4), (29, 12), (43, 5)]), .drop [9, 10, 45], .ren 46 900, .weak 28 (i64 (↑(k + 1) : Int)), .blk 900 (Blk.slc 24 3 (List.map shpC (growL nextE l a (k + 1)))), .sort]) (by kernel_rfl) (.c (decide_eq_true (p := ((↑k : Int) < (↑l.length : Int))) (by omega)) <| .c (show 0 ≤ (↑k : Int) by omega) <| .c oz2 <| .c oz3 <| .c (show ((nextE (l.getD k default) (growL nextE l a k)).snd != 0) = false by (simp at *; omega)) <| .c (show ((List.map shpC (growL nextE l a k)).length + 1) * 24 ≤ 140737488355328 by (simp; omega)) <| .c (show (List.map shpC (growL nextE l a k)).length + 1 ≤ 9223372036854775807 by (simp; omega)) <| .c (IntWalk.i64_in ((↑k : Int) + 1) (by omega)) <| .c (Weak.int (k := .i64) (show (((↑k : Int) + 1) : Int) = ((↑(k + 1) : Int)) from (by omega))) <| .c (show BlkW (Blk.slc 24 3 (List.map shpC (growL nextE l a k) ++ [[i64 (nextE (l.getD k default) (growL nextE l a k)).fst.h, i64 (nextE (l.getD k default) (growL nextE l a k)).fst.x, i64 (nextE (l.getD k default) (growL nextE l a k)).fst.c]])) (Blk.slc 24 3 (List.map shpC (growL nextE l a (k + 1)))) from (BlkW.rows (rows_to (shpC) (r := List.map shpC (growL nextE l a k) ++ [[i64 (nextE (l.getD k default) (growL nextE l a k)).fst.h, i64 (nextE (l.getD k default) (growL nextE l a k)).fst.x, i64 (nextE (l.getD k default) (growL nextE l a k)).fst.c]]) (l := growL nextE l a k ++ [Shp.mk (nextE (l.getD k default) (growL nextE l a k)).fst.h (nextE (l.getD k default) (growL nextE l a k)).fst.x (nextE (l.getD k default) (growL nextE l a k)).fst.c]) (m := growL nextE l a (k + 1)) (by first | (simp only [List.map_append, List.map_cons, List.map_nil, List.map_set, List.map_replicate, List.map_take, List.map_drop]; done) | rfl | (simp only [List.map_append, List.map_cons, List.map_nil, List.map_set, List.map_replicate, List.map_take, List.map_drop]; rfl) | (simp only [List.map_append, List.map_cons, List.map_nil, List.map_set, List.map_replicate, List.map_take, List.map_drop, shpC, ints]; done)) (show (growL nextE l a k ++ [Shp.mk (nextE (l.getD k default) (growL nextE l a k)).fst.h (nextE (l.getD k default) (growL nextE l a k)).fst.x (nextE (l.getD k default) (growL nextE l a k)).fst.c]) = (growL nextE l a (k + 1)) from (by rfl))))) <| .n)
set_option maxRecDepth 100000 in
set_option maxHeartbeats 2000000 in
theorem shapes_ly_e (l : List Nod) (a : Shp) (okl : ∀ n ∈ l, n.Ok) (wl : ∀ n ∈ l, n.w.length ≤ 100000 ∧ n.b.length ≤ 100000) (i : a.Ok) (f8 : l.length ≤ 8) (h : ∀ k, k < l.length → errL nextE l a k = 0) : VT Try.prog (fnC Try.f91 [1, 1, 1, 0, 1, 0, 0]) (shapes_ly_I l a (l.length)) (.exit 1) (shapes_ly_Z l a) := by
  exact VT.run (W := [.r [] [], .br false]) (G := [.any [29], .sort]) (by kernel_rfl) (.c (decide_eq_false (p := ((↑l.length : Int) < (↑l.length : Int))) (by omega)) <| .n)
theorem shapes_ly (l : List Nod) (a : Shp) (okl : ∀ n ∈ l, n.Ok) (wl : ∀ n ∈ l, n.w.length ≤ 100000 ∧ n.b.length ≤ 100000) (i : a.Ok) (f8 : l.length ≤ 8) (h : ∀ k, k < l.length → errL nextE l a k = 0) : VT Try.prog (fnC Try.f91 [1, 1, 1, 0, 1, 0]) (shapes_ly_I l a 0) (.exit 1) (shapes_ly_Z l a) :=
  VT.loop (fun k => shapes_ly_I l a k) (l.length) (fun k hk => shapes_ly_s l a okl wl i f8 h k hk) (shapes_ly_e l a okl wl i f8 h) (by intro h; cases h)

noncomputable def shapes_ln_I (l : List Nod) (a : Shp) (m : Nat) (k : Nat) : VS := stt 51 [(0, .sl 19 (l.map nodC)), (7, .own 900), (26, .sl 19 (l.map nodC)), (27, i64 l.length), (28, i64 k)] [(900, .slc 24 3 ((growL nextE l a k).map shpC))]
noncomputable def shapes_ln_Z (l : List Nod) (a : Shp) (m : Nat) : VS := stt 51 [(4, nilv), (5, i64 m), (6, i64 (errL nextE l a m))] []
set_option maxRecDepth 100000 in
set_option maxHeartbeats 2000000 in
theorem shapes_ln_s (l : List Nod) (a : Shp) (m : Nat) (okl : ∀ n ∈ l, n.Ok) (wl : ∀ n ∈ l, n.w.length ≤ 100000 ∧ n.b.length ≤ 100000) (i : a.Ok) (f8 : l.length ≤ 8) (hm : m < l.length) (hf : errL nextE l a m ≠ 0) (h : ∀ k, k < m → errL nextE l a k = 0) (k : Nat) (hk : k < m) : VT Try.prog (fnC Try.f91 [1, 1, 1, 0, 1, 0, 0]) (shapes_ln_I l a m k) .normal (shapes_ln_I l a m (k + 1)) := by
  have q := h k hk
  have q1 := growL_len nextE l a k
  have q2 := grow_ok (l := l) i k
  have q3 := getD_in okl (show k < l.length by omega)
  have q4 := getD_in wl (show k < l.length by omega)
  obtain ⟨q5, q6⟩ := q4
  unfold errL at q
  have oz2 := (map_at (nodC) (default) (l := l) (i := k) (by omega))
  have oz3 := @next_v (l.getD k default) (growL nextE l a k) q3 q2 (by omega) q5 q6
  exact VT.run (W := [.r [] [], .br true, .r [] [.row (sO oz2)], .r [] [.callr (rO oz3)], .r [] [], .br false, .r [] [], .r [] [.n ((↑k : Int) + 1)]]) (G := [.any (rg [(8, 4), (29, 12), (43, 5)]), .drop [9, 10, 45], .ren 46 900, .weak 28 (i64 (↑(k + 1) : Int)), .blk 900 (Blk.slc 24 3 (List.map shpC (growL nextE l a (k + 1)))), .sort]) (by kernel_rfl) (.c (decide_eq_true (p := ((↑k : Int) < (↑l.length : Int))) (by omega)) <| .c (show 0 ≤ (↑k : Int) by omega) <| .c oz2 <| .c oz3 <| .c (show ((nextE (l.getD k default) (growL nextE l a k)).snd != 0) = false by (simp at *; omega)) <| .c (show ((List.map shpC (growL nextE l a k)).length + 1) * 24 ≤ 140737488355328 by (simp; omega)) <| .c (show (List.map shpC (growL nextE l a k)).length + 1 ≤ 9223372036854775807 by (simp; omega)) <| .c (IntWalk.i64_in ((↑k : Int) + 1) (by omega)) <| .c (Weak.int (k := .i64) (show (((↑k : Int) + 1) : Int) = ((↑(k + 1) : Int)) from (by omega))) <| .c (show BlkW (Blk.slc 24 3 (List.map shpC (growL nextE l a k) ++ [[i64 (nextE (l.getD k default) (growL nextE l a k)).fst.h, i64 (nextE (l.getD k default) (growL nextE l a k)).fst.x, i64 (nextE (l.getD k default) (growL nextE l a k)).fst.c]])) (Blk.slc 24 3 (List.map shpC (growL nextE l a (k + 1)))) from (BlkW.rows (rows_to (shpC) (r := List.map shpC (growL nextE l a k) ++ [[i64 (nextE (l.getD k default) (growL nextE l a k)).fst.h, i64 (nextE (l.getD k default) (growL nextE l a k)).fst.x, i64 (nextE (l.getD k default) (growL nextE l a k)).fst.c]]) (l := growL nextE l a k ++ [Shp.mk (nextE (l.getD k default) (growL nextE l a k)).fst.h (nextE (l.getD k default) (growL nextE l a k)).fst.x (nextE (l.getD k default) (growL nextE l a k)).fst.c]) (m := growL nextE l a (k + 1)) (by first | (simp only [List.map_append, List.map_cons, List.map_nil, List.map_set, List.map_replicate, List.map_take, List.map_drop]; done) | rfl | (simp only [List.map_append, List.map_cons, List.map_nil, List.map_set, List.map_replicate, List.map_take, List.map_drop]; rfl) | (simp only [List.map_append, List.map_cons, List.map_nil, List.map_set, List.map_replicate, List.map_take, List.map_drop, shpC, ints]; done)) (show (growL nextE l a k ++ [Shp.mk (nextE (l.getD k default) (growL nextE l a k)).fst.h (nextE (l.getD k default) (growL nextE l a k)).fst.x (nextE (l.getD k default) (growL nextE l a k)).fst.c]) = (growL nextE l a (k + 1)) from (by rfl))))) <| .n)
set_option maxRecDepth 100000 in
set_option maxHeartbeats 2000000 in
theorem shapes_ln_e (l : List Nod) (a : Shp) (m : Nat) (okl : ∀ n ∈ l, n.Ok) (wl : ∀ n ∈ l, n.w.length ≤ 100000 ∧ n.b.length ≤ 100000) (i : a.Ok) (f8 : l.length ≤ 8) (hm : m < l.length) (hf : errL nextE l a m ≠ 0) (h : ∀ k, k < m → errL nextE l a k = 0) : VT Try.prog (fnC Try.f91 [1, 1, 1, 0, 1, 0, 0]) (shapes_ln_I l a m (m)) (.ret) (shapes_ln_Z l a m) := by
  have q1 := growL_len nextE l a m
  have q2 := grow_ok (l := l) i m
  have q3 := getD_in okl hm
  have q4 := getD_in wl hm
  obtain ⟨q5, q6⟩ := q4
  unfold errL at hf
  have oz2 := (map_at (nodC) (default) (l := l) (i := m) hm)
  have oz3 := @next_v (l.getD m default) (growL nextE l a m) q3 q2 (by omega) q5 q6
  have oz5 := (Weak.int (k := .i64) (show (((nextE (l.getD m default) (growL nextE l a m)).snd) : Int) = (errL nextE l a m) from (by rfl)))
  exact VT.run (W := [.r [] [], .br true, .r [] [.row (sO oz2)], .r [] [.callr (rO oz3)], .r [] [], .br true, .r [] []]) (G := [.any (rg [(0, 1), (7, 5), (26, 17)]), .drop [900, 9, 10], .weak 6 (wO oz5), .sort]) (by kernel_rfl) (.c (decide_eq_true (p := ((↑m : Int) < (↑l.length : Int))) (by omega)) <| .c (show 0 ≤ (↑m : Int) by omega) <| .c oz2 <| .c oz3 <| .c (show ((nextE (l.getD m default) (growL nextE l a m)).snd != 0) = true by (simp at *; omega)) <| .c oz5 <| .n)
theorem shapes_ln (l : List Nod) (a : Shp) (m : Nat) (okl : ∀ n ∈ l, n.Ok) (wl : ∀ n ∈ l, n.w.length ≤ 100000 ∧ n.b.length ≤ 100000) (i : a.Ok) (f8 : l.length ≤ 8) (hm : m < l.length) (hf : errL nextE l a m ≠ 0) (h : ∀ k, k < m → errL nextE l a k = 0) : VT Try.prog (fnC Try.f91 [1, 1, 1, 0, 1, 0]) (shapes_ln_I l a m 0) (.ret) (shapes_ln_Z l a m) :=
  VT.loop (fun k => shapes_ln_I l a m k) (m) (fun k hk => shapes_ln_s l a m okl wl i f8 hm hf h k hk) (shapes_ln_e l a m okl wl i f8 hm hf h) (by intro h; cases h)

set_option maxRecDepth 100000 in
set_option maxHeartbeats 2000000 in
theorem shapes_y (l : List Nod) (a : Shp) (okl : ∀ n ∈ l, n.Ok) (wl : ∀ n ∈ l, n.w.length ≤ 100000 ∧ n.b.length ≤ 100000) (h : SOK l a) : VC Try.prog 91 ([.sl 19 (l.map nodC), shp a]) (.tup [.sl 3 ((growL nextE l a l.length).map shpC), i64 l.length, i64 0]) := by
  have q1 := h.i
  have q2 := h.e
  have q3 := h.f
  have q4 := h.k
  have q5 := q1.ok
  unfold Shp.Rt at q1
  have oz0 := @sRight_v (a) q5
  have oz6 := @shapes_ly (l) (a) okl wl q5 q3 q4
  exact (VC.run (fn := Try.f91) (W := [.r [] [], .r [] [.callr (rO oz0)], .br false, .r [] [], .br false, .r [] [], .br false, .r [] [], .r [] [], .code [.any (rg [(1, 1), (3, 4), (12, 14)]), .drop [3], .ren 25 900, .weak 27 (i64 (↑l.length : Int)), .weak 28 (i64 (↑0 : Int)), .sort] (Exit.exit 1) (zO oz6), .r [] []]) (r := AV.tup [AV.sl 3 (List.map shpC (growL nextE l a l.length)), i64 (↑(List.map nodC l).length : Int), i64 0]) Try.func91 (by kernel_rfl) (.c oz0 <| .c (show (!decide (0 < elems a.h a.x a.c)) = false by (simp; omega)) <| .c (show ((↑(List.map nodC l).length : Int) == 0) = false by (simp only [decide_eq_true_eq, decide_eq_false_iff_not, beq_iff_eq, bne_iff_ne, ne_eq, beq_eq_false_iff_ne, bne_eq_false_iff_eq, Bool.not_eq_true', Bool.not_eq_false', Bool.not_eq_eq_eq_not, Bool.not_true, Bool.not_false, Classical.not_not, Int.not_lt, Int.not_le, Bool.and_eq_true, Bool.and_eq_false_iff, Bool.or_eq_true, Bool.or_eq_false_iff, Bool.and_true, Bool.true_and, Bool.and_false, Bool.false_and, Bool.or_false, Bool.false_or, eqNums, List.length_map, List.length_append, List.length_cons, List.length_nil, List.length_set, List.length_replicate, List.length_take, List.length_drop, List.length_range, Int.toNat_natCast, Nat.zero_add, List.map_eq_nil_iff]; (first | done | with_reducible assumption | omega | contradiction))) <| .c (show decide ((↑(List.map nodC l).length : Int) > 8) = false by (simp; omega)) <| .c (Weak.int (k := .i64) (show (((↑(List.map nodC l).length : Int)) : Int) = ((↑l.length : Int)) from (by (simp; done)))) <| .c (Weak.int (k := .i64) (show ((0) : Int) = ((↑0 : Int)) from (by omega))) <| .c oz6 <| .n)).weak (WeakL.refl _) (Weak.tup (.cons (.refl _) (.cons (Weak.int (show (((↑(List.map nodC l).length : Int)) : Int) = ((↑l.length : Int)) from (by (simp; done)))) (.cons (.refl _) .nil))))

set_option maxRecDepth 100000 in
set_option maxHeartbeats 2000000 in
theorem shapes_a (l : List Nod) (a : Shp) (i : a.Ok) (hl : l.length ≤ 1000) (h : ¬ 0 < elems a.h a.x a.c ∨ l.length = 0 ∨ 8 < l.length) : VC Try.prog 91 ([.sl 19 (l.map nodC), shp a]) (.tup [nilv, i64 (shapesE l a).1, i64 (shapesE l a).2]) := by
  have q := elems_in a.h a.x a.c
  have oz0 := @sRight_v (a) i
  rcases Bool.eq_false_or_eq_true (!decide (0 < elems a.h a.x a.c)) with hc0 | hc0
  · have gc0 := bnt hc0
    exact (VC.run (fn := Try.f91) (W := [.r [] [], .r [] [.callr (rO oz0)], .br true, .r [] []]) (r := AV.tup [AV.lit (Value.slice none 0 0), i64 (-1), i64 5]) Try.func91 (by kernel_rfl) (.c oz0 <| .c hc0 <| .n)).weak (WeakL.refl _) (Weak.tup (.cons (.refl _) (.cons (Weak.int (show ((-1) : Int) = ((shapesE l a).fst) from (by (unfold shapesE; (try simp only [List.length_map] at *); (repeat first | rw [if_pos (by omega)] | rw [if_neg (by omega)]))))) (.cons (Weak.int (show ((5) : Int) = ((shapesE l a).snd) from (by (unfold shapesE; (try simp only [List.length_map] at *); (repeat first | rw [if_pos (by omega)] | rw [if_neg (by omega)]))))) .nil))))
  · have gc0 := bnf hc0
    rcases Bool.eq_false_or_eq_true ((↑(List.map nodC l).length : Int) == 0) with hc1 | hc1
    · have gc1 : (↑(List.map nodC l).length : Int) = 0 := bet hc1
      exact (VC.run (fn := Try.f91) (W := [.r [] [], .r [] [.callr (rO oz0)], .br false, .r [] [], .br true, .r [] []]) (r := AV.tup [AV.lit (Value.slice none 0 0), i64 (-1), i64 12]) Try.func91 (by kernel_rfl) (.c oz0 <| .c hc0 <| .c hc1 <| .n)).weak (WeakL.refl _) (Weak.tup (.cons (.refl _) (.cons (Weak.int (show ((-1) : Int) = ((shapesE l a).fst) from (by (unfold shapesE; (try simp only [List.length_map] at *); (repeat first | rw [if_pos (by omega)] | rw [if_neg (by omega)]))))) (.cons (Weak.int (show ((12) : Int) = ((shapesE l a).snd) from (by (unfold shapesE; (try simp only [List.length_map] at *); (repeat first | rw [if_pos (by omega)] | rw [if_neg (by omega)]))))) .nil))))
    · have gc1 : ¬(↑(List.map nodC l).length : Int) = 0 := bef hc1
      exact (VC.run (fn := Try.f91) (W := [.r [] [], .r [] [.callr (rO oz0)], .br false, .r [] [], .br false, .r [] [], .br true, .r [] []]) (r := AV.tup [AV.lit (Value.slice none 0 0), i64 (-1), i64 4]) Try.func91 (by kernel_rfl) (.c oz0 <| .c hc0 <| .c hc1 <| .c (show decide ((↑(List.map nodC l).length : Int) > 8) = true by (simp only [decide_eq_true_eq, decide_eq_false_iff_not, beq_iff_eq, bne_iff_ne, ne_eq, beq_eq_false_iff_ne, bne_eq_false_iff_eq, Bool.not_eq_true', Bool.not_eq_false', Bool.not_eq_eq_eq_not, Bool.not_true, Bool.not_false, Classical.not_not, Int.not_lt, Int.not_le, Bool.and_eq_true, Bool.and_eq_false_iff, Bool.or_eq_true, Bool.or_eq_false_iff, Bool.and_true, Bool.true_and, Bool.and_false, Bool.false_and, Bool.or_false, Bool.false_or, eqNums, List.length_map, List.length_append, List.length_cons, List.length_nil, List.length_set, List.length_replicate, List.length_take, List.length_drop, List.length_range, Int.toNat_natCast, Nat.zero_add, List.map_eq_nil_iff] at *; (first | done | with_reducible assumption | omega | contradiction))) <| .n)).weak (WeakL.refl _) (Weak.tup (.cons (.refl _) (.cons (Weak.int (show ((-1) : Int) = ((shapesE l a).fst) from (by (unfold shapesE; (try simp only [List.length_map] at *); (repeat first | rw [if_pos (by omega)] | rw [if_neg (by omega)]))))) (.cons (Weak.int (show ((4) : Int) = ((shapesE l a).snd) from (by (unfold shapesE; (try simp only [List.length_map] at *); (repeat first | rw [if_pos (by omega)] | rw [if_neg (by omega)]))))) .nil))))

set_option maxRecDepth 100000 in
set_option maxHeartbeats 2000000 in
theorem shapes_m (l : List Nod) (a : Shp) (m : Nat) (okl : ∀ n ∈ l, n.Ok) (wl : ∀ n ∈ l, n.w.length ≤ 100000 ∧ n.b.length ≤ 100000) (i : 0 < elems a.h a.x a.c) (f8 : l.length ≤ 8) (hm : m < l.length) (hf : errL nextE l a m ≠ 0) (h : ∀ k, k < m → errL nextE l a k = 0) : VC Try.prog 91 ([.sl 19 (l.map nodC), shp a]) (.tup [nilv, i64 m, i64 (errL nextE l a m)]) := by
  have q := Shp.Rt.ok i
  have oz0 := @sRight_v (a) q
  have oz6 := @shapes_ln (l) (a) (m) okl wl q f8 hm hf h
  exact VC.run (fn := Try.f91) (W := [.r [] [], .r [] [.callr (rO oz0)], .br false, .r [] [], .br false, .r [] [], .br false, .r [] [], .r [] [], .code [.any (rg [(1, 1), (3, 4), (12, 14)]), .drop [3], .ren 25 900, .weak 27 (i64 (↑l.length : Int)), .weak 28 (i64 (↑0 : Int)), .sort] (Exit.ret) (zO oz6)]) Try.func91 (by kernel_rfl) (.c oz0 <| .c (show (!decide (0 < elems a.h a.x a.c)) = false by (simp; omega)) <| .c (show ((↑(List.map nodC l).length : Int) == 0) = false by (simp only [decide_eq_true_eq, decide_eq_false_iff_not, beq_iff_eq, bne_iff_ne, ne_eq, beq_eq_false_iff_ne, bne_eq_false_iff_eq, Bool.not_eq_true', Bool.not_eq_false', Bool.not_eq_eq_eq_not, Bool.not_true, Bool.not_false, Classical.not_not, Int.not_lt, Int.not_le, Bool.and_eq_true, Bool.and_eq_false_iff, Bool.or_eq_true, Bool.or_eq_false_iff, Bool.and_true, Bool.true_and, Bool.and_false, Bool.false_and, Bool.or_false, Bool.false_or, eqNums, List.length_map, List.length_append, List.length_cons, List.length_nil, List.length_set, List.length_replicate, List.length_take, List.length_drop, List.length_range, Int.toNat_natCast, Nat.zero_add, List.map_eq_nil_iff]; (first | done | with_reducible assumption | omega | contradiction))) <| .c (show decide ((↑(List.map nodC l).length : Int) > 8) = false by (simp; omega)) <| .c (Weak.int (k := .i64) (show (((↑(List.map nodC l).length : Int)) : Int) = ((↑l.length : Int)) from (by (simp; done)))) <| .c (Weak.int (k := .i64) (show ((0) : Int) = ((↑0 : Int)) from (by omega))) <| .c oz6 <| .n)
theorem shapes_n (l : List Nod) (a : Shp) (okl : ∀ n ∈ l, n.Ok) (wl : ∀ n ∈ l, n.w.length ≤ 100000 ∧ n.b.length ≤ 100000) (i : a.Ok) (hl : l.length ≤ 1000) (h : ¬ SOK l a) : VC Try.prog 91 [.sl 19 (l.map nodC), shp a] (.tup [nilv, i64 (shapesE l a).1, i64 (shapesE l a).2]) := by
  rcases SOK.cases l a with q | q | q | q | ⟨i', e, f, m, h1, h2, h3⟩
  · exact absurd q h
  · exact shapes_a l a i hl (.inl q)
  · exact shapes_a l a i hl (.inr (.inl q))
  · exact shapes_a l a i hl (.inr (.inr q))
  · rw [shapesE_at i' e f h1 h2 h3]; exact shapes_m l a m okl wl i' f h1 h2 h3
end Go.Proofs.Ytgecmooedhnenaa

/- The shapes of all values of a block, by the document. No condition. -/
namespace Go.Proofs.Ytgecmooedhnenaa
open Go.RowKit
set_option linter.unusedSimpArgs false
set_option linter.unusedVariables false
set_option linter.unnecessarySimpa false

theorem nextE_c {n : Nod} {L : List Shp} (h : checkE n ≠ 0) : nextE n L = (⟨0, 0, 0⟩, checkE n) := if_pos h
theorem nextE_0 {n : Nod} {L : List Shp} (h : checkE n = 0) (g : thereB n ((List.map shpC L).length : Int) = false) : nextE n L = (⟨0, 0, 0⟩, 8) := by
  rw [List.length_map] at g; unfold nextE; rw [if_neg (by simp [h]), if_neg (by simp [g])]
theorem nextE_6 {n : Nod} {L : List Shp} (h : checkE n = 0) (g : thereB n ((List.map shpC L).length : Int) = true) : nextE n L = shapeE n (L.getD n.na.toNat default) (L.getD (secN n).toNat default) := by
  rw [List.length_map] at g; unfold nextE; rw [if_neg (by simp [h]), if_pos g]
theorem nextE_ok {n : Nod} {L : List Shp} (q : (nextE n L).2 = 0) : checkE n = 0 ∧ thereB n ((List.map shpC L).length : Int) = true ∧ nextE n L = shapeE n (L.getD n.na.toNat default) (L.getD (secN n).toNat default) := by
  by_cases h : checkE n = 0
  · cases g : thereB n ((List.map shpC L).length : Int) with
    | false => rw [nextE_0 h g] at q; cases q
    | true => exact ⟨h, rfl, nextE_6 h g⟩
  · rw [nextE_c h] at q; exact absurd q h
theorem there_at {n : Nod} {L : List Shp} (okL : ∀ r ∈ L, r.Ok) (h : thereB n ((List.map shpC L).length : Int) = true) : (0 ≤ n.na ∧ n.na < L.length ∧ n.na.toNat < L.length ∧ 0 ≤ secN n ∧ secN n < L.length ∧ (secN n).toNat < L.length) ∧ (L.getD n.na.toNat default).Ok ∧ (L.getD (secN n).toNat default).Ok := by
  rw [List.length_map] at h
  have h := there_iff.1 h
  exact ⟨⟨by omega, by omega, by omega, by omega, by omega, by omega⟩, getD_in okL (by omega), getD_in okL (by omega)⟩
noncomputable def rshapes_ly_I (l : List Nod) (a : Shp) (k : Nat) : VS := stt 72 [(0, .sl 19 (l.map nodC)), (7, .own 900), (8, i64 k)] [(900, .slc 24 3 ((growL nextE l a k).map shpC))]
noncomputable def rshapes_ly_Z (l : List Nod) (a : Shp) : VS := rshapes_ly_I l a (l.length)
set_option maxRecDepth 100000 in
set_option maxHeartbeats 2000000 in
theorem rshapes_ly_s (l : List Nod) (a : Shp) (okl : ∀ n ∈ l, n.Ok) (wl : ∀ n ∈ l, n.w.length ≤ 100000 ∧ n.b.length ≤ 100000) (i : a.Ok) (f8 : l.length ≤ 8) (h : ∀ k, k < l.length → errL nextE l a k = 0) (k : Nat) (hk : k < l.length) : VT Try.prog (fnC Try.f71 [1, 1, 1, 1, 1, 0, 1, 0, 0]) (rshapes_ly_I l a k) .normal (rshapes_ly_I l a (k + 1)) := by
  have q := h k hk
  have q1 := growL_len nextE l a k
  have q2 := grow_ok (l := l) i k
  have q3 := getD_in okl hk
  have qz := q3.kd
  have q4 := getD_in wl hk
  obtain ⟨q5, q6⟩ := q4
  have q8 : (List.map shpC (growL nextE l a k)).length = (growL nextE l a k).length := List.length_map _
  unfold errL at q
  obtain ⟨c1, c2, c3⟩ := nextE_ok q
  obtain ⟨c4, c5, c6⟩ := there_at q2 c2
  rw [c3] at q
  have oz2 := (map_at (nodC) (default) (l := l) (i := k) hk)
  have oz3 := @refCheck_v (l.getD k default) q5 q6 qz
  have oz5 := @refThere_v (l.getD k default) ((↑(List.map shpC (growL nextE l a k)).length : Int))
  have oz9 := (map_at (shpC) (default) (l := growL nextE l a k) (i := (l.getD k default).na.toNat) (by omega))
  have oz10 := @refSecond_v (l.getD k default)
  have oz13 := (map_at (shpC) (default) (l := growL nextE l a k) (i := (secN (l.getD k default)).toNat) (by omega))
  have oz14 := @refKshape_v (l.getD k default) ((growL nextE l a k).getD (l.getD k default).na.toNat default) ((growL nextE l a k).getD (secN (l.getD k default)).toNat default) c5 c6 q3
  exact VT.run (W := [.r [] [], .br true, .r [] [.row (sO oz2)], .r [] [.callr (rO oz3)], .r [] [], .br false, .r [] [.callr (rO oz5)], .br false, .r [] [.row (sO oz9), .callr (rO oz10), .row (sO oz13), .callr (rO oz14)], .r [] [], .br false, .r [] [], .r [] [.n ((↑k : Int) + 1)]]) (G := [.any (rg [(9, 4), (24, 14), (40, 5), (46, 17), (65, 4)]), .drop [9, 11, 67], .ren 68 900, .weak 8 (i64 (↑(k + 1) : Int)), .blk 900 (Blk.slc 24 3 (List.map shpC (growL nextE l a (k + 1)))), .sort]) (by kernel_rfl) (.c (show decide ((↑k : Int) < (↑(List.map nodC l).length : Int)) = true by (simp; omega)) <| .c (show 0 ≤ (↑k : Int) by omega) <| .c oz2 <| .c oz3 <| .c (show (checkE (l.getD k default) != 0) = false by (rw [c1]; rfl)) <| .c oz5 <| .c (show (!thereB (l.getD k default) (↑(List.map shpC (growL nextE l a k)).length : Int)) = false by (rw [c2]; rfl)) <| .c (show 0 ≤ (l.getD k default).na by omega) <| .c (show (l.getD k default).na < (↑(List.map shpC (growL nextE l a k)).length : Int) by omega) <| .c oz9 <| .c oz10 <| .c (show 0 ≤ secN (l.getD k default) by omega) <| .c (show secN (l.getD k default) < (↑(List.map shpC (growL nextE l a k)).length : Int) by omega) <| .c oz13 <| .c oz14 <| .c (show ((shapeE (l.getD k default) ((growL nextE l a k).getD (l.getD k default).na.toNat default) ((growL nextE l a k).getD (secN (l.getD k default)).toNat default)).snd != 0) = false by (rw [q]; rfl)) <| .c (show ((List.map shpC (growL nextE l a k)).length + 1) * 24 ≤ 140737488355328 by omega) <| .c (show (List.map shpC (growL nextE l a k)).length + 1 ≤ 9223372036854775807 by omega) <| .c (IntWalk.i64_in ((↑k : Int) + 1) (by omega)) <| .c (Weak.int (k := .i64) (show (((↑k : Int) + 1) : Int) = ((↑(k + 1) : Int)) from (by omega))) <| .c (show BlkW (Blk.slc 24 3 (List.map shpC (growL nextE l a k) ++ [[i64 (shapeE (l.getD k default) ((growL nextE l a k).getD (l.getD k default).na.toNat default) ((growL nextE l a k).getD (secN (l.getD k default)).toNat default)).fst.h, i64 (shapeE (l.getD k default) ((growL nextE l a k).getD (l.getD k default).na.toNat default) ((growL nextE l a k).getD (secN (l.getD k default)).toNat default)).fst.x, i64 (shapeE (l.getD k default) ((growL nextE l a k).getD (l.getD k default).na.toNat default) ((growL nextE l a k).getD (secN (l.getD k default)).toNat default)).fst.c]])) (Blk.slc 24 3 (List.map shpC (growL nextE l a (k + 1)))) from (BlkW.rows (rows_to (shpC) (r := List.map shpC (growL nextE l a k) ++ [[i64 (shapeE (l.getD k default) ((growL nextE l a k).getD (l.getD k default).na.toNat default) ((growL nextE l a k).getD (secN (l.getD k default)).toNat default)).fst.h, i64 (shapeE (l.getD k default) ((growL nextE l a k).getD (l.getD k default).na.toNat default) ((growL nextE l a k).getD (secN (l.getD k default)).toNat default)).fst.x, i64 (shapeE (l.getD k default) ((growL nextE l a k).getD (l.getD k default).na.toNat default) ((growL nextE l a k).getD (secN (l.getD k default)).toNat default)).fst.c]]) (l := growL nextE l a k ++ [Shp.mk (shapeE (l.getD k default) ((growL nextE l a k).getD (l.getD k default).na.toNat default) ((growL nextE l a k).getD (secN (l.getD k default)).toNat default)).fst.h (shapeE (l.getD k default) ((growL nextE l a k).getD (l.getD k default).na.toNat default) ((growL nextE l a k).getD (secN (l.getD k default)).toNat default)).fst.x (shapeE (l.getD k default) ((growL nextE l a k).getD (l.getD k default).na.toNat default) ((growL nextE l a k).getD (secN (l.getD k default)).toNat default)).fst.c]) (m := growL nextE l a (k + 1)) (by first | (simp only [List.map_append, List.map_cons, List.map_nil, List.map_set, List.map_replicate, List.map_take, List.map_drop]; done) | rfl | (simp only [List.map_append, List.map_cons, List.map_nil, List.map_set, List.map_replicate, List.map_take, List.map_drop]; rfl) | (simp only [List.map_append, List.map_cons, List.map_nil, List.map_set, List.map_replicate, List.map_take, List.map_drop, shpC, ints]; done)) (show (growL nextE l a k ++ [Shp.mk (shapeE (l.getD k default) ((growL nextE l a k).getD (l.getD k default).na.toNat default) ((growL nextE l a k).getD (secN (l.getD k default)).toNat default)).fst.h (shapeE (l.getD k default) ((growL nextE l a k).getD (l.getD k default).na.toNat default) ((growL nextE l a k).getD (secN (l.getD k default)).toNat default)).fst.x (shapeE (l.getD k default) ((growL nextE l a k).getD (l.getD k default).na.toNat default) ((growL nextE l a k).getD (secN (l.getD k default)).toNat default)).fst.c]) = (growL nextE l a (k + 1)) from (by (rw [growL, c3])))))) <| .n)
set_option maxRecDepth 100000 in
set_option maxHeartbeats 2000000 in
theorem rshapes_ly_e (l : List Nod) (a : Shp) (okl : ∀ n ∈ l, n.Ok) (wl : ∀ n ∈ l, n.w.length ≤ 100000 ∧ n.b.length ≤ 100000) (i : a.Ok) (f8 : l.length ≤ 8) (h : ∀ k, k < l.length → errL nextE l a k = 0) : VT Try.prog (fnC Try.f71 [1, 1, 1, 1, 1, 0, 1, 0, 0]) (rshapes_ly_I l a (l.length)) (.exit 0) (rshapes_ly_Z l a) := by
  exact VT.run (W := [.r [] [], .br false]) (G := [.any (rg [(24, 4)]), .sort]) (by kernel_rfl) (.c (show decide ((↑l.length : Int) < (↑(List.map nodC l).length : Int)) = false by (simp; done)) <| .n)
theorem rshapes_ly (l : List Nod) (a : Shp) (okl : ∀ n ∈ l, n.Ok) (wl : ∀ n ∈ l, n.w.length ≤ 100000 ∧ n.b.length ≤ 100000) (i : a.Ok) (f8 : l.length ≤ 8) (h : ∀ k, k < l.length → errL nextE l a k = 0) : VT Try.prog (fnC Try.f71 [1, 1, 1, 1, 1, 0, 1, 0]) (rshapes_ly_I l a 0) (.exit 0) (rshapes_ly_Z l a) :=
  VT.loop (fun k => rshapes_ly_I l a k) (l.length) (fun k hk => rshapes_ly_s l a okl wl i f8 h k hk) (rshapes_ly_e l a okl wl i f8 h) (by intro h; cases h)

noncomputable def rshapes_ln_I (l : List Nod) (a : Shp) (m : Nat) (k : Nat) : VS := stt 72 [(0, .sl 19 (l.map nodC)), (7, .own 900), (8, i64 k)] [(900, .slc 24 3 ((growL nextE l a k).map shpC))]
noncomputable def rshapes_ln_Z (l : List Nod) (a : Shp) (m : Nat) : VS := stt 72 [(4, nilv), (5, i64 m), (6, i64 (errL nextE l a m))] []
set_option maxRecDepth 100000 in
set_option maxHeartbeats 2000000 in
theorem rshapes_ln_s (l : List Nod) (a : Shp) (m : Nat) (okl : ∀ n ∈ l, n.Ok) (wl : ∀ n ∈ l, n.w.length ≤ 100000 ∧ n.b.length ≤ 100000) (i : a.Ok) (f8 : l.length ≤ 8) (hm : m < l.length) (hf : errL nextE l a m ≠ 0) (h : ∀ k, k < m → errL nextE l a k = 0) (k : Nat) (hk : k < m) : VT Try.prog (fnC Try.f71 [1, 1, 1, 1, 1, 0, 1, 0, 0]) (rshapes_ln_I l a m k) .normal (rshapes_ln_I l a m (k + 1)) := by
  have q := h k hk
  have q1 := growL_len nextE l a k
  have q2 := grow_ok (l := l) i k
  have q3 := getD_in okl (show k < l.length by omega)
  have qz := q3.kd
  have q4 := getD_in wl (show k < l.length by omega)
  obtain ⟨q5, q6⟩ := q4
  have q8 : (List.map shpC (growL nextE l a k)).length = (growL nextE l a k).length := List.length_map _
  unfold errL at q
  obtain ⟨c1, c2, c3⟩ := nextE_ok q
  obtain ⟨c4, c5, c6⟩ := there_at q2 c2
  rw [c3] at q
  have oz2 := (map_at (nodC) (default) (l := l) (i := k) (by omega))
  have oz3 := @refCheck_v (l.getD k default) q5 q6 qz
  have oz5 := @refThere_v (l.getD k default) ((↑(List.map shpC (growL nextE l a k)).length : Int))
  have oz9 := (map_at (shpC) (default) (l := growL nextE l a k) (i := (l.getD k default).na.toNat) (by omega))
  have oz10 := @refSecond_v (l.getD k default)
  have oz13 := (map_at (shpC) (default) (l := growL nextE l a k) (i := (secN (l.getD k default)).toNat) (by omega))
  have oz14 := @refKshape_v (l.getD k default) ((growL nextE l a k).getD (l.getD k default).na.toNat default) ((growL nextE l a k).getD (secN (l.getD k default)).toNat default) c5 c6 q3
  exact VT.run (W := [.r [] [], .br true, .r [] [.row (sO oz2)], .r [] [.callr (rO oz3)], .r [] [], .br false, .r [] [.callr (rO oz5)], .br false, .r [] [.row (sO oz9), .callr (rO oz10), .row (sO oz13), .callr (rO oz14)], .r [] [], .br false, .r [] [], .r [] [.n ((↑k : Int) + 1)]]) (G := [.any (rg [(9, 4), (24, 14), (40, 5), (46, 17), (65, 4)]), .drop [9, 11, 67], .ren 68 900, .weak 8 (i64 (↑(k + 1) : Int)), .blk 900 (Blk.slc 24 3 (List.map shpC (growL nextE l a (k + 1)))), .sort]) (by kernel_rfl) (.c (show decide ((↑k : Int) < (↑(List.map nodC l).length : Int)) = true by (simp; omega)) <| .c (show 0 ≤ (↑k : Int) by omega) <| .c oz2 <| .c oz3 <| .c (show (checkE (l.getD k default) != 0) = false by (rw [c1]; rfl)) <| .c oz5 <| .c (show (!thereB (l.getD k default) (↑(List.map shpC (growL nextE l a k)).length : Int)) = false by (rw [c2]; rfl)) <| .c (show 0 ≤ (l.getD k default).na by omega) <| .c (show (l.getD k default).na < (↑(List.map shpC (growL nextE l a k)).length : Int) by omega) <| .c oz9 <| .c oz10 <| .c (show 0 ≤ secN (l.getD k default) by omega) <| .c (show secN (l.getD k default) < (↑(List.map shpC (growL nextE l a k)).length : Int) by omega) <| .c oz13 <| .c oz14 <| .c (show ((shapeE (l.getD k default) ((growL nextE l a k).getD (l.getD k default).na.toNat default) ((growL nextE l a k).getD (secN (l.getD k default)).toNat default)).snd != 0) = false by (rw [q]; rfl)) <| .c (show ((List.map shpC (growL nextE l a k)).length + 1) * 24 ≤ 140737488355328 by omega) <| .c (show (List.map shpC (growL nextE l a k)).length + 1 ≤ 9223372036854775807 by omega) <| .c (IntWalk.i64_in ((↑k : Int) + 1) (by omega)) <| .c (Weak.int (k := .i64) (show (((↑k : Int) + 1) : Int) = ((↑(k + 1) : Int)) from (by omega))) <| .c (show BlkW (Blk.slc 24 3 (List.map shpC (growL nextE l a k) ++ [[i64 (shapeE (l.getD k default) ((growL nextE l a k).getD (l.getD k default).na.toNat default) ((growL nextE l a k).getD (secN (l.getD k default)).toNat default)).fst.h, i64 (shapeE (l.getD k default) ((growL nextE l a k).getD (l.getD k default).na.toNat default) ((growL nextE l a k).getD (secN (l.getD k default)).toNat default)).fst.x, i64 (shapeE (l.getD k default) ((growL nextE l a k).getD (l.getD k default).na.toNat default) ((growL nextE l a k).getD (secN (l.getD k default)).toNat default)).fst.c]])) (Blk.slc 24 3 (List.map shpC (growL nextE l a (k + 1)))) from (BlkW.rows (rows_to (shpC) (r := List.map shpC (growL nextE l a k) ++ [[i64 (shapeE (l.getD k default) ((growL nextE l a k).getD (l.getD k default).na.toNat default) ((growL nextE l a k).getD (secN (l.getD k default)).toNat default)).fst.h, i64 (shapeE (l.getD k default) ((growL nextE l a k).getD (l.getD k default).na.toNat default) ((growL nextE l a k).getD (secN (l.getD k default)).toNat default)).fst.x, i64 (shapeE (l.getD k default) ((growL nextE l a k).getD (l.getD k default).na.toNat default) ((growL nextE l a k).getD (secN (l.getD k default)).toNat default)).fst.c]]) (l := growL nextE l a k ++ [Shp.mk (shapeE (l.getD k default) ((growL nextE l a k).getD (l.getD k default).na.toNat default) ((growL nextE l a k).getD (secN (l.getD k default)).toNat default)).fst.h (shapeE (l.getD k default) ((growL nextE l a k).getD (l.getD k default).na.toNat default) ((growL nextE l a k).getD (secN (l.getD k default)).toNat default)).fst.x (shapeE (l.getD k default) ((growL nextE l a k).getD (l.getD k default).na.toNat default) ((growL nextE l a k).getD (secN (l.getD k default)).toNat default)).fst.c]) (m := growL nextE l a (k + 1)) (by first | (simp only [List.map_append, List.map_cons, List.map_nil, List.map_set, List.map_replicate, List.map_take, List.map_drop]; done) | rfl | (simp only [List.map_append, List.map_cons, List.map_nil, List.map_set, List.map_replicate, List.map_take, List.map_drop]; rfl) | (simp only [List.map_append, List.map_cons, List.map_nil, List.map_set, List.map_replicate, List.map_take, List.map_drop, shpC, ints]; done)) (show (growL nextE l a k ++ [Shp.mk (shapeE (l.getD k default) ((growL nextE l a k).getD (l.getD k default).na.toNat default) ((growL nextE l a k).getD (secN (l.getD k default)).toNat default)).fst.h (shapeE (l.getD k default) ((growL nextE l a k).getD (l.getD k default).na.toNat default) ((growL nextE l a k).getD (secN (l.getD k default)).toNat default)).fst.x (shapeE (l.getD k default) ((growL nextE l a k).getD (l.getD k default).na.toNat default) ((growL nextE l a k).getD (secN (l.getD k default)).toNat default)).fst.c]) = (growL nextE l a (k + 1)) from (by (rw [growL, c3])))))) <| .n)
set_option maxRecDepth 100000 in
set_option maxHeartbeats 2000000 in
theorem rshapes_ln_e (l : List Nod) (a : Shp) (m : Nat) (okl : ∀ n ∈ l, n.Ok) (wl : ∀ n ∈ l, n.w.length ≤ 100000 ∧ n.b.length ≤ 100000) (i : a.Ok) (f8 : l.length ≤ 8) (hm : m < l.length) (hf : errL nextE l a m ≠ 0) (h : ∀ k, k < m → errL nextE l a k = 0) : VT Try.prog (fnC Try.f71 [1, 1, 1, 1, 1, 0, 1, 0, 0]) (rshapes_ln_I l a m (m)) (.ret) (rshapes_ln_Z l a m) := by
  have q1 := growL_len nextE l a m
  have q2 := grow_ok (l := l) i m
  have q3 := getD_in okl hm
  have qz := q3.kd
  have q4 := getD_in wl hm
  obtain ⟨q5, q6⟩ := q4
  have q8 : (List.map shpC (growL nextE l a m)).length = (growL nextE l a m).length := List.length_map _
  have qa := fun h => there_at (n := l.getD m default) q2 h
  have e0 := @nextE_c (l.getD m default) (growL nextE l a m)
  have e1 := @nextE_0 (l.getD m default) (growL nextE l a m)
  have e2 := @nextE_6 (l.getD m default) (growL nextE l a m)
  have q : errL nextE l a m = (nextE (l.getD m default) (growL nextE l a m)).2 := rfl
  unfold errL at hf
  have oz0 := (show decide ((↑m : Int) < (↑(List.map nodC l).length : Int)) = true by (simp; omega))
  have oz1 := (show 0 ≤ (↑m : Int) by omega)
  have oz2 := (map_at (nodC) (default) (l := l) (i := m) hm)
  have oz3 := @refCheck_v (l.getD m default) q5 q6 qz
  rcases Bool.eq_false_or_eq_true (checkE (l.getD m default) != 0) with hc0 | hc0
  · have gc0 : ¬checkE (l.getD m default) = 0 := bdt hc0
    exact VT.run (W := [.r [] [], .br true, .r [] [.row (sO oz2)], .r [] [.callr (rO oz3)], .r [] [], .br true, .r [] []]) (G := [.any (rg [(0, 1), (7, 4), (24, 4), (30, 10)]), .drop [900, 9], .weak 6 (i64 (errL nextE l a m)), .sort]) (by kernel_rfl) (.c oz0 <| .c oz1 <| .c oz2 <| .c oz3 <| .c hc0 <| .c (Weak.int (k := .i64) (show ((checkE (l.getD m default)) : Int) = (errL nextE l a m) from (by (rw [q, e0 (by omega)])))) <| .n)
  · have gc0 : checkE (l.getD m default) = 0 := bdf hc0
    have oz5 := @refThere_v (l.getD m default) ((↑(List.map shpC (growL nextE l a m)).length : Int))
    rcases Bool.eq_false_or_eq_true (!thereB (l.getD m default) (↑(List.map shpC (growL nextE l a m)).length : Int)) with hc1 | hc1
    · have gc1 : thereB (l.getD m default) (↑(List.map shpC (growL nextE l a m)).length : Int) = false := by first | exact hc1 | exact of_decide_eq_true hc1 | exact of_decide_eq_false hc1 | simpa [eqNums] using hc1 | (simp [eqNums] at hc1 ⊢; first | done | assumption | omega)
      exact VT.run (W := [.r [] [], .br true, .r [] [.row (sO oz2)], .r [] [.callr (rO oz3)], .r [] [], .br false, .r [] [.callr (rO oz5)], .br true, .r [] []]) (G := [.any (rg [(0, 1), (7, 4), (24, 4), (30, 8), (40, 6)]), .drop [900, 9], .weak 6 (i64 (errL nextE l a m)), .sort]) (by kernel_rfl) (.c oz0 <| .c oz1 <| .c oz2 <| .c oz3 <| .c hc0 <| .c oz5 <| .c hc1 <| .c (Weak.int (k := .i64) (show ((8) : Int) = (errL nextE l a m) from (by (rw [q, e1 (by omega) (by simp_all)])))) <| .n)
    · have gc1 : thereB (l.getD m default) (↑(List.map shpC (growL nextE l a m)).length : Int) = true := by first | exact hc1 | exact of_decide_eq_true hc1 | exact of_decide_eq_false hc1 | simpa [eqNums] using hc1 | (simp [eqNums] at hc1 ⊢; first | done | assumption | omega)
      have oz9 := (map_at (shpC) (default) (l := growL nextE l a m) (i := (l.getD m default).na.toNat) (by (have := qa (by assumption); omega)))
      have oz10 := @refSecond_v (l.getD m default)
      have oz13 := (map_at (shpC) (default) (l := growL nextE l a m) (i := (secN (l.getD m default)).toNat) (by (have := qa (by assumption); omega)))
      have oz14 := @refKshape_v (l.getD m default) ((growL nextE l a m).getD (l.getD m default).na.toNat default) ((growL nextE l a m).getD (secN (l.getD m default)).toNat default) (by (have := qa (by assumption); exact this.2.1)) (by (have := qa (by assumption); exact this.2.2)) q3
      have oz16 := (Weak.int (k := .i64) (show (((shapeE (l.getD m default) ((growL nextE l a m).getD (l.getD m default).na.toNat default) ((growL nextE l a m).getD (secN (l.getD m default)).toNat default)).snd) : Int) = (errL nextE l a m) from (by (rw [q, e2 (by omega) (by assumption)]))))
      exact VT.run (W := [.r [] [], .br true, .r [] [.row (sO oz2)], .r [] [.callr (rO oz3)], .r [] [], .br false, .r [] [.callr (rO oz5)], .br false, .r [] [.row (sO oz9), .callr (rO oz10), .row (sO oz13), .callr (rO oz14)], .r [] [], .br true, .r [] []]) (G := [.any (rg [(0, 1), (7, 6), (24, 4), (30, 8), (40, 5), (46, 19)]), .drop [900, 9, 11], .weak 6 (wO oz16), .sort]) (by kernel_rfl) (.c oz0 <| .c oz1 <| .c oz2 <| .c oz3 <| .c hc0 <| .c oz5 <| .c hc1 <| .c (show 0 ≤ (l.getD m default).na by (have := qa (by assumption); omega)) <| .c (show (l.getD m default).na < (↑(List.map shpC (growL nextE l a m)).length : Int) by (have := qa (by assumption); omega)) <| .c oz9 <| .c oz10 <| .c (show 0 ≤ secN (l.getD m default) by (have := qa (by assumption); omega)) <| .c (show secN (l.getD m default) < (↑(List.map shpC (growL nextE l a m)).length : Int) by (have := qa (by assumption); omega)) <| .c oz13 <| .c oz14 <| .c (show ((shapeE (l.getD m default) ((growL nextE l a m).getD (l.getD m default).na.toNat default) ((growL nextE l a m).getD (secN (l.getD m default)).toNat default)).snd != 0) = true by (rw [e2 (by omega) (by assumption)] at hf; rw [bne_iff_ne]; exact hf)) <| .c oz16 <| .n)
theorem rshapes_ln (l : List Nod) (a : Shp) (m : Nat) (okl : ∀ n ∈ l, n.Ok) (wl : ∀ n ∈ l, n.w.length ≤ 100000 ∧ n.b.length ≤ 100000) (i : a.Ok) (f8 : l.length ≤ 8) (hm : m < l.length) (hf : errL nextE l a m ≠ 0) (h : ∀ k, k < m → errL nextE l a k = 0) : VT Try.prog (fnC Try.f71 [1, 1, 1, 1, 1, 0, 1, 0]) (rshapes_ln_I l a m 0) (.ret) (rshapes_ln_Z l a m) :=
  VT.loop (fun k => rshapes_ln_I l a m k) (m) (fun k hk => rshapes_ln_s l a m okl wl i f8 hm hf h k hk) (rshapes_ln_e l a m okl wl i f8 hm hf h) (by intro h; cases h)

set_option maxRecDepth 100000 in
set_option maxHeartbeats 2000000 in
theorem rshapes_y (l : List Nod) (a : Shp) (okl : ∀ n ∈ l, n.Ok) (wl : ∀ n ∈ l, n.w.length ≤ 100000 ∧ n.b.length ≤ 100000) (h : SOK l a) : VC Try.prog 71 ([.sl 19 (l.map nodC), shp a]) (.tup [.sl 3 ((growL nextE l a l.length).map shpC), i64 l.length, i64 0]) := by
  have q1 := h.i
  have q2 := h.e
  have q3 := h.f
  have q4 := h.k
  have q5 := q1.ok
  obtain ⟨p1, p2, p3⟩ := id q5
  unfold Shp.Rt at q1
  have oz0 := @refElems_v (a.h) (a.x) (a.c) p1 p2 p3
  have oz5 := @rshapes_ly (l) (a) okl wl q5 q3 q4
  exact (VC.run (fn := Try.f71) (W := [.r [] [], .r [] [.callr (rO oz0)], .br false, .r [] [], .br false, .r [] [], .br false, .r [] [], .r [] [], .code [.any (rg [(1, 1), (3, 4), (13, 11)]), .drop [3], .ren 23 900, .weak 8 (i64 (↑0 : Int)), .sort] (Exit.exit 0) (zO oz5), .r [] []]) (r := AV.tup [AV.sl 3 (List.map shpC (growL nextE l a l.length)), i64 (↑(List.map nodC l).length : Int), i64 0]) Try.func71 (by kernel_rfl) (.c oz0 <| .c (show (elems a.h a.x a.c == 0) = false by (refine decide_eq_false ?_; omega)) <| .c (show ((↑(List.map nodC l).length : Int) == 0) = false by (simp only [decide_eq_true_eq, decide_eq_false_iff_not, beq_iff_eq, bne_iff_ne, ne_eq, beq_eq_false_iff_ne, bne_eq_false_iff_eq, Bool.not_eq_true', Bool.not_eq_false', Bool.not_eq_eq_eq_not, Bool.not_true, Bool.not_false, Classical.not_not, Int.not_lt, Int.not_le, Bool.and_eq_true, Bool.and_eq_false_iff, Bool.or_eq_true, Bool.or_eq_false_iff, Bool.and_true, Bool.true_and, Bool.and_false, Bool.false_and, Bool.or_false, Bool.false_or, eqNums, List.length_map, List.length_append, List.length_cons, List.length_nil, List.length_set, List.length_replicate, List.length_take, List.length_drop, List.length_range, Int.toNat_natCast, Nat.zero_add, List.map_eq_nil_iff]; (first | done | with_reducible assumption | omega | contradiction))) <| .c (show decide ((↑(List.map nodC l).length : Int) > 8) = false by (simp; omega)) <| .c (Weak.int (k := .i64) (show ((0) : Int) = ((↑0 : Int)) from (by omega))) <| .c oz5 <| .n)).weak (WeakL.refl _) (Weak.tup (.cons (.refl _) (.cons (Weak.int (show (((↑(List.map nodC l).length : Int)) : Int) = ((↑l.length : Int)) from (by (simp; done)))) (.cons (.refl _) .nil))))

set_option maxRecDepth 100000 in
set_option maxHeartbeats 2000000 in
theorem rshapes_a (l : List Nod) (a : Shp) (i : a.Ok) (hl : l.length ≤ 1000) (h : ¬ 0 < elems a.h a.x a.c ∨ l.length = 0 ∨ 8 < l.length) : VC Try.prog 71 ([.sl 19 (l.map nodC), shp a]) (.tup [nilv, i64 (shapesE l a).1, i64 (shapesE l a).2]) := by
  have q := elems_in a.h a.x a.c
  obtain ⟨p1, p2, p3⟩ := id i
  have oz0 := @refElems_v (a.h) (a.x) (a.c) p1 p2 p3
  rcases Bool.eq_false_or_eq_true (elems a.h a.x a.c == 0) with hc0 | hc0
  · have gc0 : elems a.h a.x a.c = 0 := bet hc0
    exact (VC.run (fn := Try.f71) (W := [.r [] [], .r [] [.callr (rO oz0)], .br true, .r [] []]) (r := AV.tup [AV.lit (Value.slice none 0 0), i64 (-1), i64 5]) Try.func71 (by kernel_rfl) (.c oz0 <| .c hc0 <| .n)).weak (WeakL.refl _) (Weak.tup (.cons (.refl _) (.cons (Weak.int (show ((-1) : Int) = ((shapesE l a).fst) from (by (unfold shapesE; (try simp only [List.length_map] at *); (repeat first | rw [if_pos (by omega)] | rw [if_neg (by omega)]))))) (.cons (Weak.int (show ((5) : Int) = ((shapesE l a).snd) from (by (unfold shapesE; (try simp only [List.length_map] at *); (repeat first | rw [if_pos (by omega)] | rw [if_neg (by omega)]))))) .nil))))
  · have gc0 : ¬elems a.h a.x a.c = 0 := bef hc0
    rcases Bool.eq_false_or_eq_true ((↑(List.map nodC l).length : Int) == 0) with hc1 | hc1
    · have gc1 : (↑(List.map nodC l).length : Int) = 0 := bet hc1
      exact (VC.run (fn := Try.f71) (W := [.r [] [], .r [] [.callr (rO oz0)], .br false, .r [] [], .br true, .r [] []]) (r := AV.tup [AV.lit (Value.slice none 0 0), i64 (-1), i64 12]) Try.func71 (by kernel_rfl) (.c oz0 <| .c hc0 <| .c hc1 <| .n)).weak (WeakL.refl _) (Weak.tup (.cons (.refl _) (.cons (Weak.int (show ((-1) : Int) = ((shapesE l a).fst) from (by (unfold shapesE; (try simp only [List.length_map] at *); (repeat first | rw [if_pos (by omega)] | rw [if_neg (by omega)]))))) (.cons (Weak.int (show ((12) : Int) = ((shapesE l a).snd) from (by (unfold shapesE; (try simp only [List.length_map] at *); (repeat first | rw [if_pos (by omega)] | rw [if_neg (by omega)]))))) .nil))))
    · have gc1 : ¬(↑(List.map nodC l).length : Int) = 0 := bef hc1
      exact (VC.run (fn := Try.f71) (W := [.r [] [], .r [] [.callr (rO oz0)], .br false, .r [] [], .br false, .r [] [], .br true, .r [] []]) (r := AV.tup [AV.lit (Value.slice none 0 0), i64 (-1), i64 4]) Try.func71 (by kernel_rfl) (.c oz0 <| .c hc0 <| .c hc1 <| .c (show decide ((↑(List.map nodC l).length : Int) > 8) = true by (simp only [decide_eq_true_eq, decide_eq_false_iff_not, beq_iff_eq, bne_iff_ne, ne_eq, beq_eq_false_iff_ne, bne_eq_false_iff_eq, Bool.not_eq_true', Bool.not_eq_false', Bool.not_eq_eq_eq_not, Bool.not_true, Bool.not_false, Classical.not_not, Int.not_lt, Int.not_le, Bool.and_eq_true, Bool.and_eq_false_iff, Bool.or_eq_true, Bool.or_eq_false_iff, Bool.and_true, Bool.true_and, Bool.and_false, Bool.false_and, Bool.or_false, Bool.false_or, eqNums, List.length_map, List.length_append, List.length_cons, List.length_nil, List.length_set, List.length_replicate, List.length_take, List.length_drop, List.length_range, Int.toNat_natCast, Nat.zero_add, List.map_eq_nil_iff] at *; (first | done | with_reducible assumption | omega | contradiction))) <| .n)).weak (WeakL.refl _) (Weak.tup (.cons (.refl _) (.cons (Weak.int (show ((-1) : Int) = ((shapesE l a).fst) from (by (unfold shapesE; (try simp only [List.length_map] at *); (repeat first | rw [if_pos (by omega)] | rw [if_neg (by omega)]))))) (.cons (Weak.int (show ((4) : Int) = ((shapesE l a).snd) from (by (unfold shapesE; (try simp only [List.length_map] at *); (repeat first | rw [if_pos (by omega)] | rw [if_neg (by omega)]))))) .nil))))

set_option maxRecDepth 100000 in
set_option maxHeartbeats 2000000 in
theorem rshapes_m (l : List Nod) (a : Shp) (m : Nat) (okl : ∀ n ∈ l, n.Ok) (wl : ∀ n ∈ l, n.w.length ≤ 100000 ∧ n.b.length ≤ 100000) (i : 0 < elems a.h a.x a.c) (f8 : l.length ≤ 8) (hm : m < l.length) (hf : errL nextE l a m ≠ 0) (h : ∀ k, k < m → errL nextE l a k = 0) : VC Try.prog 71 ([.sl 19 (l.map nodC), shp a]) (.tup [nilv, i64 m, i64 (errL nextE l a m)]) := by
  have q := Shp.Rt.ok i
  obtain ⟨p1, p2, p3⟩ := id q
  have oz0 := @refElems_v (a.h) (a.x) (a.c) p1 p2 p3
  have oz5 := @rshapes_ln (l) (a) (m) okl wl q f8 hm hf h
  exact VC.run (fn := Try.f71) (W := [.r [] [], .r [] [.callr (rO oz0)], .br false, .r [] [], .br false, .r [] [], .br false, .r [] [], .r [] [], .code [.any (rg [(1, 1), (3, 4), (13, 11)]), .drop [3], .ren 23 900, .weak 8 (i64 (↑0 : Int)), .sort] (Exit.ret) (zO oz5)]) Try.func71 (by kernel_rfl) (.c oz0 <| .c (show (elems a.h a.x a.c == 0) = false by (refine decide_eq_false ?_; omega)) <| .c (show ((↑(List.map nodC l).length : Int) == 0) = false by (simp only [decide_eq_true_eq, decide_eq_false_iff_not, beq_iff_eq, bne_iff_ne, ne_eq, beq_eq_false_iff_ne, bne_eq_false_iff_eq, Bool.not_eq_true', Bool.not_eq_false', Bool.not_eq_eq_eq_not, Bool.not_true, Bool.not_false, Classical.not_not, Int.not_lt, Int.not_le, Bool.and_eq_true, Bool.and_eq_false_iff, Bool.or_eq_true, Bool.or_eq_false_iff, Bool.and_true, Bool.true_and, Bool.and_false, Bool.false_and, Bool.or_false, Bool.false_or, eqNums, List.length_map, List.length_append, List.length_cons, List.length_nil, List.length_set, List.length_replicate, List.length_take, List.length_drop, List.length_range, Int.toNat_natCast, Nat.zero_add, List.map_eq_nil_iff]; (first | done | with_reducible assumption | omega | contradiction))) <| .c (show decide ((↑(List.map nodC l).length : Int) > 8) = false by (simp; omega)) <| .c (Weak.int (k := .i64) (show ((0) : Int) = ((↑0 : Int)) from (by omega))) <| .c oz5 <| .n)
theorem rshapes_n (l : List Nod) (a : Shp) (okl : ∀ n ∈ l, n.Ok) (wl : ∀ n ∈ l, n.w.length ≤ 100000 ∧ n.b.length ≤ 100000) (i : a.Ok) (hl : l.length ≤ 1000) (h : ¬ SOK l a) : VC Try.prog 71 [.sl 19 (l.map nodC), shp a] (.tup [nilv, i64 (shapesE l a).1, i64 (shapesE l a).2]) := by
  rcases SOK.cases l a with q | q | q | q | ⟨i', e, f, m, h1, h2, h3⟩
  · exact absurd q h
  · exact rshapes_a l a i hl (.inl q)
  · exact rshapes_a l a i hl (.inr (.inl q))
  · exact rshapes_a l a i hl (.inr (.inr q))
  · rw [shapesE_at i' e f h1 h2 h3]; exact rshapes_m l a m okl wl i' f h1 h2 h3
end Go.Proofs.Ytgecmooedhnenaa

/- Several nodes as one, again and again, by the document. No condition. -/
namespace Go.Proofs.Ytgecmooedhnenaa
open Go.RowKit
set_option linter.unusedSimpArgs false
set_option linter.unusedVariables false
set_option linter.unnecessarySimpa false

noncomputable def ralike_ly_I (l : List Nod) (k : Nat) : VS := stt 27 [(0, .sl 19 (l.map nodC)), (1, .sl 19 (l.map nodC)), (5, i64 k)] []
noncomputable def ralike_ly_Z (l : List Nod) : VS := ralike_ly_I l (l.length)
set_option maxRecDepth 100000 in
set_option maxHeartbeats 2000000 in
theorem ralike_ly_s (l : List Nod) (hl : l.length ≤ 1000) (wl : ∀ n ∈ l, n.w.length ≤ 100000 ∧ n.b.length ≤ 100000) (k : Nat) (hk : k < l.length) : VT Try.prog (fnC Try.f95 [1, 1, 0, 1, 0, 0]) (ralike_ly_I l k) .normal (ralike_ly_I l (k + 1)) := by
  have q := getD_in wl hk
  obtain ⟨q1, q2⟩ := q
  have oz1 := (show 0 ≤ (↑k : Int) by omega)
  have oz2 := (map_at (nodC) (default) (l := l) (i := k) hk)
  have oz5 := @kindsSame_v (l.getD k default) q1 q2
  exact VT.run (W := [.r [] [], .br true, .r [] [.row (sO oz2), .row (sO oz2), .callr (rO oz5)], .br false, .r [] [.n ((↑k : Int) + 1)]]) (G := [.any (rg [(11, 16)]), .weak 5 (i64 (↑(k + 1) : Int)), .sort]) (by kernel_rfl) (.c (show decide ((↑k : Int) < (↑(List.map nodC l).length : Int)) = true by (simp; omega)) <| .c oz1 <| .c oz2 <| .c oz1 <| .c oz2 <| .c oz5 <| .c (show false = false by with_reducible rfl) <| .c (IntWalk.i64_in ((↑k : Int) + 1) (by omega)) <| .c (Weak.int (k := .i64) (show (((↑k : Int) + 1) : Int) = ((↑(k + 1) : Int)) from (by omega))) <| .n)
set_option maxRecDepth 100000 in
set_option maxHeartbeats 2000000 in
theorem ralike_ly_e (l : List Nod) (hl : l.length ≤ 1000) (wl : ∀ n ∈ l, n.w.length ≤ 100000 ∧ n.b.length ≤ 100000) : VT Try.prog (fnC Try.f95 [1, 1, 0, 1, 0, 0]) (ralike_ly_I l (l.length)) (.exit 0) (ralike_ly_Z l) := by
  exact VT.run (W := [.r [] [], .br false]) (G := [.any (rg [(11, 4)]), .sort]) (by kernel_rfl) (.c (show decide ((↑l.length : Int) < (↑(List.map nodC l).length : Int)) = false by (simp; done)) <| .n)
theorem ralike_ly (l : List Nod) (hl : l.length ≤ 1000) (wl : ∀ n ∈ l, n.w.length ≤ 100000 ∧ n.b.length ≤ 100000) : VT Try.prog (fnC Try.f95 [1, 1, 0, 1, 0]) (ralike_ly_I l 0) (.exit 0) (ralike_ly_Z l) :=
  VT.loop (fun k => ralike_ly_I l k) (l.length) (fun k hk => ralike_ly_s l hl wl k hk) (ralike_ly_e l hl wl) (by intro h; cases h)

noncomputable def ralike_ln_I (a b : List Nod) (m : Nat) (k : Nat) : VS := stt 27 [(0, .sl 19 (a.map nodC)), (1, .sl 19 (b.map nodC)), (5, i64 k)] []
noncomputable def ralike_ln_Z (a b : List Nod) (m : Nat) : VS := stt 27 [(4, bv false)] []
set_option maxRecDepth 100000 in
set_option maxHeartbeats 2000000 in
theorem ralike_ln_s (a b : List Nod) (m : Nat) (hl : a.length ≤ 1000) (he : a.length = b.length) (wl : ∀ n ∈ a, n.w.length ≤ 100000 ∧ n.b.length ≤ 100000) (hm : m < a.length) (hf : nodEq (a.getD m default) (b.getD m default) = false) (h : ∀ k, k < m → nodEq (a.getD k default) (b.getD k default) = true) (k : Nat) (hk : k < m) : VT Try.prog (fnC Try.f95 [1, 1, 0, 1, 0, 0]) (ralike_ln_I a b m k) .normal (ralike_ln_I a b m (k + 1)) := by
  have q := getD_in wl (show k < a.length by omega)
  obtain ⟨q1, q2⟩ := q
  have q3 := h k hk
  have oz1 := (show 0 ≤ (↑k : Int) by omega)
  have oz2 := (map_at (nodC) (default) (l := a) (i := k) (by omega))
  have oz4 := (map_at (nodC) (default) (l := b) (i := k) (by omega))
  have oz5 := @refSame_v (a.getD k default) (b.getD k default) q1 q2
  exact VT.run (W := [.r [] [], .br true, .r [] [.row (sO oz2), .row (sO oz4), .callr (rO oz5)], .br false, .r [] [.n ((↑k : Int) + 1)]]) (G := [.any (rg [(11, 16)]), .weak 5 (i64 (↑(k + 1) : Int)), .sort]) (by kernel_rfl) (.c (show decide ((↑k : Int) < (↑(List.map nodC a).length : Int)) = true by (simp; omega)) <| .c oz1 <| .c oz2 <| .c oz1 <| .c oz4 <| .c oz5 <| .c (show (!nodEq (a.getD k default) (b.getD k default)) = false by (simp at *; omega)) <| .c (IntWalk.i64_in ((↑k : Int) + 1) (by omega)) <| .c (Weak.int (k := .i64) (show (((↑k : Int) + 1) : Int) = ((↑(k + 1) : Int)) from (by omega))) <| .n)
set_option maxRecDepth 100000 in
set_option maxHeartbeats 2000000 in
theorem ralike_ln_e (a b : List Nod) (m : Nat) (hl : a.length ≤ 1000) (he : a.length = b.length) (wl : ∀ n ∈ a, n.w.length ≤ 100000 ∧ n.b.length ≤ 100000) (hm : m < a.length) (hf : nodEq (a.getD m default) (b.getD m default) = false) (h : ∀ k, k < m → nodEq (a.getD k default) (b.getD k default) = true) : VT Try.prog (fnC Try.f95 [1, 1, 0, 1, 0, 0]) (ralike_ln_I a b m (m)) (.ret) (ralike_ln_Z a b m) := by
  have q := getD_in wl hm
  obtain ⟨q1, q2⟩ := q
  have oz1 := (show 0 ≤ (↑m : Int) by omega)
  have oz2 := (map_at (nodC) (default) (l := a) (i := m) hm)
  have oz4 := (map_at (nodC) (default) (l := b) (i := m) (by omega))
  have oz5 := @refSame_v (a.getD m default) (b.getD m default) q1 q2
  exact VT.run (W := [.r [] [], .br true, .r [] [.row (sO oz2), .row (sO oz4), .callr (rO oz5)], .br true, .r [] []]) (G := [.any (rg [(0, 2), (5, 1), (11, 4), (17, 10)]), .sort]) (by kernel_rfl) (.c (show decide ((↑m : Int) < (↑(List.map nodC a).length : Int)) = true by (simp; omega)) <| .c oz1 <| .c oz2 <| .c oz1 <| .c oz4 <| .c oz5 <| .c (show (!nodEq (a.getD m default) (b.getD m default)) = true by (simp at *; omega)) <| .n)
theorem ralike_ln (a b : List Nod) (m : Nat) (hl : a.length ≤ 1000) (he : a.length = b.length) (wl : ∀ n ∈ a, n.w.length ≤ 100000 ∧ n.b.length ≤ 100000) (hm : m < a.length) (hf : nodEq (a.getD m default) (b.getD m default) = false) (h : ∀ k, k < m → nodEq (a.getD k default) (b.getD k default) = true) : VT Try.prog (fnC Try.f95 [1, 1, 0, 1, 0]) (ralike_ln_I a b m 0) (.ret) (ralike_ln_Z a b m) :=
  VT.loop (fun k => ralike_ln_I a b m k) (m) (fun k hk => ralike_ln_s a b m hl he wl hm hf h k hk) (ralike_ln_e a b m hl he wl hm hf h) (by intro h; cases h)

set_option maxRecDepth 100000 in
set_option maxHeartbeats 2000000 in
theorem ralike_y (l : List Nod) (hl : l.length ≤ 1000) (wl : ∀ n ∈ l, n.w.length ≤ 100000 ∧ n.b.length ≤ 100000) : VC Try.prog 95 ([.sl 19 (l.map nodC), .sl 19 (l.map nodC)]) (bv true) := by
  have oz2 := @ralike_ly (l) hl wl
  exact VC.run (fn := Try.f95) (W := [.r [] [], .r [] [], .br false, .r [] [], .code [.any [4, 6, 7, 8, 9, 10], .weak 5 (i64 (↑0 : Int)), .sort] (Exit.exit 0) (zO oz2), .r [] []]) Try.func95 (by kernel_rfl) (.c (show ((↑(List.map nodC l).length : Int) != (↑(List.map nodC l).length : Int)) = false by (simp; done)) <| .c (Weak.int (k := .i64) (show ((0) : Int) = ((↑0 : Int)) from (by omega))) <| .c oz2 <| .n)

set_option maxRecDepth 100000 in
set_option maxHeartbeats 2000000 in
theorem ralike_m (a b : List Nod) (m : Nat) (hl : a.length ≤ 1000) (he : a.length = b.length) (wl : ∀ n ∈ a, n.w.length ≤ 100000 ∧ n.b.length ≤ 100000) (hm : m < a.length) (hf : nodEq (a.getD m default) (b.getD m default) = false) (h : ∀ k, k < m → nodEq (a.getD k default) (b.getD k default) = true) : VC Try.prog 95 ([.sl 19 (a.map nodC), .sl 19 (b.map nodC)]) (bv false) := by
  have oz2 := @ralike_ln (a) (b) (m) hl he wl hm hf h
  exact VC.run (fn := Try.f95) (W := [.r [] [], .r [] [], .br false, .r [] [], .code [.any [4, 6, 7, 8, 9, 10], .weak 5 (i64 (↑0 : Int)), .sort] (Exit.ret) (zO oz2)]) Try.func95 (by kernel_rfl) (.c (show ((↑(List.map nodC a).length : Int) != (↑(List.map nodC b).length : Int)) = false by (simp; omega)) <| .c (Weak.int (k := .i64) (show ((0) : Int) = ((↑0 : Int)) from (by omega))) <| .c oz2 <| .n)

set_option maxRecDepth 100000 in
set_option maxHeartbeats 2000000 in
theorem ralike_l (a b : List Nod) (hl : a.length ≤ 1000) (hl2 : b.length ≤ 1000) (he : a.length ≠ b.length) : VC Try.prog 95 ([.sl 19 (a.map nodC), .sl 19 (b.map nodC)]) (bv false) := by
  exact VC.run (fn := Try.f95) (W := [.r [] [], .r [] [], .br true, .r [] []]) Try.func95 (by kernel_rfl) (.c (show ((↑(List.map nodC a).length : Int) != (↑(List.map nodC b).length : Int)) = true by (simp; omega)) <| .n)
theorem ralike_n (a b : List Nod) (hl : a.length ≤ 1000) (hl2 : b.length ≤ 1000) (wl : ∀ n ∈ a, n.w.length ≤ 100000 ∧ n.b.length ≤ 100000) (h : a ≠ b) : VC Try.prog 95 [.sl 19 (a.map nodC), .sl 19 (b.map nodC)] (bv false) := by
  by_cases he : a.length = b.length
  · rcases all_or (fun k => nodEq (a.getD k default) (b.getD k default)) a.length with q | ⟨m, h1, h2, h3⟩
    · exact absurd (nodes_ext he fun v hv => (nodEq_iff _ _).1 (q v (by omega))) h
    · exact ralike_m a b m hl he wl h1 h2 h3
  · exact ralike_l a b hl hl2 he
/-! One time. -/
theorem padK_mem {l : List Nod} (o : orderedB l = true) {p : Nod → Prop} (h : ∀ n ∈ l, p n) (ht : ∀ a c, p a → p c → fitsN a c = true → p (tookN a c)) (k : Nat) (hk : k ≤ l.length) : ∀ n ∈ padK l k, p n := by
  intro n hn
  obtain ⟨i, hi, rfl⟩ := List.mem_iff_getElem.1 hn
  rw [padK_len] at hi
  have e : (padK l k)[i]'(by rw [padK_len]; exact hi) = (padK l k).getD i default := by rw [List.getD_eq_getElem?_getD, List.getElem?_eq_getElem (by rw [padK_len]; exact hi)]; rfl
  rw [e, padK_get o k hk i hi]
  split
  · unfold padN
    split
    · rename_i q
      have oi := (ord_iff.1 o) i hi
      exact ht _ _ (getD_in h (by omega)) (getD_in h hi) q.2
    · exact getD_in h hi
  · exact getD_in h hi
theorem Nod.Ok.thr {l : List Nod} (o : orderedB l = true) (hl : l.length ≤ 1000) {i : Nat} (hi : i < l.length) (h : (l.getD i default).Ok) : (thrN (thrK l i) (l.getD i default)).Ok := by
  obtain ⟨a, b, c⟩ := thrN_le o hi
  have oi := (ord_iff.1 o) i hi
  refine (OkN.ren h.n (pastV (thrK l i) (l.getD i default).na) (if (l.getD i default).kd = 6 then pastV (thrK l i) (l.getD i default).nb else (l.getD i default).nb) (by
    by_cases h6 : (l.getD i default).kd = 6
    · exact .inl h6
    · exact .inr (if_neg h6))).ok ?_ fun h6 => ?_
  · show In64 (pastV (thrK l i) (l.getD i default).na)
    have : 0 ≤ pastV (thrK l i) (l.getD i default).na ∧ pastV (thrK l i) (l.getD i default).na ≤ (l.getD i default).na := a
    unfold In64; omega
  · have q := b h6
    have q2 := oi.2.2 h6
    have : (thrN (thrK l i) (l.getD i default)).nb ≤ 1000 ∧ 0 ≤ (thrN (thrK l i) (l.getD i default)).nb := by omega
    show In64 (thrN (thrK l i) (l.getD i default)).nb
    unfold In64; omega
theorem thrK_ok {l : List Nod} (o : orderedB l = true) (hl : l.length ≤ 1000) (h : ∀ n ∈ l, n.Ok) (wl : ∀ n ∈ l, n.w.length ≤ 100000 ∧ n.b.length ≤ 100000) (k : Nat) (hk : k ≤ l.length) : (∀ n ∈ thrK l k, n.Ok) ∧ ∀ n ∈ thrK l k, n.w.length ≤ 100000 ∧ n.b.length ≤ 100000 := by
  have key : ∀ n ∈ thrK l k, n.Ok ∧ n.w.length ≤ 100000 ∧ n.b.length ≤ 100000 := by
    intro n hn
    obtain ⟨i, hi, rfl⟩ := List.mem_iff_getElem.1 hn
    rw [thrK_len] at hi
    have e : (thrK l k)[i]'(by rw [thrK_len]; exact hi) = (thrK l k).getD i default := by rw [List.getD_eq_getElem?_getD, List.getElem?_eq_getElem (by rw [thrK_len]; exact hi)]; rfl
    rw [e, thrK_get k hk i hi]
    split
    · exact ⟨Nod.Ok.thr o hl hi (getD_in h hi), (getD_in wl hi)⟩
    · exact ⟨getD_in h hi, getD_in wl hi⟩
  exact ⟨fun n hn => (key n hn).1, fun n hn => (key n hn).2⟩
noncomputable def ronce_p_I (l : List Nod) (k : Nat) : VS := stt 80 [(3, .own 900), (4, i64 k)] [(900, .slc 47 19 ((padK l k).map nodC))]
noncomputable def ronce_p_Z (l : List Nod) : VS := ronce_p_I l (l.length)
set_option maxRecDepth 100000 in
set_option maxHeartbeats 2000000 in
theorem ronce_p_s (l : List Nod) (o : orderedB l = true) (hl : l.length ≤ 1000) (okl : ∀ n ∈ l, n.Ok) (wl : ∀ n ∈ l, n.w.length ≤ 100000 ∧ n.b.length ≤ 100000) (k : Nat) (hk : k < l.length) : VT Try.prog (fnC Try.f94 [1, 1, 0, 1, 0, 0]) (ronce_p_I l k) .normal (ronce_p_I l (k + 1)) := by
  have q1 := padK_len l k
  have q2 := padK_mem o okl (fun a c ha hc hf => ha.took hc hf) k (by omega)
  have q3 := padK_mem o wl (fun a c ha hc hf => hc) k (by omega)
  have q4 := padK_get o k (by omega) k hk
  rw [if_neg (Nat.lt_irrefl k)] at q4
  have q5 := (ord_iff.1 o) k hk
  have q6 : 0 ≤ ((padK l k).getD k default).na ∧ ((padK l k).getD k default).na ≤ k := by rw [q4]; exact ⟨q5.1, q5.2.1⟩
  have q7 := getD_in q2 (i := k) (by omega)
  have q8 := getD_in q3 (i := k) (by omega)
  have q9 := fun (h : ((padK l k).getD k default).na > 0) => getD_in q2 (i := (((padK l k).getD k default).na - 1).toNat) (by omega)
  have qa := fun (h : ((padK l k).getD k default).na > 0) => getD_in q3 (i := (((padK l k).getD k default).na - 1).toNat) (by omega)
  have qb : (List.map nodC (padK l k)).length = l.length := by rw [List.length_map, q1]
  have qc : ((padK l k).getD k default).na > 0 → fitsN ((padK l k).getD (((padK l k).getD k default).na - 1).toNat default) ((padK l k).getD k default) = true → padK l (k + 1) = (padK l k).set k (tookN ((padK l k).getD (((padK l k).getD k default).na - 1).toNat default) ((padK l k).getD k default)) := fun h1 h2 => by rw [padK, padN, if_pos ⟨h1, h2⟩]
  have qd : ¬ (((padK l k).getD k default).na > 0 ∧ fitsN ((padK l k).getD (((padK l k).getD k default).na - 1).toNat default) ((padK l k).getD k default) = true) → padK l (k + 1) = padK l k := fun h1 => by rw [padK, padN, if_neg h1, set_self _ _ (by omega)]
  have oz0 := (decide_eq_true (p := ((↑k : Int) < (↑(List.map nodC (padK l k)).length : Int))) (by omega))
  have oz1 := (show 0 ≤ (↑k : Int) by omega)
  have oz2 := (show (↑k : Int) < (↑(List.map nodC (padK l k)).length : Int) by omega)
  have oz3 := (map_at (nodC) (default) (l := padK l k) (i := k) (by omega))
  have oz4 := (IntWalk.i64_in (((padK l k).getD k default).na - 1) (by omega))
  have oz5 := (show decide (((padK l k).getD k default).na > 0) = true → 0 ≤ ((padK l k).getD k default).na - 1 from (fun hc0 => have gc0 : ((padK l k).getD k default).na > 0 := (by first | exact hc0 | exact of_decide_eq_true hc0 | exact of_decide_eq_false hc0 | simpa [eqNums] using hc0 | (simp [eqNums] at hc0 ⊢; first | done | assumption | omega)); (by omega)))
  have oz6 := (show decide (((padK l k).getD k default).na > 0) = true → ((padK l k).getD k default).na - 1 < (↑(List.map nodC (padK l k)).length : Int) from (fun hc0 => have gc0 : ((padK l k).getD k default).na > 0 := (by first | exact hc0 | exact of_decide_eq_true hc0 | exact of_decide_eq_false hc0 | simpa [eqNums] using hc0 | (simp [eqNums] at hc0 ⊢; first | done | assumption | omega)); (by omega)))
  have oz7 := (map_at (nodC) (default) (l := padK l k) (i := (((padK l k).getD k default).na - 1).toNat) (by omega))
  have oz8 := (show decide (((padK l k).getD k default).na > 0) = true → VC Try.prog 154 (List.map (fun (x : Operand) => (evV (VS.mk [AV.any, AV.any, AV.any, AV.own 900, i64 (↑k : Int), AV.ptr 5 0 0, AV.any, AV.any, AV.any, AV.any, i64 (↑k : Int), AV.own 900, i64 (↑(List.map nodC (padK l k)).length : Int), bv (decide ((↑k : Int) < (↑(List.map nodC (padK l k)).length : Int))), AV.any, AV.any, AV.own 900, i64 (↑k : Int), AV.ptr 900 (↑k : Int).toNat 0, AV.agg [i64 ((padK l k).getD k default).kd, i64 ((padK l k).getD k default).na, i64 ((padK l k).getD k default).nb, i64 ((padK l k).getD k default).nk, i64 ((padK l k).getD k default).ns, i64 ((padK l k).getD k default).np, i64 ((padK l k).getD k default).no, i8 ((padK l k).getD k default).za, i8 ((padK l k).getD k default).zb, AV.sl 1 (List.map (row1 IntKind.i8) ((padK l k).getD k default).w), AV.sl 1 (List.map (row1 IntKind.i32) ((padK l k).getD k default).b), i32 ((padK l k).getD k default).qm, i64 ((padK l k).getD k default).qs, i8 ((padK l k).getD k default).qz, i32 ((padK l k).getD k default).rm, i64 ((padK l k).getD k default).rs, i8 ((padK l k).getD k default).rz, i8 ((padK l k).getD k default).lo, i8 ((padK l k).getD k default).hi], AV.ptr 5 0 1, i64 ((padK l k).getD k default).na, bv (decide (((padK l k).getD k default).na > 0)), bv (decide (((padK l k).getD k default).na > 0)), AV.opt (decide (((padK l k).getD k default).na > 0)) 23 true (AV.own 900), AV.opt (decide (((padK l k).getD k default).na > 0)) 23 true (AV.ptr 5 0 1), AV.opt (decide (((padK l k).getD k default).na > 0)) 23 true (i64 ((padK l k).getD k default).na), AV.opt (decide (((padK l k).getD k default).na > 0)) 23 true (i64 (((padK l k).getD k default).na - 1)), AV.opt (decide (((padK l k).getD k default).na > 0)) 23 true (AV.ptr 900 (((padK l k).getD k default).na - 1).toNat 0), AV.opt (decide (((padK l k).getD k default).na > 0)) 23 true (AV.agg [i64 ((padK l k).getD (((padK l k).getD k default).na - 1).toNat default).kd, i64 ((padK l k).getD (((padK l k).getD k default).na - 1).toNat default).na, i64 ((padK l k).getD (((padK l k).getD k default).na - 1).toNat default).nb, i64 ((padK l k).getD (((padK l k).getD k default).na - 1).toNat default).nk, i64 ((padK l k).getD (((padK l k).getD k default).na - 1).toNat default).ns, i64 ((padK l k).getD (((padK l k).getD k default).na - 1).toNat default).np, i64 ((padK l k).getD (((padK l k).getD k default).na - 1).toNat default).no, i8 ((padK l k).getD (((padK l k).getD k default).na - 1).toNat default).za, i8 ((padK l k).getD (((padK l k).getD k default).na - 1).toNat default).zb, AV.sl 1 (List.map (row1 IntKind.i8) ((padK l k).getD (((padK l k).getD k default).na - 1).toNat default).w), AV.sl 1 (List.map (row1 IntKind.i32) ((padK l k).getD (((padK l k).getD k default).na - 1).toNat default).b), i32 ((padK l k).getD (((padK l k).getD k default).na - 1).toNat default).qm, i64 ((padK l k).getD (((padK l k).getD k default).na - 1).toNat default).qs, i8 ((padK l k).getD (((padK l k).getD k default).na - 1).toNat default).qz, i32 ((padK l k).getD (((padK l k).getD k default).na - 1).toNat default).rm, i64 ((padK l k).getD (((padK l k).getD k default).na - 1).toNat default).rs, i8 ((padK l k).getD (((padK l k).getD k default).na - 1).toNat default).rz, i8 ((padK l k).getD (((padK l k).getD k default).na - 1).toNat default).lo, i8 ((padK l k).getD (((padK l k).getD k default).na - 1).toNat default).hi]), AV.opt (decide (((padK l k).getD k default).na > 0)) 23 true (AV.agg [i64 ((padK l k).getD k default).kd, i64 ((padK l k).getD k default).na, i64 ((padK l k).getD k default).nb, i64 ((padK l k).getD k default).nk, i64 ((padK l k).getD k default).ns, i64 ((padK l k).getD k default).np, i64 ((padK l k).getD k default).no, i8 ((padK l k).getD k default).za, i8 ((padK l k).getD k default).zb, AV.sl 1 (List.map (row1 IntKind.i8) ((padK l k).getD k default).w), AV.sl 1 (List.map (row1 IntKind.i32) ((padK l k).getD k default).b), i32 ((padK l k).getD k default).qm, i64 ((padK l k).getD k default).qs, i8 ((padK l k).getD k default).qz, i32 ((padK l k).getD k default).rm, i64 ((padK l k).getD k default).rs, i8 ((padK l k).getD k default).rz, i8 ((padK l k).getD k default).lo, i8 ((padK l k).getD k default).hi]), AV.any, AV.any, AV.any, AV.any, AV.any, AV.any, AV.any, AV.any, AV.any, AV.any, AV.any, AV.any, AV.any, AV.any, AV.any, AV.any, AV.any, AV.any, AV.any, AV.any, AV.any, AV.any, AV.any, AV.any, AV.any, AV.any, AV.any, AV.any, AV.any, AV.any, AV.any, AV.any, AV.any, AV.any, AV.any, AV.any, AV.any, AV.any, AV.any, AV.any, AV.any, AV.any, AV.any, AV.any, AV.any, AV.any, AV.any, AV.any, AV.any] [(900, Blk.slc 47 19 (List.map nodC (padK l k))), (5, Blk.var [i64 ((padK l k).getD k default).kd, i64 ((padK l k).getD k default).na, i64 ((padK l k).getD k default).nb, i64 ((padK l k).getD k default).nk, i64 ((padK l k).getD k default).ns, i64 ((padK l k).getD k default).np, i64 ((padK l k).getD k default).no, i8 ((padK l k).getD k default).za, i8 ((padK l k).getD k default).zb, AV.sl 1 (List.map (row1 IntKind.i8) ((padK l k).getD k default).w), AV.sl 1 (List.map (row1 IntKind.i32) ((padK l k).getD k default).b), i32 ((padK l k).getD k default).qm, i64 ((padK l k).getD k default).qs, i8 ((padK l k).getD k default).qz, i32 ((padK l k).getD k default).rm, i64 ((padK l k).getD k default).rs, i8 ((padK l k).getD k default).rz, i8 ((padK l k).getD k default).lo, i8 ((padK l k).getD k default).hi])]).t x).strip) #[Operand.tmp 29, Operand.tmp 30].toList ++ []) (bv (fitsN ((padK l k).getD (((padK l k).getD k default).na - 1).toNat default) ((padK l k).getD k default))) from (fun hc0 => have gc0 : ((padK l k).getD k default).na > 0 := (by first | exact hc0 | exact of_decide_eq_true hc0 | exact of_decide_eq_false hc0 | simpa [eqNums] using hc0 | (simp [eqNums] at hc0 ⊢; first | done | assumption | omega)); (@rfits_v ((padK l k).getD (((padK l k).getD k default).na - 1).toNat default) ((padK l k).getD k default) (by (exact q9 (by omega))) q7 (by omega) (by omega) (by omega) (by omega))))
  rcases Bool.eq_false_or_eq_true (decide (((padK l k).getD k default).na > 0) && fitsN ((padK l k).getD (((padK l k).getD k default).na - 1).toNat default) ((padK l k).getD k default)) with hc0 | hc0
  · have gc0 : ((padK l k).getD k default).na > 0 ∧ fitsN ((padK l k).getD (((padK l k).getD k default).na - 1).toNat default) ((padK l k).getD k default) = true := by first | (simp only [Bool.or_eq_true, Bool.or_eq_false_iff, Bool.and_eq_true, Bool.and_eq_false_iff, Bool.not_eq_true', Bool.not_eq_false', decide_eq_true_eq, decide_eq_false_iff_not, beq_iff_eq, bne_iff_ne, ne_eq, beq_eq_false_iff_ne, bne_eq_false_iff_eq, eqNums, Bool.and_true] at hc0; first | exact hc0 | omega) | simpa using hc0 | (simp at hc0 ⊢; omega) | (apply Classical.byContradiction; intro hn; simp_all [eqNums]; done) | (apply Classical.byContradiction; intro hn; simp [eqNums] at hc0 hn; omega)
    have oz14 := @rpadded_v ((padK l k).getD (((padK l k).getD k default).na - 1).toNat default) ((padK l k).getD k default) (by (exact q9 (by omega))) q7 (by omega) (by omega) (by omega) (by omega) (by (exact (Bool.and_eq_true_iff.1 (by assumption)).2))
    exact VT.run (W := [.r [] [], .br true, .r [] [.row (sO oz3)], .r [] [.op false, .op false, .op false, .op false, .n (nO oz4), .op true, .op false, .row (sO oz7), .op false, .op true, .callr (bv (fitsN ((padK l k).getD (((padK l k).getD k default).na - 1).toNat default) ((padK l k).getD k default))), .sel 2], .br true, .r [] [.n (nO oz4), .row (sO oz7), .callr (rO oz14), .nat 0], .r [] [.n ((↑k : Int) + 1)]]) (G := [.any (rg [(5, 1), (10, 14), (32, 12)]), .drop [5], .weak 4 (i64 (↑(k + 1) : Int)), .blk 900 (Blk.slc 47 19 (List.map nodC (padK l (k + 1)))), .sort]) (by kernel_rfl) (.c oz0 <| .c oz1 <| .c oz2 <| .c oz3 <| .c oz4 <| .c oz5 <| .c oz6 <| .c oz7 <| .c oz8 <| .c hc0 <| .c oz4 <| .c (show 0 ≤ ((padK l k).getD k default).na - 1 by omega) <| .c (show ((padK l k).getD k default).na - 1 < (↑(List.map nodC (padK l k)).length : Int) by omega) <| .c oz7 <| .c oz14 <| .c oz1 <| .c oz2 <| .c (show (↑k : Int).toNat < (List.map nodC (padK l k)).length by omega) <| .c (IntWalk.i64_in ((↑k : Int) + 1) (by omega)) <| .c (Weak.int (k := .i64) (show (((↑k : Int) + 1) : Int) = ((↑(k + 1) : Int)) from (by omega))) <| .c (show BlkW (Blk.slc 47 19 ((List.map nodC (padK l k)).set (↑k : Int).toNat [i64 (tookN ((padK l k).getD (((padK l k).getD k default).na - 1).toNat default) ((padK l k).getD k default)).kd, i64 (tookN ((padK l k).getD (((padK l k).getD k default).na - 1).toNat default) ((padK l k).getD k default)).na, i64 (tookN ((padK l k).getD (((padK l k).getD k default).na - 1).toNat default) ((padK l k).getD k default)).nb, i64 (tookN ((padK l k).getD (((padK l k).getD k default).na - 1).toNat default) ((padK l k).getD k default)).nk, i64 (tookN ((padK l k).getD (((padK l k).getD k default).na - 1).toNat default) ((padK l k).getD k default)).ns, i64 (tookN ((padK l k).getD (((padK l k).getD k default).na - 1).toNat default) ((padK l k).getD k default)).np, i64 (tookN ((padK l k).getD (((padK l k).getD k default).na - 1).toNat default) ((padK l k).getD k default)).no, i8 (tookN ((padK l k).getD (((padK l k).getD k default).na - 1).toNat default) ((padK l k).getD k default)).za, i8 (tookN ((padK l k).getD (((padK l k).getD k default).na - 1).toNat default) ((padK l k).getD k default)).zb, AV.sl 1 (List.map (row1 IntKind.i8) (tookN ((padK l k).getD (((padK l k).getD k default).na - 1).toNat default) ((padK l k).getD k default)).w), AV.sl 1 (List.map (row1 IntKind.i32) (tookN ((padK l k).getD (((padK l k).getD k default).na - 1).toNat default) ((padK l k).getD k default)).b), i32 (tookN ((padK l k).getD (((padK l k).getD k default).na - 1).toNat default) ((padK l k).getD k default)).qm, i64 (tookN ((padK l k).getD (((padK l k).getD k default).na - 1).toNat default) ((padK l k).getD k default)).qs, i8 (tookN ((padK l k).getD (((padK l k).getD k default).na - 1).toNat default) ((padK l k).getD k default)).qz, i32 (tookN ((padK l k).getD (((padK l k).getD k default).na - 1).toNat default) ((padK l k).getD k default)).rm, i64 (tookN ((padK l k).getD (((padK l k).getD k default).na - 1).toNat default) ((padK l k).getD k default)).rs, i8 (tookN ((padK l k).getD (((padK l k).getD k default).na - 1).toNat default) ((padK l k).getD k default)).rz, i8 (tookN ((padK l k).getD (((padK l k).getD k default).na - 1).toNat default) ((padK l k).getD k default)).lo, i8 (tookN ((padK l k).getD (((padK l k).getD k default).na - 1).toNat default) ((padK l k).getD k default)).hi])) (Blk.slc 47 19 (List.map nodC (padK l (k + 1)))) from (BlkW.rows (rows_to (nodC) (r := (List.map nodC (padK l k)).set (↑k : Int).toNat [i64 (tookN ((padK l k).getD (((padK l k).getD k default).na - 1).toNat default) ((padK l k).getD k default)).kd, i64 (tookN ((padK l k).getD (((padK l k).getD k default).na - 1).toNat default) ((padK l k).getD k default)).na, i64 (tookN ((padK l k).getD (((padK l k).getD k default).na - 1).toNat default) ((padK l k).getD k default)).nb, i64 (tookN ((padK l k).getD (((padK l k).getD k default).na - 1).toNat default) ((padK l k).getD k default)).nk, i64 (tookN ((padK l k).getD (((padK l k).getD k default).na - 1).toNat default) ((padK l k).getD k default)).ns, i64 (tookN ((padK l k).getD (((padK l k).getD k default).na - 1).toNat default) ((padK l k).getD k default)).np, i64 (tookN ((padK l k).getD (((padK l k).getD k default).na - 1).toNat default) ((padK l k).getD k default)).no, i8 (tookN ((padK l k).getD (((padK l k).getD k default).na - 1).toNat default) ((padK l k).getD k default)).za, i8 (tookN ((padK l k).getD (((padK l k).getD k default).na - 1).toNat default) ((padK l k).getD k default)).zb, AV.sl 1 (List.map (row1 IntKind.i8) (tookN ((padK l k).getD (((padK l k).getD k default).na - 1).toNat default) ((padK l k).getD k default)).w), AV.sl 1 (List.map (row1 IntKind.i32) (tookN ((padK l k).getD (((padK l k).getD k default).na - 1).toNat default) ((padK l k).getD k default)).b), i32 (tookN ((padK l k).getD (((padK l k).getD k default).na - 1).toNat default) ((padK l k).getD k default)).qm, i64 (tookN ((padK l k).getD (((padK l k).getD k default).na - 1).toNat default) ((padK l k).getD k default)).qs, i8 (tookN ((padK l k).getD (((padK l k).getD k default).na - 1).toNat default) ((padK l k).getD k default)).qz, i32 (tookN ((padK l k).getD (((padK l k).getD k default).na - 1).toNat default) ((padK l k).getD k default)).rm, i64 (tookN ((padK l k).getD (((padK l k).getD k default).na - 1).toNat default) ((padK l k).getD k default)).rs, i8 (tookN ((padK l k).getD (((padK l k).getD k default).na - 1).toNat default) ((padK l k).getD k default)).rz, i8 (tookN ((padK l k).getD (((padK l k).getD k default).na - 1).toNat default) ((padK l k).getD k default)).lo, i8 (tookN ((padK l k).getD (((padK l k).getD k default).na - 1).toNat default) ((padK l k).getD k default)).hi]) (l := (padK l k).set (↑k : Int).toNat (Nod.mk (tookN ((padK l k).getD (((padK l k).getD k default).na - 1).toNat default) ((padK l k).getD k default)).kd (tookN ((padK l k).getD (((padK l k).getD k default).na - 1).toNat default) ((padK l k).getD k default)).na (tookN ((padK l k).getD (((padK l k).getD k default).na - 1).toNat default) ((padK l k).getD k default)).nb (tookN ((padK l k).getD (((padK l k).getD k default).na - 1).toNat default) ((padK l k).getD k default)).nk (tookN ((padK l k).getD (((padK l k).getD k default).na - 1).toNat default) ((padK l k).getD k default)).ns (tookN ((padK l k).getD (((padK l k).getD k default).na - 1).toNat default) ((padK l k).getD k default)).np (tookN ((padK l k).getD (((padK l k).getD k default).na - 1).toNat default) ((padK l k).getD k default)).no (tookN ((padK l k).getD (((padK l k).getD k default).na - 1).toNat default) ((padK l k).getD k default)).za (tookN ((padK l k).getD (((padK l k).getD k default).na - 1).toNat default) ((padK l k).getD k default)).zb (tookN ((padK l k).getD (((padK l k).getD k default).na - 1).toNat default) ((padK l k).getD k default)).w (tookN ((padK l k).getD (((padK l k).getD k default).na - 1).toNat default) ((padK l k).getD k default)).b (tookN ((padK l k).getD (((padK l k).getD k default).na - 1).toNat default) ((padK l k).getD k default)).qm (tookN ((padK l k).getD (((padK l k).getD k default).na - 1).toNat default) ((padK l k).getD k default)).qs (tookN ((padK l k).getD (((padK l k).getD k default).na - 1).toNat default) ((padK l k).getD k default)).qz (tookN ((padK l k).getD (((padK l k).getD k default).na - 1).toNat default) ((padK l k).getD k default)).rm (tookN ((padK l k).getD (((padK l k).getD k default).na - 1).toNat default) ((padK l k).getD k default)).rs (tookN ((padK l k).getD (((padK l k).getD k default).na - 1).toNat default) ((padK l k).getD k default)).rz (tookN ((padK l k).getD (((padK l k).getD k default).na - 1).toNat default) ((padK l k).getD k default)).lo (tookN ((padK l k).getD (((padK l k).getD k default).na - 1).toNat default) ((padK l k).getD k default)).hi)) (m := padK l (k + 1)) (by first | (simp only [List.map_append, List.map_cons, List.map_nil, List.map_set, List.map_replicate, List.map_take, List.map_drop]; done) | rfl | (simp only [List.map_append, List.map_cons, List.map_nil, List.map_set, List.map_replicate, List.map_take, List.map_drop]; rfl) | (simp only [List.map_append, List.map_cons, List.map_nil, List.map_set, List.map_replicate, List.map_take, List.map_drop, nodC, ints]; done)) (show ((padK l k).set (↑k : Int).toNat (Nod.mk (tookN ((padK l k).getD (((padK l k).getD k default).na - 1).toNat default) ((padK l k).getD k default)).kd (tookN ((padK l k).getD (((padK l k).getD k default).na - 1).toNat default) ((padK l k).getD k default)).na (tookN ((padK l k).getD (((padK l k).getD k default).na - 1).toNat default) ((padK l k).getD k default)).nb (tookN ((padK l k).getD (((padK l k).getD k default).na - 1).toNat default) ((padK l k).getD k default)).nk (tookN ((padK l k).getD (((padK l k).getD k default).na - 1).toNat default) ((padK l k).getD k default)).ns (tookN ((padK l k).getD (((padK l k).getD k default).na - 1).toNat default) ((padK l k).getD k default)).np (tookN ((padK l k).getD (((padK l k).getD k default).na - 1).toNat default) ((padK l k).getD k default)).no (tookN ((padK l k).getD (((padK l k).getD k default).na - 1).toNat default) ((padK l k).getD k default)).za (tookN ((padK l k).getD (((padK l k).getD k default).na - 1).toNat default) ((padK l k).getD k default)).zb (tookN ((padK l k).getD (((padK l k).getD k default).na - 1).toNat default) ((padK l k).getD k default)).w (tookN ((padK l k).getD (((padK l k).getD k default).na - 1).toNat default) ((padK l k).getD k default)).b (tookN ((padK l k).getD (((padK l k).getD k default).na - 1).toNat default) ((padK l k).getD k default)).qm (tookN ((padK l k).getD (((padK l k).getD k default).na - 1).toNat default) ((padK l k).getD k default)).qs (tookN ((padK l k).getD (((padK l k).getD k default).na - 1).toNat default) ((padK l k).getD k default)).qz (tookN ((padK l k).getD (((padK l k).getD k default).na - 1).toNat default) ((padK l k).getD k default)).rm (tookN ((padK l k).getD (((padK l k).getD k default).na - 1).toNat default) ((padK l k).getD k default)).rs (tookN ((padK l k).getD (((padK l k).getD k default).na - 1).toNat default) ((padK l k).getD k default)).rz (tookN ((padK l k).getD (((padK l k).getD k default).na - 1).toNat default) ((padK l k).getD k default)).lo (tookN ((padK l k).getD (((padK l k).getD k default).na - 1).toNat default) ((padK l k).getD k default)).hi)) = (padK l (k + 1)) from (by (simp_all; done)))))) <| .n)
  · have gc0 : ¬((padK l k).getD k default).na > 0 ∨ fitsN ((padK l k).getD (((padK l k).getD k default).na - 1).toNat default) ((padK l k).getD k default) = false := by first | (simp only [Bool.or_eq_true, Bool.or_eq_false_iff, Bool.and_eq_true, Bool.and_eq_false_iff, Bool.not_eq_true', Bool.not_eq_false', decide_eq_true_eq, decide_eq_false_iff_not, beq_iff_eq, bne_iff_ne, ne_eq, beq_eq_false_iff_ne, bne_eq_false_iff_eq, eqNums, Bool.and_true] at hc0; first | exact hc0 | omega) | simpa using hc0 | (simp at hc0 ⊢; omega) | (apply Classical.byContradiction; intro hn; simp_all [eqNums]; done) | (apply Classical.byContradiction; intro hn; simp [eqNums] at hc0 hn; omega)
    exact VT.run (W := [.r [] [], .br true, .r [] [.row (sO oz3)], .r [] [.op false, .op false, .op false, .op false, .n (nO oz4), .op true, .op false, .row (sO oz7), .op false, .op true, .callr (bv (fitsN ((padK l k).getD (((padK l k).getD k default).na - 1).toNat default) ((padK l k).getD k default))), .sel 2], .br false, .r [] [.n ((↑k : Int) + 1)]]) (G := [.any (rg [(5, 1), (10, 14), (32, 1)]), .drop [5], .weak 4 (i64 (↑(k + 1) : Int)), .blk 900 (Blk.slc 47 19 (List.map nodC (padK l (k + 1)))), .sort]) (by kernel_rfl) (.c oz0 <| .c oz1 <| .c oz2 <| .c oz3 <| .c oz4 <| .c oz5 <| .c oz6 <| .c oz7 <| .c oz8 <| .c hc0 <| .c (IntWalk.i64_in ((↑k : Int) + 1) (by omega)) <| .c (Weak.int (k := .i64) (show (((↑k : Int) + 1) : Int) = ((↑(k + 1) : Int)) from (by omega))) <| .c (show BlkW (Blk.slc 47 19 (List.map nodC (padK l k))) (Blk.slc 47 19 (List.map nodC (padK l (k + 1)))) from (BlkW.rows (rows_to (nodC) (r := List.map nodC (padK l k)) (l := padK l k) (m := padK l (k + 1)) rfl (show (padK l k) = (padK l (k + 1)) from (by (rw [qd (by rintro ⟨h1, h2⟩; simp_all)])))))) <| .n)
set_option maxRecDepth 100000 in
set_option maxHeartbeats 2000000 in
theorem ronce_p_e (l : List Nod) (o : orderedB l = true) (hl : l.length ≤ 1000) (okl : ∀ n ∈ l, n.Ok) (wl : ∀ n ∈ l, n.w.length ≤ 100000 ∧ n.b.length ≤ 100000) : VT Try.prog (fnC Try.f94 [1, 1, 0, 1, 0, 0]) (ronce_p_I l (l.length)) (.exit 0) (ronce_p_Z l) := by
  have qb : (List.map nodC (padK l l.length)).length = l.length := by rw [List.length_map, padK_len]
  exact VT.run (W := [.r [] [], .br false]) (G := [.any (rg [(10, 4)]), .sort]) (by kernel_rfl) (.c (decide_eq_false (p := ((↑l.length : Int) < (↑(List.map nodC (padK l l.length)).length : Int))) (by omega)) <| .n)
theorem ronce_p (l : List Nod) (o : orderedB l = true) (hl : l.length ≤ 1000) (okl : ∀ n ∈ l, n.Ok) (wl : ∀ n ∈ l, n.w.length ≤ 100000 ∧ n.b.length ≤ 100000) : VT Try.prog (fnC Try.f94 [1, 1, 0, 1, 0]) (ronce_p_I l 0) (.exit 0) (ronce_p_Z l) :=
  VT.loop (fun k => ronce_p_I l k) (l.length) (fun k hk => ronce_p_s l o hl okl wl k hk) (ronce_p_e l o hl okl wl) (by intro h; cases h)
end Go.Proofs.Ytgecmooedhnenaa

/- The sums of a window, by the program. No condition. -/
namespace Go.Proofs.Ytgecmooedhnenaa
open Go.RowKit
set_option linter.unusedSimpArgs false
set_option linter.unusedVariables false
set_option linter.unnecessarySimpa false

/-- A tensor and a node that make sums. -/
structure CvOk (T : Ten) (n : Nod) : Prop where
  ok : T.Ok
  okn : n.Ok
  r : tenRight T = true
  e : (convE ⟨T.h, T.x, T.c⟩ n).2 = 0
theorem convE_ok {t : Shp} {n : Nod} (h : (convE t n).2 = 0) : (slideE t n.nk n.ns n.np n.no).2 = 0 ∧ (n.w.length : Int) = n.no * n.nk * n.nk * t.c ∧ n.w.length ≤ 16384 ∧ (n.b.length : Int) = n.no ∧ (convE t n).1 = (slideE t n.nk n.ns n.np n.no).1 := by
  unfold convE at h ⊢
  split at h
  · rename_i h1; exact absurd h h1
  · split at h
    · simp at h
    · rename_i h1 h2
      rw [if_neg h1, if_neg h2]
      exact ⟨by omega, by omega, by omega, by omega, rfl⟩
structure CvN (T : Ten) (n : Nod) : Prop where
  h1 : 1 ≤ T.h
  h16 : T.h ≤ 16
  x1 : 1 ≤ T.x
  x16 : T.x ≤ 16
  c1 : 1 ≤ T.c
  k1 : 1 ≤ n.nk
  k5 : n.nk ≤ 5
  s1 : 1 ≤ n.ns
  s4 : n.ns ≤ 4
  p0 : 0 ≤ n.np
  p4 : n.np ≤ 4
  o1 : 1 ≤ n.no
  o2 : n.no ≤ 1024
  wl : (n.w.length : Int) = n.no * n.nk * n.nk * T.c
  w2 : n.w.length ≤ 16384
  bl : (n.b.length : Int) = n.no
  dl : (T.d.length : Int) = T.h * T.x * T.c
  d2 : T.d.length ≤ 1024
  sh : (convE ⟨T.h, T.x, T.c⟩ n).1.h = (T.h + 2 * n.np - n.nk) / n.ns + 1
  sx : (convE ⟨T.h, T.x, T.c⟩ n).1.x = (T.x + 2 * n.np - n.nk) / n.ns + 1
  sc : (convE ⟨T.h, T.x, T.c⟩ n).1.c = n.no
  he : 1 ≤ (convE ⟨T.h, T.x, T.c⟩ n).1.h ∧ (convE ⟨T.h, T.x, T.c⟩ n).1.h ≤ 16
  xe : 1 ≤ (convE ⟨T.h, T.x, T.c⟩ n).1.x ∧ (convE ⟨T.h, T.x, T.c⟩ n).1.x ≤ 16
  el : (convE ⟨T.h, T.x, T.c⟩ n).1.h * (convE ⟨T.h, T.x, T.c⟩ n).1.x * n.no ≤ 1024
  en : elems (convE ⟨T.h, T.x, T.c⟩ n).1.h (convE ⟨T.h, T.x, T.c⟩ n).1.x (convE ⟨T.h, T.x, T.c⟩ n).1.c = (convE ⟨T.h, T.x, T.c⟩ n).1.h * (convE ⟨T.h, T.x, T.c⟩ n).1.x * n.no
theorem CvOk.n {T : Ten} {n : Nod} (h : CvOk T n) : CvN T n := by
  obtain ⟨ok, okn, r, e⟩ := h
  obtain ⟨e1, e2, e3, e4, e5⟩ := convE_ok e
  obtain ⟨a1, a2, a3, a4, a5, a6, a7, a8, a9, a10, a11, a12⟩ := slideE_ok e1
  have c := elems_ok a12
  unfold tenRight at r
  rw [Bool.and_eq_true, decide_eq_true_eq, decide_eq_true_eq] at r
  have b' := elems_ok r.1
  have e5' : (convE ⟨T.h, T.x, T.c⟩ n).1 = ⟨(T.h + 2 * n.np - n.nk) / n.ns + 1, (T.x + 2 * n.np - n.nk) / n.ns + 1, n.no⟩ := e5.trans a11
  have e2' : (n.w.length : Int) = n.no * n.nk * n.nk * T.c := e2
  clear e5 a11 e2 a9 a10
  have c' : 1 ≤ (T.h + 2 * n.np - n.nk) / n.ns + 1 ∧ (T.h + 2 * n.np - n.nk) / n.ns + 1 ≤ 16 ∧ 1 ≤ (T.x + 2 * n.np - n.nk) / n.ns + 1 ∧ (T.x + 2 * n.np - n.nk) / n.ns + 1 ≤ 16 ∧ 1 ≤ n.no ∧ n.no ≤ 1024 ∧ ((T.h + 2 * n.np - n.nk) / n.ns + 1) * ((T.x + 2 * n.np - n.nk) / n.ns + 1) * n.no ≤ 1024 ∧
    elems ((T.h + 2 * n.np - n.nk) / n.ns + 1) ((T.x + 2 * n.np - n.nk) / n.ns + 1) n.no = ((T.h + 2 * n.np - n.nk) / n.ns + 1) * ((T.x + 2 * n.np - n.nk) / n.ns + 1) * n.no := c
  clear c
  refine ⟨by omega, by omega, by omega, by omega, by omega, by omega, by omega, by omega, by omega, by omega, by omega, by omega, by omega, e2', e3, e4, by omega, by omega, by rw [e5'], by rw [e5'], by rw [e5'], ?_, ?_, ?_, ?_⟩ <;> rw [e5'] <;> simp only <;> omega
/-- What a window makes. -/
def sumAcc (T : Ten) (n : Nod) (h w o : Int) : Nat → Int
  | 0 => gt n.b o
  | i + 1 => if 0 ≤ h * n.ns + (i : Int) - n.np ∧ h * n.ns + (i : Int) - n.np < T.h then IntKind.i32.wrap (sumAcc T n h w o i + rowAcc T n ((o * n.nk + (i : Int)) * n.nk * T.c) (h * n.ns + (i : Int) - n.np) (w * n.ns - n.np) n.nk.toNat) else sumAcc T n h w o i

end Go.Proofs.Ytgecmooedhnenaa

/- All sums of a window, by the program and by the document. No condition. -/
namespace Go.Proofs.Ytgecmooedhnenaa
open Go.RowKit
set_option linter.unusedSimpArgs false
set_option linter.unusedVariables false
set_option linter.unnecessarySimpa false

abbrev cvS (T : Ten) (n : Nod) (h w o : Int) : Int := sumAcc T n h w o n.nk.toNat
def outL (T : Ten) (n : Nod) : Nat → List Int
  | 0 => []
  | i + 1 => outL T n i ++ (List.range n.no.toNat).map fun (o : Nat) => cvS T n ((i : Int) / (convE ⟨T.h, T.x, T.c⟩ n).1.x) ((i : Int) % (convE ⟨T.h, T.x, T.c⟩ n).1.x) (o : Int)
/-- What comes of it, or why nothing. -/
def convOf (T : Ten) (n : Nod) : Ten × Int := if tenRight T = false then (⟨0, 0, 0, []⟩, 5) else if (convE ⟨T.h, T.x, T.c⟩ n).2 ≠ 0 then (⟨0, 0, 0, []⟩, (convE ⟨T.h, T.x, T.c⟩ n).2) else (⟨(convE ⟨T.h, T.x, T.c⟩ n).1.h, (convE ⟨T.h, T.x, T.c⟩ n).1.x, (convE ⟨T.h, T.x, T.c⟩ n).1.c, outL T n ((convE ⟨T.h, T.x, T.c⟩ n).1.h * (convE ⟨T.h, T.x, T.c⟩ n).1.x).toNat⟩, 0)
end Go.Proofs.Ytgecmooedhnenaa

/- The sums of a window, by the document. No condition. -/
namespace Go.Proofs.Ytgecmooedhnenaa
open Go.RowKit
set_option linter.unusedSimpArgs false
set_option linter.unusedVariables false
set_option linter.unnecessarySimpa false

/-- Sums that begin with v. -/
def accN (v : Int) (f : Nat → Int) : Nat → Int
  | 0 => v
  | k + 1 => accN v f k + f k
/-- Whether a place lies within. -/
abbrev inT (T : Ten) (y x : Int) : Prop := 0 ≤ y ∧ y < T.h ∧ 0 ≤ x ∧ x < T.x
/-- A column of a window, over whole numbers. -/
def colE (T : Ten) (n : Nod) (o i y x : Int) (j : Nat) : Int := sumN (cterm T n (((o * n.nk + i) * n.nk + (j : Int)) * T.c) ((y * T.x + (x + (j : Int))) * T.c)) (if inT T y (x + (j : Int)) then T.c.toNat else 0)
end Go.Proofs.Ytgecmooedhnenaa

/- All sums of a window, by the document. No condition. -/
namespace Go.Proofs.Ytgecmooedhnenaa
open Go.RowKit
set_option linter.unusedSimpArgs false
set_option linter.unusedVariables false
set_option linter.unnecessarySimpa false

/-- A row of a window, over whole numbers. -/
def rowE (T : Ten) (n : Nod) (h w o : Int) (i : Nat) : Int := sumN (colE T n o i (h * n.ns + (i : Int) - n.np) (w * n.ns - n.np)) n.nk.toNat
/-- A window's sum, over whole numbers. -/
def sumE (T : Ten) (n : Nod) (h w o : Int) : Int := accN (n.b.getD o.toNat 0) (rowE T n h w o) n.nk.toNat
def refO (T : Ten) (n : Nod) (h w : Nat) (o : Nat) : List Int := (List.range o).map fun (o : Nat) => IntKind.i32.wrap (sumE T n h w o)
def refW (T : Ten) (n : Nod) (h : Nat) : Nat → List Int
  | 0 => []
  | w + 1 => refW T n h w ++ refO T n h w n.no.toNat
def refH (T : Ten) (n : Nod) : Nat → List Int
  | 0 => []
  | h + 1 => refH T n h ++ refW T n h (convE ⟨T.h, T.x, T.c⟩ n).1.x.toNat
end Go.Proofs.Ytgecmooedhnenaa

/- The sums of the program are those of the document. No condition. -/
namespace Go.Proofs.Ytgecmooedhnenaa
open Go.RowKit
set_option linter.unusedSimpArgs false
set_option linter.unusedVariables false
set_option linter.unnecessarySimpa false

theorem w32_add (a b : Int) : IntKind.i32.wrap (IntKind.i32.wrap a + b) = IntKind.i32.wrap (a + b) := by
  simp only [IntKind.wrap_i32]; omega
theorem w32_add2 (a b : Int) : IntKind.i32.wrap (IntKind.i32.wrap a + IntKind.i32.wrap b) = IntKind.i32.wrap (a + b) := by
  simp only [IntKind.wrap_i32]; omega
theorem acc32_eq (v : Int) (f : Nat → Int) : ∀ k, acc32 (IntKind.i32.wrap v) f k = IntKind.i32.wrap (v + sumN f k)
  | 0 => by simp [acc32, sumN]
  | k + 1 => by rw [acc32, acc32_eq v f k, w32_add, sumN, Int.add_assoc]
theorem rowAcc_eq {T : Ten} {n : Nod} (o i h w : Int) (h0 : 0 ≤ h) (h1 : h < T.h) : ∀ j, rowAcc T n ((o * n.nk + i) * n.nk * T.c) h w j = IntKind.i32.wrap (sumN (colE T n o i h w) j)
  | 0 => by simp only [rowAcc, sumN]; rfl
  | j + 1 => by
    rw [rowAcc, sumN, rowAcc_eq o i h w h0 h1 j, colE]
    by_cases hx : 0 ≤ w + (j : Int) ∧ w + (j : Int) < T.x
    · rw [if_pos hx, if_pos ⟨h0, h1, hx.1, hx.2⟩, acc32_eq, ← Int.add_mul]
    · rw [if_neg hx, if_neg (fun q => hx ⟨q.2.2.1, q.2.2.2⟩)]
      simp [sumN]
theorem sumAcc_eq {T : Ten} {n : Nod} (ok : CvOk T n) (h w o : Int) : ∀ i, sumAcc T n h w o i = IntKind.i32.wrap (accN (n.b.getD o.toNat 0) (rowE T n h w o) i)
  | 0 => by
    rw [sumAcc, accN, IntWalk.i32_in _ (gt32 ok.okn.b _)]
  | i + 1 => by
    rw [sumAcc, accN, sumAcc_eq ok h w o i]
    by_cases hy : 0 ≤ h * n.ns + (i : Int) - n.np ∧ h * n.ns + (i : Int) - n.np < T.h
    · rw [if_pos hy, rowAcc_eq o i _ _ hy.1 hy.2, w32_add2]; rfl
    · rw [if_neg hy]
      have : rowE T n h w o i = 0 := by
        unfold rowE
        refine sumN_zero _ fun j _ => ?_
        unfold colE
        rw [if_neg (fun q => hy ⟨q.1, q.2.1⟩)]; rfl
      rw [this, Int.add_zero]
theorem cvS_eq {T : Ten} {n : Nod} (ok : CvOk T n) (h w o : Int) : cvS T n h w o = IntKind.i32.wrap (sumE T n h w o) := sumAcc_eq ok h w o _
theorem outL_ref {T : Ten} {n : Nod} (ok : CvOk T n) (h : Nat) : ∀ w, w ≤ (convE ⟨T.h, T.x, T.c⟩ n).1.x.toNat → outL T n (h * (convE ⟨T.h, T.x, T.c⟩ n).1.x.toNat) = refH T n h → outL T n (h * (convE ⟨T.h, T.x, T.c⟩ n).1.x.toNat + w) = refH T n h ++ refW T n h w
  | 0, _, h0 => by rw [Nat.add_zero, h0]; simp [refW]
  | w + 1, hw, h0 => by
    have hx := ok.n.xe
    rw [← Nat.add_assoc, outL, outL_ref ok h w (by omega) h0, refW, List.append_assoc]
    congr 2
    unfold refO
    apply List.map_congr_left
    intro o _
    have e1 : ((h * (convE ⟨T.h, T.x, T.c⟩ n).1.x.toNat + w : Nat) : Int) = (h : Int) * (convE ⟨T.h, T.x, T.c⟩ n).1.x + (w : Int) := by
      rw [Int.natCast_add, Int.natCast_mul, Int.toNat_of_nonneg (by omega)]
    have e2 : ((h : Int) * (convE ⟨T.h, T.x, T.c⟩ n).1.x + (w : Int)) / (convE ⟨T.h, T.x, T.c⟩ n).1.x = h := by
      rw [Int.add_comm, Int.add_mul_ediv_right _ _ (by omega), Int.ediv_eq_zero_of_lt (by omega) (by omega)]; omega
    have e3 : ((h : Int) * (convE ⟨T.h, T.x, T.c⟩ n).1.x + (w : Int)) % (convE ⟨T.h, T.x, T.c⟩ n).1.x = w := by
      rw [Int.add_comm, Int.add_mul_emod_self_right, Int.emod_eq_of_lt (by omega) (by omega)]
    rw [e1, e2, e3, cvS_eq ok]
theorem outL_all {T : Ten} {n : Nod} (ok : CvOk T n) : ∀ h, outL T n (h * (convE ⟨T.h, T.x, T.c⟩ n).1.x.toNat) = refH T n h
  | 0 => by simp [outL, refH]
  | h + 1 => by rw [Nat.add_mul, Nat.one_mul, outL_ref ok h _ (Nat.le_refl _) (outL_all ok h), refH]
theorem outL_fin {T : Ten} {n : Nod} (ok : CvOk T n) : outL T n ((convE ⟨T.h, T.x, T.c⟩ n).1.h * (convE ⟨T.h, T.x, T.c⟩ n).1.x).toNat = refH T n (convE ⟨T.h, T.x, T.c⟩ n).1.h.toNat := by
  have h1 := ok.n.he
  have h2 := ok.n.xe
  rw [← outL_all ok]
  congr 1
  apply Int.ofNat_inj.1
  rw [Int.natCast_mul, Int.toNat_of_nonneg (Int.mul_nonneg (by omega) (by omega)), Int.toNat_of_nonneg (by omega), Int.toNat_of_nonneg (by omega)]
end Go.Proofs.Ytgecmooedhnenaa

