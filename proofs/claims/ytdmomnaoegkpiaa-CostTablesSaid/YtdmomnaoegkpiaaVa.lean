/- Whether blocks may be, by the program and by the document. No condition. -/
import Derived.Test.YtdmomnaoegkpiaaGdH
import Derived.Test.YtdmomnaoegkpiaaGs3
import Derived.Test.YtdmomnaoegkpiaaBlc
namespace Go.Proofs.Ytdmomnaoegkpiaa
open Go.RowKit
set_option linter.unusedSimpArgs false
set_option linter.unusedVariables false
set_option linter.unnecessarySimpa false

abbrev fullR : Rng := ⟨-128, 127⟩
theorem fullR_in : fullR.In8 := ⟨⟨by decide, by decide⟩, ⟨by decide, by decide⟩⟩
abbrev rchsL (l : List Nod) : List Rng := growL stepR l fullR l.length
def lastR (l : List Nod) : Rng := (rchsL l).getD l.length default
theorem rchsL_len (l : List Nod) : (rchsL l).length = l.length + 1 := growL_len stepR l fullR l.length
theorem lastR_in {l : List Nod} (okl : ∀ n ∈ l, n.Ok) : (lastR l).In8 := getD_in (flow_in okl fullR_in (Nat.le_refl _)) (show l.length < (rchsL l).length by rw [rchsL_len]; omega)
theorem lastR_i {l : List Nod} {i : Nat} (hi : i = l.length) : (growL stepR l fullR l.length).getD i default = lastR l := by subst hi; rfl
/-- What is wrong with an exit's weights. -/
def verdE (s : Shp) (w b : List Int) (nd cl : Int) : Int :=
  if elems s.h s.x s.c = 0 then 5 else if cl < 2 ∨ 16 < cl then 2
  else if (w.length : Int) ≠ cl * elems s.h s.x s.c ∨ 16384 < (w.length : Int) ∨ (b.length : Int) ≠ cl then 9 else if nd < 0 then 11 else 0
theorem clel_bd {cl : Int} (s : Shp) (h : 2 ≤ cl ∧ cl ≤ 16) : 0 ≤ cl * elems s.h s.x s.c ∧ cl * elems s.h s.x s.c ≤ 16384 := by
  have h1 := elems_in s.h s.x s.c
  have := mul_bd (A := 16) (B := 1024) (a := cl) (by omega) (by omega) h1.1 h1.2
  omega
set_option maxRecDepth 100000 in
set_option maxHeartbeats 2000000 in
theorem vcheck_v (s : Shp) (w b : List Int) (nd cl : Int) (ok : s.Ok) (wl : w.length ≤ 100000) (bl : b.length ≤ 100000) : VC Try.prog 156 ([shp s, .agg (hedC w b nd), i64 cl]) (i64 (verdE s w b nd cl)) := by
  obtain ⟨p1, p2, p3⟩ := id ok
  have q1 := elems_in s.h s.x s.c
  have q2 := @clel_bd cl s
  have oz0 := @elems_v (s.h) (s.x) (s.c) p1 p2 p3
  rcases Bool.eq_false_or_eq_true (elems s.h s.x s.c == 0) with hc0 | hc0
  · have gc0 : elems s.h s.x s.c = 0 := bet hc0
    exact (VC.run (fn := Try.f156) (W := [.r [] [], .r [] [.callr (rO oz0)], .r [] [], .br true, .r [] []]) (r := i64 5) Try.func156 (by kernel_rfl) (.c oz0 <| .c hc0 <| .n)).weak (WeakL.refl _) (Weak.int (show ((5) : Int) = (verdE s w b nd cl) from (by (unfold verdE; (try simp only [List.length_map] at *); (repeat first | rw [if_pos (by omega)] | rw [if_neg (by omega)])))))
  · have gc0 : ¬elems s.h s.x s.c = 0 := bef hc0
    rcases Bool.eq_false_or_eq_true (decide (cl < 2) || decide (cl > 16)) with hc1 | hc1
    · have gc1 : cl < 2 ∨ cl > 16 := by first | (simp only [Bool.or_eq_true, Bool.or_eq_false_iff, Bool.and_eq_true, Bool.and_eq_false_iff, Bool.not_eq_true', Bool.not_eq_false', decide_eq_true_eq, decide_eq_false_iff_not, beq_iff_eq, bne_iff_ne, ne_eq, beq_eq_false_iff_ne, bne_eq_false_iff_eq, eqNums, Bool.and_true] at hc1; first | exact hc1 | omega) | simpa using hc1 | (simp at hc1 ⊢; omega)
      exact (VC.run (fn := Try.f156) (W := [.r [] [], .r [] [.callr (rO oz0)], .r [] [], .br false, .r [] [.op false, .op false, .sel 1], .br true, .r [] []]) (r := i64 2) Try.func156 (by kernel_rfl) (.c oz0 <| .c hc0 <| .c hc1 <| .n)).weak (WeakL.refl _) (Weak.int (show ((2) : Int) = (verdE s w b nd cl) from (by (unfold verdE; (try simp only [List.length_map] at *); (repeat first | rw [if_pos (by omega)] | rw [if_neg (by omega)])))))
    · have gc1 : ¬cl < 2 ∧ ¬cl > 16 := by first | (simp only [Bool.or_eq_true, Bool.or_eq_false_iff, Bool.and_eq_true, Bool.and_eq_false_iff, Bool.not_eq_true', Bool.not_eq_false', decide_eq_true_eq, decide_eq_false_iff_not, beq_iff_eq, bne_iff_ne, ne_eq, beq_eq_false_iff_ne, bne_eq_false_iff_eq, eqNums, Bool.and_true] at hc1; first | exact hc1 | omega) | simpa using hc1 | (simp at hc1 ⊢; omega)
      have oz3 := (IntWalk.i64_in (cl * elems s.h s.x s.c) (by omega))
      rcases Bool.eq_false_or_eq_true ((↑(List.map (row1 IntKind.i8) w).length : Int) != cl * elems s.h s.x s.c || decide ((↑(List.map (row1 IntKind.i8) w).length : Int) > 16384) || (↑(List.map (row1 IntKind.i32) b).length : Int) != cl) with hc2 | hc2
      · have gc2 : (¬(↑(List.map (row1 IntKind.i8) w).length : Int) = cl * elems s.h s.x s.c ∨ (↑(List.map (row1 IntKind.i8) w).length : Int) > 16384) ∨ ¬(↑(List.map (row1 IntKind.i32) b).length : Int) = cl := by first | (simp only [Bool.or_eq_true, Bool.or_eq_false_iff, Bool.and_eq_true, Bool.and_eq_false_iff, Bool.not_eq_true', Bool.not_eq_false', decide_eq_true_eq, decide_eq_false_iff_not, beq_iff_eq, bne_iff_ne, ne_eq, beq_eq_false_iff_ne, bne_eq_false_iff_eq, eqNums, Bool.and_true] at hc2; first | exact hc2 | omega) | simpa using hc2 | (simp at hc2 ⊢; omega)
        exact (VC.run (fn := Try.f156) (W := [.r [] [], .r [] [.callr (rO oz0)], .r [] [], .br false, .r [] [.op false, .op false, .sel 1], .br false, .r [] [.n (nO oz3), .op false, .op false, .op false, .op false, .sel 1, .op false, .op false, .op false, .op false, .op false, .sel 1], .br true, .r [] []]) (r := i64 9) Try.func156 (by kernel_rfl) (.c oz0 <| .c hc0 <| .c hc1 <| .c oz3 <| .c hc2 <| .n)).weak (WeakL.refl _) (Weak.int (show ((9) : Int) = (verdE s w b nd cl) from (by (unfold verdE; (try simp only [List.length_map] at *); (repeat first | rw [if_pos (by omega)] | rw [if_neg (by omega)])))))
      · have gc2 : ((↑(List.map (row1 IntKind.i8) w).length : Int) = cl * elems s.h s.x s.c ∧ ¬(↑(List.map (row1 IntKind.i8) w).length : Int) > 16384) ∧ (↑(List.map (row1 IntKind.i32) b).length : Int) = cl := by first | (simp only [Bool.or_eq_true, Bool.or_eq_false_iff, Bool.and_eq_true, Bool.and_eq_false_iff, Bool.not_eq_true', Bool.not_eq_false', decide_eq_true_eq, decide_eq_false_iff_not, beq_iff_eq, bne_iff_ne, ne_eq, beq_eq_false_iff_ne, bne_eq_false_iff_eq, eqNums, Bool.and_true] at hc2; first | exact hc2 | omega) | simpa using hc2 | (simp at hc2 ⊢; omega)
        rcases Bool.eq_false_or_eq_true (decide (nd < 0)) with hc3 | hc3
        · have gc3 := of_decide_eq_true hc3
          exact (VC.run (fn := Try.f156) (W := [.r [] [], .r [] [.callr (rO oz0)], .r [] [], .br false, .r [] [.op false, .op false, .sel 1], .br false, .r [] [.n (nO oz3), .op false, .op false, .op false, .op false, .sel 1, .op false, .op false, .op false, .op false, .op false, .sel 1], .br false, .r [] [], .br true, .r [] []]) (r := i64 11) Try.func156 (by kernel_rfl) (.c oz0 <| .c hc0 <| .c hc1 <| .c oz3 <| .c hc2 <| .c hc3 <| .n)).weak (WeakL.refl _) (Weak.int (show ((11) : Int) = (verdE s w b nd cl) from (by (unfold verdE; (try simp only [List.length_map] at *); (repeat first | rw [if_pos (by omega)] | rw [if_neg (by omega)])))))
        · have gc3 := of_decide_eq_false hc3
          exact (VC.run (fn := Try.f156) (W := [.r [] [], .r [] [.callr (rO oz0)], .r [] [], .br false, .r [] [.op false, .op false, .sel 1], .br false, .r [] [.n (nO oz3), .op false, .op false, .op false, .op false, .sel 1, .op false, .op false, .op false, .op false, .op false, .sel 1], .br false, .r [] [], .br false, .r [] []]) (r := i64 0) Try.func156 (by kernel_rfl) (.c oz0 <| .c hc0 <| .c hc1 <| .c oz3 <| .c hc2 <| .c hc3 <| .n)).weak (WeakL.refl _) (Weak.int (show ((0) : Int) = (verdE s w b nd cl) from (by (unfold verdE; (try simp only [List.length_map] at *); (repeat first | rw [if_pos (by omega)] | rw [if_neg (by omega)])))))

set_option maxRecDepth 100000 in
set_option maxHeartbeats 2000000 in
theorem refVcheck_v (s : Shp) (w b : List Int) (nd cl : Int) (ok : s.Ok) (wl : w.length ≤ 100000) (bl : b.length ≤ 100000) : VC Try.prog 92 ([shp s, .agg (hedC w b nd), i64 cl]) (i64 (verdE s w b nd cl)) := by
  obtain ⟨p1, p2, p3⟩ := id ok
  have q1 := elems_in s.h s.x s.c
  have q2 := @clel_bd cl s
  have oz0 := @refElems_v (s.h) (s.x) (s.c) p1 p2 p3
  rcases Bool.eq_false_or_eq_true (elems s.h s.x s.c == 0) with hc0 | hc0
  · have gc0 : elems s.h s.x s.c = 0 := bet hc0
    exact (VC.run (fn := Try.f92) (W := [.r [] [], .r [] [.callr (rO oz0)], .br true, .r [] []]) (r := i64 5) Try.func92 (by kernel_rfl) (.c oz0 <| .c hc0 <| .n)).weak (WeakL.refl _) (Weak.int (show ((5) : Int) = (verdE s w b nd cl) from (by (unfold verdE; (try simp only [List.length_map] at *); (repeat first | rw [if_pos (by omega)] | rw [if_neg (by omega)])))))
  · have gc0 : ¬elems s.h s.x s.c = 0 := bef hc0
    rcases Bool.eq_false_or_eq_true (decide (cl < 2) || decide (cl > 16)) with hc1 | hc1
    · have gc1 : cl < 2 ∨ cl > 16 := by first | (simp only [Bool.or_eq_true, Bool.or_eq_false_iff, Bool.and_eq_true, Bool.and_eq_false_iff, Bool.not_eq_true', Bool.not_eq_false', decide_eq_true_eq, decide_eq_false_iff_not, beq_iff_eq, bne_iff_ne, ne_eq, beq_eq_false_iff_ne, bne_eq_false_iff_eq, eqNums, Bool.and_true] at hc1; first | exact hc1 | omega) | simpa using hc1 | (simp at hc1 ⊢; omega)
      exact (VC.run (fn := Try.f92) (W := [.r [] [], .r [] [.callr (rO oz0)], .br false, .r [] [.op false, .op false, .sel 1], .br true, .r [] []]) (r := i64 2) Try.func92 (by kernel_rfl) (.c oz0 <| .c hc0 <| .c hc1 <| .n)).weak (WeakL.refl _) (Weak.int (show ((2) : Int) = (verdE s w b nd cl) from (by (unfold verdE; (try simp only [List.length_map] at *); (repeat first | rw [if_pos (by omega)] | rw [if_neg (by omega)])))))
    · have gc1 : ¬cl < 2 ∧ ¬cl > 16 := by first | (simp only [Bool.or_eq_true, Bool.or_eq_false_iff, Bool.and_eq_true, Bool.and_eq_false_iff, Bool.not_eq_true', Bool.not_eq_false', decide_eq_true_eq, decide_eq_false_iff_not, beq_iff_eq, bne_iff_ne, ne_eq, beq_eq_false_iff_ne, bne_eq_false_iff_eq, eqNums, Bool.and_true] at hc1; first | exact hc1 | omega) | simpa using hc1 | (simp at hc1 ⊢; omega)
      have oz4 := (IntWalk.i64_in (cl * elems s.h s.x s.c) (by omega))
      rcases Bool.eq_false_or_eq_true ((↑(List.map (row1 IntKind.i8) w).length : Int) != cl * elems s.h s.x s.c || decide ((↑(List.map (row1 IntKind.i8) w).length : Int) > 16384) || (↑(List.map (row1 IntKind.i32) b).length : Int) != cl) with hc2 | hc2
      · have gc2 : (¬(↑(List.map (row1 IntKind.i8) w).length : Int) = cl * elems s.h s.x s.c ∨ (↑(List.map (row1 IntKind.i8) w).length : Int) > 16384) ∨ ¬(↑(List.map (row1 IntKind.i32) b).length : Int) = cl := by first | (simp only [Bool.or_eq_true, Bool.or_eq_false_iff, Bool.and_eq_true, Bool.and_eq_false_iff, Bool.not_eq_true', Bool.not_eq_false', decide_eq_true_eq, decide_eq_false_iff_not, beq_iff_eq, bne_iff_ne, ne_eq, beq_eq_false_iff_ne, bne_eq_false_iff_eq, eqNums, Bool.and_true] at hc2; first | exact hc2 | omega) | simpa using hc2 | (simp at hc2 ⊢; omega)
        exact (VC.run (fn := Try.f92) (W := [.r [] [], .r [] [.callr (rO oz0)], .br false, .r [] [.op false, .op false, .sel 1], .br false, .r [] [.callr (rO oz0), .n (nO oz4), .op false, .op false, .op false, .op false, .sel 1, .op false, .op false, .op false, .op false, .op false, .sel 1], .br true, .r [] []]) (r := i64 9) Try.func92 (by kernel_rfl) (.c oz0 <| .c hc0 <| .c hc1 <| .c oz0 <| .c oz4 <| .c hc2 <| .n)).weak (WeakL.refl _) (Weak.int (show ((9) : Int) = (verdE s w b nd cl) from (by (unfold verdE; (try simp only [List.length_map] at *); (repeat first | rw [if_pos (by omega)] | rw [if_neg (by omega)])))))
      · have gc2 : ((↑(List.map (row1 IntKind.i8) w).length : Int) = cl * elems s.h s.x s.c ∧ ¬(↑(List.map (row1 IntKind.i8) w).length : Int) > 16384) ∧ (↑(List.map (row1 IntKind.i32) b).length : Int) = cl := by first | (simp only [Bool.or_eq_true, Bool.or_eq_false_iff, Bool.and_eq_true, Bool.and_eq_false_iff, Bool.not_eq_true', Bool.not_eq_false', decide_eq_true_eq, decide_eq_false_iff_not, beq_iff_eq, bne_iff_ne, ne_eq, beq_eq_false_iff_ne, bne_eq_false_iff_eq, eqNums, Bool.and_true] at hc2; first | exact hc2 | omega) | simpa using hc2 | (simp at hc2 ⊢; omega)
        rcases Bool.eq_false_or_eq_true (decide (nd < 0)) with hc3 | hc3
        · have gc3 := of_decide_eq_true hc3
          exact (VC.run (fn := Try.f92) (W := [.r [] [], .r [] [.callr (rO oz0)], .br false, .r [] [.op false, .op false, .sel 1], .br false, .r [] [.callr (rO oz0), .n (nO oz4), .op false, .op false, .op false, .op false, .sel 1, .op false, .op false, .op false, .op false, .op false, .sel 1], .br false, .r [] [], .br true, .r [] []]) (r := i64 11) Try.func92 (by kernel_rfl) (.c oz0 <| .c hc0 <| .c hc1 <| .c oz0 <| .c oz4 <| .c hc2 <| .c hc3 <| .n)).weak (WeakL.refl _) (Weak.int (show ((11) : Int) = (verdE s w b nd cl) from (by (unfold verdE; (try simp only [List.length_map] at *); (repeat first | rw [if_pos (by omega)] | rw [if_neg (by omega)])))))
        · have gc3 := of_decide_eq_false hc3
          exact (VC.run (fn := Try.f92) (W := [.r [] [], .r [] [.callr (rO oz0)], .br false, .r [] [.op false, .op false, .sel 1], .br false, .r [] [.callr (rO oz0), .n (nO oz4), .op false, .op false, .op false, .op false, .sel 1, .op false, .op false, .op false, .op false, .op false, .sel 1], .br false, .r [] [], .br false, .r [] []]) (r := i64 0) Try.func92 (by kernel_rfl) (.c oz0 <| .c hc0 <| .c hc1 <| .c oz0 <| .c oz4 <| .c hc2 <| .c hc3 <| .n)).weak (WeakL.refl _) (Weak.int (show ((0) : Int) = (verdE s w b nd cl) from (by (unfold verdE; (try simp only [List.length_map] at *); (repeat first | rw [if_pos (by omega)] | rw [if_neg (by omega)])))))

set_option maxRecDepth 100000 in
set_option maxHeartbeats 2000000 in
theorem bare_v (w b : List Int) (nd : Int) (wl : w.length ≤ 100000) (bl : b.length ≤ 100000) : VC Try.prog 155 ([.agg (hedC w b nd)]) (bv (decide (w.length = 0 ∧ b.length = 0 ∧ nd = 0))) := by
  exact (VC.run (fn := Try.f155) (W := [.r [] [], .r [] [.op false, .op false, .op false, .op false, .sel 2, .op false, .op false, .op false, .sel 2]]) (r := bv ((↑(List.map (row1 IntKind.i8) w).length : Int) == 0 && (↑(List.map (row1 IntKind.i32) b).length : Int) == 0 && nd == 0)) Try.func155 (by kernel_rfl) (.n)).weak (WeakL.refl _) (Weak.bool (show (((↑(List.map (row1 IntKind.i8) w).length : Int) == 0 && (↑(List.map (row1 IntKind.i32) b).length : Int) == 0 && nd == 0) : Bool) = (decide (w.length = 0 ∧ b.length = 0 ∧ nd = 0)) from (by (rw [Bool.eq_iff_iff]; simp only [decide_eq_true_eq, decide_eq_false_iff_not, beq_iff_eq, bne_iff_ne, ne_eq, beq_eq_false_iff_ne, bne_eq_false_iff_eq, Bool.not_eq_true', Bool.not_eq_false', Bool.not_eq_eq_eq_not, Bool.not_true, Bool.not_false, Classical.not_not, Int.not_lt, Int.not_le, Bool.and_eq_true, Bool.and_eq_false_iff, Bool.or_eq_true, Bool.or_eq_false_iff, Bool.and_true, Bool.true_and, Bool.and_false, Bool.false_and, Bool.or_false, Bool.false_or, eqNums, List.length_map, List.length_append, List.length_cons, List.length_nil, List.length_set, List.length_replicate, List.length_take, List.length_drop, List.length_range, Int.toNat_natCast, Nat.zero_add, List.map_eq_nil_iff, Bool.false_eq_true, Bool.true_eq_false, false_iff, true_iff, iff_false, iff_true] at *; first | done | omega))))
/-- What is wrong with a block's exit. -/
def exitE (x : Blc) (out : Shp) (r : Rng) (cl : Int) (last : Bool) : Int :=
  if x.ex = false ∧ (last = true ∨ ¬ (x.w.length = 0 ∧ x.b.length = 0 ∧ x.nd = 0)) then 11 else if x.ex = false then 0
  else if verdE out x.w x.b x.nd cl ≠ 0 then verdE out x.w x.b x.nd cl else headE x.w x.b r.lo r.hi
set_option maxRecDepth 100000 in
set_option maxHeartbeats 2000000 in
theorem vexit_v (x : Blc) (out : Shp) (r : Rng) (cl : Int) (last : Bool) (ok : x.Ok) (oks : out.Ok) (hr : r.In8) (wl : x.w.length ≤ 100000) (bl : x.b.length ≤ 100000) : VC Try.prog 91 ([blc x, shp out, rch r, i64 cl, bv last]) (i64 (exitE x out r cl last)) := by
  have q1 := ok.w
  have q2 := ok.b
  obtain ⟨q3, q4⟩ := id hr
  rcases Bool.eq_false_or_eq_true (last && !x.ex) with hc0 | hc0
  · have gc0 : last = true ∧ x.ex = false := by first | (simp only [Bool.or_eq_true, Bool.or_eq_false_iff, Bool.and_eq_true, Bool.and_eq_false_iff, Bool.not_eq_true', Bool.not_eq_false', decide_eq_true_eq, decide_eq_false_iff_not, beq_iff_eq, bne_iff_ne, ne_eq, beq_eq_false_iff_ne, bne_eq_false_iff_eq, eqNums, Bool.and_true] at hc0; first | exact hc0 | omega) | simpa using hc0 | (simp at hc0 ⊢; omega)
    exact (VC.run (fn := Try.f91) (W := [.r [] [], .r [] [.op false, .op false, .op false, .sel 2], .br true, .br true, .r [] []]) (r := i64 11) Try.func91 (by kernel_rfl) (.c hc0 <| .c hc0 <| .n)).weak (WeakL.refl _) (Weak.int (show ((11) : Int) = (exitE x out r cl last) from (by (unfold exitE; simp_all; done))))
  · have gc0 : last = false ∨ x.ex = true := by first | (simp only [Bool.or_eq_true, Bool.or_eq_false_iff, Bool.and_eq_true, Bool.and_eq_false_iff, Bool.not_eq_true', Bool.not_eq_false', decide_eq_true_eq, decide_eq_false_iff_not, beq_iff_eq, bne_iff_ne, ne_eq, beq_eq_false_iff_ne, bne_eq_false_iff_eq, eqNums, Bool.and_true] at hc0; first | exact hc0 | omega) | simpa using hc0 | (simp at hc0 ⊢; omega)
    have oz1 := @bare_v (x.w) (x.b) (x.nd) wl bl
    rcases Bool.eq_false_or_eq_true (!x.ex && !decide (x.w.length = 0 ∧ x.b.length = 0 ∧ x.nd = 0)) with hc1 | hc1
    · have gc1 : x.ex = false ∧ ¬(x.w.length = 0 ∧ x.b.length = 0 ∧ x.nd = 0) := by first | (simp only [Bool.or_eq_true, Bool.or_eq_false_iff, Bool.and_eq_true, Bool.and_eq_false_iff, Bool.not_eq_true', Bool.not_eq_false', decide_eq_true_eq, decide_eq_false_iff_not, beq_iff_eq, bne_iff_ne, ne_eq, beq_eq_false_iff_ne, bne_eq_false_iff_eq, eqNums, Bool.and_true] at hc1; first | exact hc1 | omega) | simpa using hc1 | (simp at hc1 ⊢; omega)
      exact (VC.run (fn := Try.f91) (W := [.r [] [], .r [] [.op false, .op false, .op false, .sel 2], .br false, .r [] [.op false, .op false, .op false, .callr (rO oz1), .op false, .sel 2], .br true, .r [] []]) (r := i64 11) Try.func91 (by kernel_rfl) (.c hc0 <| .c oz1 <| .c hc1 <| .n)).weak (WeakL.refl _) (Weak.int (show ((11) : Int) = (exitE x out r cl last) from (by (unfold exitE; simp_all; done))))
    · have gc1 : x.ex = true ∨ x.w.length = 0 ∧ x.b.length = 0 ∧ x.nd = 0 := by first | (simp only [Bool.or_eq_true, Bool.or_eq_false_iff, Bool.and_eq_true, Bool.and_eq_false_iff, Bool.not_eq_true', Bool.not_eq_false', decide_eq_true_eq, decide_eq_false_iff_not, beq_iff_eq, bne_iff_ne, ne_eq, beq_eq_false_iff_ne, bne_eq_false_iff_eq, eqNums, Bool.and_true] at hc1; first | exact hc1 | omega) | simpa using hc1 | (simp at hc1 ⊢; omega)
      rcases Bool.eq_false_or_eq_true (!x.ex) with hc2 | hc2
      · have gc2 : x.ex = false := by first | exact hc2 | exact of_decide_eq_true hc2 | exact of_decide_eq_false hc2 | simpa [eqNums] using hc2 | (simp [eqNums] at hc2 ⊢; first | done | assumption | omega)
        exact (VC.run (fn := Try.f91) (W := [.r [] [], .r [] [.op false, .op false, .op false, .sel 2], .br false, .r [] [.op false, .op false, .op false, .callr (rO oz1), .op false, .sel 2], .br false, .r [] [], .br true, .r [] []]) (r := i64 0) Try.func91 (by kernel_rfl) (.c hc0 <| .c oz1 <| .c hc1 <| .c hc2 <| .n)).weak (WeakL.refl _) (Weak.int (show ((0) : Int) = (exitE x out r cl last) from (by (unfold exitE; simp_all; done))))
      · have gc2 : x.ex = true := by first | exact hc2 | exact of_decide_eq_true hc2 | exact of_decide_eq_false hc2 | simpa [eqNums] using hc2 | (simp [eqNums] at hc2 ⊢; first | done | assumption | omega)
        have oz4 := @vcheck_v (out) (x.w) (x.b) (x.nd) (cl) oks wl bl
        rcases Bool.eq_false_or_eq_true (verdE out x.w x.b x.nd cl != 0) with hc3 | hc3
        · have gc3 : ¬verdE out x.w x.b x.nd cl = 0 := bdt hc3
          exact (VC.run (fn := Try.f91) (W := [.r [] [], .r [] [.op false, .op false, .op false, .sel 2], .br false, .r [] [.op false, .op false, .op false, .callr (rO oz1), .op false, .sel 2], .br false, .r [] [], .br false, .r [] [.callr (rO oz4)], .r [] [], .br true, .r [] []]) (r := i64 (verdE out x.w x.b x.nd cl)) Try.func91 (by kernel_rfl) (.c hc0 <| .c oz1 <| .c hc1 <| .c hc2 <| .c oz4 <| .c hc3 <| .n)).weak (WeakL.refl _) (Weak.int (show ((verdE out x.w x.b x.nd cl) : Int) = (exitE x out r cl last) from (by (unfold exitE; simp_all; done))))
        · have gc3 : verdE out x.w x.b x.nd cl = 0 := bdf hc3
          have oz6 := @ghead_v (x.w) (x.b) (x.nd) (r.lo) (r.hi) q1 q2 wl bl q3 q4
          exact (VC.run (fn := Try.f91) (W := [.r [] [], .r [] [.op false, .op false, .op false, .sel 2], .br false, .r [] [.op false, .op false, .op false, .callr (rO oz1), .op false, .sel 2], .br false, .r [] [], .br false, .r [] [.callr (rO oz4)], .r [] [], .br false, .r [] [.callr (rO oz6)]]) (r := i64 (headE x.w x.b r.lo r.hi)) Try.func91 (by kernel_rfl) (.c hc0 <| .c oz1 <| .c hc1 <| .c hc2 <| .c oz4 <| .c hc3 <| .c oz6 <| .n)).weak (WeakL.refl _) (Weak.int (show ((headE x.w x.b r.lo r.hi) : Int) = (exitE x out r cl last) from (by (unfold exitE; simp_all; done))))
/-- What is wrong with a block, and where. -/
def validE (x : Blc) (a : Shp) (cl : Int) (last : Bool) : Int × Int :=
  if (shapesE x.n a).2 ≠ 0 then shapesE x.n a else if (flowE x.n fullR).2 ≠ 0 then flowE x.n fullR
  else if exitE x (lastS x.n a) (lastR x.n) cl last ≠ 0 then (-1, exitE x (lastS x.n a) (lastR x.n) cl last) else ((x.n.length : Int), 0)
theorem validE_s {x : Blc} {a : Shp} {cl : Int} {last : Bool} (h : ¬ SOK x.n a) : validE x a cl last = shapesE x.n a := if_pos (shapesE_n h)
theorem validE_f {x : Blc} {a : Shp} {cl : Int} {last : Bool} (h : SOK x.n a) (g : ¬ FOK x.n fullR) : validE x a cl last = flowE x.n fullR := by
  unfold validE; rw [if_neg (by rw [shapesE_y h]; simp), if_pos (flowE_n g)]
theorem validE_y {x : Blc} {a : Shp} {cl : Int} {last : Bool} (h : SOK x.n a) (g : FOK x.n fullR) : validE x a cl last = if exitE x (lastS x.n a) (lastR x.n) cl last ≠ 0 then (-1, exitE x (lastS x.n a) (lastR x.n) cl last) else ((x.n.length : Int), 0) := by
  unfold validE; rw [if_neg (by rw [shapesE_y h]; simp), if_neg (by rw [flowE_y g]; simp)]
structure Blc.Sm (x : Blc) : Prop where
  l : x.n.length ≤ 12
  s : ∀ n ∈ x.n, n.w.length ≤ 100000 ∧ n.b.length ≤ 100000
  w : x.w.length ≤ 100000
  b : x.b.length ≤ 100000
theorem Blc.sm {x : Blc} (h : blcS x = true) : x.Sm := by
  have q := blc_facts h
  exact ⟨q.1, q.2.2.1, by omega, by omega⟩
set_option maxRecDepth 100000 in
set_option maxHeartbeats 2000000 in
theorem vblock_s (x : Blc) (a : Shp) (cl : Int) (last : Bool) (ok : x.Ok) (oka : a.Ok) (sm : x.Sm) (h : ¬ SOK x.n a) : VC Try.prog 42 ([blc x, shp a, i64 cl, bv last]) (.tup [i64 (validE x a cl last).1, i64 (validE x a cl last).2]) := by
  have q1 := ok.n
  obtain ⟨q2, q3, q4, q5⟩ := id sm
  have q6 := shapesE_n h
  have q7 := @validE_s x a cl last h
  have oz0 := @shapes_n (x.n) (a) q1 q3 oka (by omega) h
  exact (VC.run (fn := Try.f42) (W := [.r [] [], .r [] [.callr (rO oz0)], .r [] [], .br true, .r [] []]) (r := AV.tup [i64 (shapesE x.n a).fst, i64 (shapesE x.n a).snd]) Try.func42 (by kernel_rfl) (.c oz0 <| .c (show ((shapesE x.n a).snd != 0) = true by (simp; omega)) <| .n)).weak (WeakL.refl _) (Weak.tup (.cons (Weak.int (show (((shapesE x.n a).fst) : Int) = ((validE x a cl last).fst) from (by (rw [q7])))) (.cons (Weak.int (show (((shapesE x.n a).snd) : Int) = ((validE x a cl last).snd) from (by (rw [q7])))) .nil)))

set_option maxRecDepth 100000 in
set_option maxHeartbeats 2000000 in
theorem vblock_f (x : Blc) (a : Shp) (cl : Int) (last : Bool) (ok : x.Ok) (oka : a.Ok) (sm : x.Sm) (h : SOK x.n a) (g : ¬ FOK x.n fullR) : VC Try.prog 42 ([blc x, shp a, i64 cl, bv last]) (.tup [i64 (validE x a cl last).1, i64 (validE x a cl last).2]) := by
  have q1 := ok.n
  obtain ⟨q2, q3, q4, q5⟩ := id sm
  have q6 := flowE_n g
  have q7 := @validE_f x a cl last h g
  have q8 := fullR_in
  have oz0 := @shapes_y (x.n) (a) q1 q3 h
  have oz2 := @flow_n (x.n) (Rng.mk (-128) 127) q1 q3 q8 (by omega) g
  exact (VC.run (fn := Try.f42) (W := [.r [] [], .r [] [.callr (rO oz0)], .r [] [], .br false, .r [] [.callr (rO oz2)], .r [] [], .br true, .r [] []]) (r := AV.tup [i64 (flowE x.n (Rng.mk (-128) 127)).fst, i64 (flowE x.n (Rng.mk (-128) 127)).snd]) Try.func42 (by kernel_rfl) (.c oz0 <| .c (show false = false by with_reducible rfl) <| .c oz2 <| .c (show ((flowE x.n (Rng.mk (-128) 127)).snd != 0) = true by (simp; omega)) <| .n)).weak (WeakL.refl _) (Weak.tup (.cons (Weak.int (show (((flowE x.n (Rng.mk (-128) 127)).fst) : Int) = ((validE x a cl last).fst) from (by (rw [q7])))) (.cons (Weak.int (show (((flowE x.n (Rng.mk (-128) 127)).snd) : Int) = ((validE x a cl last).snd) from (by (rw [q7])))) .nil)))

set_option maxRecDepth 100000 in
set_option maxHeartbeats 2000000 in
theorem vblock_y (x : Blc) (a : Shp) (cl : Int) (last : Bool) (ok : x.Ok) (oka : a.Ok) (sm : x.Sm) (h : SOK x.n a) (g : FOK x.n fullR) : VC Try.prog 42 ([blc x, shp a, i64 cl, bv last]) (.tup [i64 (validE x a cl last).1, i64 (validE x a cl last).2]) := by
  have q1 := ok.n
  obtain ⟨q2, q3, q4, q5⟩ := id sm
  have q7 := @validE_y x a cl last h g
  have q8 := fullR_in
  have l1 := shpsL_len x.n a
  have l2 := rchsL_len x.n
  have l3 : (List.map shpC (shpsL x.n a)).length = (shpsL x.n a).length := List.length_map _
  have l4 : (List.map rchC (rchsL x.n)).length = (rchsL x.n).length := List.length_map _
  have l5 : (List.map nodC x.n).length = x.n.length := List.length_map _
  have s1 := @lastS_i x.n a
  have s2 := @lastR_i x.n
  have s3 := lastS_ok (l := x.n) oka
  have s4 := lastR_in q1
  have oz0 := @shapes_y (x.n) (a) q1 q3 h
  have oz1 := (show false = false by with_reducible rfl)
  have oz2 := @flow_y (x.n) (Rng.mk (-128) 127) q1 q3 q8 g
  have oz4 := (show 0 ≤ (↑(List.map nodC x.n).length : Int) by omega)
  have oz5 := (map_at (shpC) (default) (l := growL nextE x.n a x.n.length) (i := (List.map nodC x.n).length) (by (simp_all; done)))
  have oz7 := (map_at (rchC) (default) (l := growL stepR x.n (Rng.mk (-128) 127) x.n.length) (i := (List.map nodC x.n).length) (by (simp_all; done)))
  have oz8 := @vexit_v (x) ((growL nextE x.n a x.n.length).getD (List.map nodC x.n).length default) ((growL stepR x.n (Rng.mk (-128) 127) x.n.length).getD (List.map nodC x.n).length default) (cl) (last) ok (by (rw [s1 (by omega)]; exact s3)) (by (rw [s2 (by omega)]; exact s4)) q4 q5
  rcases Bool.eq_false_or_eq_true (exitE x ((growL nextE x.n a x.n.length).getD (List.map nodC x.n).length default) ((growL stepR x.n (Rng.mk (-128) 127) x.n.length).getD (List.map nodC x.n).length default) cl last != 0) with hc0 | hc0
  · have gc0 : ¬exitE x ((growL nextE x.n a x.n.length).getD (List.map nodC x.n).length default) ((growL stepR x.n (Rng.mk (-128) 127) x.n.length).getD (List.map nodC x.n).length default) cl last = 0 := bdt hc0
    exact (VC.run (fn := Try.f42) (W := [.r [] [], .r [] [.callr (rO oz0)], .r [] [], .br false, .r [] [.callr (rO oz2)], .r [] [], .br false, .r [] [.row (sO oz5), .row (sO oz7), .callr (rO oz8)], .r [] [], .br true, .r [] []]) (r := AV.tup [i64 (-1), i64 (exitE x ((growL nextE x.n a x.n.length).getD (List.map nodC x.n).length default) ((growL stepR x.n (Rng.mk (-128) 127) x.n.length).getD (List.map nodC x.n).length default) cl last)]) Try.func42 (by kernel_rfl) (.c oz0 <| .c oz1 <| .c oz2 <| .c oz1 <| .c oz4 <| .c oz5 <| .c oz4 <| .c oz7 <| .c oz8 <| .c hc0 <| .n)).weak (WeakL.refl _) (Weak.tup (.cons (Weak.int (show ((-1) : Int) = ((validE x a cl last).fst) from (by (rw [q7, if_pos (by simp_all)])))) (.cons (Weak.int (show ((exitE x ((growL nextE x.n a x.n.length).getD (List.map nodC x.n).length default) ((growL stepR x.n (Rng.mk (-128) 127) x.n.length).getD (List.map nodC x.n).length default) cl last) : Int) = ((validE x a cl last).snd) from (by (simp_all; done)))) .nil)))
  · have gc0 : exitE x ((growL nextE x.n a x.n.length).getD (List.map nodC x.n).length default) ((growL stepR x.n (Rng.mk (-128) 127) x.n.length).getD (List.map nodC x.n).length default) cl last = 0 := bdf hc0
    exact (VC.run (fn := Try.f42) (W := [.r [] [], .r [] [.callr (rO oz0)], .r [] [], .br false, .r [] [.callr (rO oz2)], .r [] [], .br false, .r [] [.row (sO oz5), .row (sO oz7), .callr (rO oz8)], .r [] [], .br false, .r [] []]) (r := AV.tup [i64 (↑(List.map nodC x.n).length : Int), i64 0]) Try.func42 (by kernel_rfl) (.c oz0 <| .c oz1 <| .c oz2 <| .c oz1 <| .c oz4 <| .c oz5 <| .c oz4 <| .c oz7 <| .c oz8 <| .c hc0 <| .n)).weak (WeakL.refl _) (Weak.tup (.cons (Weak.int (show (((↑(List.map nodC x.n).length : Int)) : Int) = ((validE x a cl last).fst) from (by (simp_all; done)))) (.cons (Weak.int (show ((0) : Int) = ((validE x a cl last).snd) from (by (rw [q7, if_neg (by simp_all)])))) .nil)))
end Go.Proofs.Ytdmomnaoegkpiaa

