/- All sums of a window, by the document. No condition. -/
import Derived.Test.YtcegfkmelcjdhaaCz
namespace Go.Proofs.Ytcegfkmelcjdhaa
open Go.RowKit
set_option linter.unusedSimpArgs false
set_option linter.unusedVariables false
set_option linter.unnecessarySimpa false

/-- A row of a window, over whole numbers. -/
def rowE (T : Ten) (n : Nod) (h w o : Int) (i : Nat) : Int := sumN (colE T n o i (h * n.ns + (i : Int) - n.np) (w * n.ns - n.np)) n.nk.toNat
theorem rowE_bd {T : Ten} {n : Nod} (ok : CvOk T n) (h w o : Int) (i : Nat) : -167116800 ≤ rowE T n h w o i ∧ rowE T n h w o i ≤ 167116800 := by
  have g15 := sumN_bd (B := 33423360) (f := colE T n o i (h * n.ns + i - n.np) (w * n.ns - n.np)) n.nk.toNat fun j _ => colE_bd ok _ _ _ _ j
  have g1 := ok.n.k5
  have g2 := ok.n.k1
  unfold rowE
  omega
/-- A window's sum, over whole numbers. -/
def sumE (T : Ten) (n : Nod) (h w o : Int) : Int := accN (n.b.getD o.toNat 0) (rowE T n h w o) n.nk.toNat
noncomputable def rcSum_i_I (T : Ten) (n : Nod) (h w o : Int) (k : Nat) : VS := stt 118 [(2, i64 h), (3, i64 w), (4, i64 o), (5, .ptr 5 0 0), (6, .ptr 6 0 0), (11, i64 (accN (n.b.getD o.toNat 0) (rowE T n h w o) k)), (12, i64 k)] [(5, .var [i64 T.h, i64 T.x, i64 T.c, ints .i8 T.d]), (6, .var (nodC n))]
noncomputable def rcSum_i_Z (T : Ten) (n : Nod) (h w o : Int) : VS := rcSum_i_I T n h w o (n.nk.toNat)
set_option maxRecDepth 100000 in
set_option maxHeartbeats 2000000 in
theorem rcSum_i_s (T : Ten) (n : Nod) (h w o : Int) (ok : CvOk T n) (o0 : 0 ≤ o) (o1 : o < n.no) (h0 : 0 ≤ h) (h1 : h ≤ 1000) (w0 : 0 ≤ w) (w1 : w ≤ 1000) (k : Nat) (hk : k < n.nk.toNat) : VT Try.prog (fnC Try.f36 [1, 1, 0, 1, 0, 0]) (rcSum_i_I T n h w o k) .normal (rcSum_i_I T n h w o (k + 1)) := by
  have nn := ok.n
  have g1 := nn.k1
  have g2 := nn.k5
  have g3 := gt32 ok.okn.b o.toNat
  have g4 := accN_eq (n.b.getD o.toNat 0) (rowE T n h w o) k
  have g5 := sumN_bd (B := 167116800) (f := rowE T n h w o) k fun i _ => rowE_bd ok _ _ _ i
  have oz2 := @rcSum_j (T) (n) (h) (w) (o) ((↑k : Int)) (accN (n.b.getD o.toNat 0) (rowE T n h w o) k) ok o0 o1 h0 h1 w0 w1 (by omega) (by omega) (by omega) (by omega)
  have oz4 := (Weak.int (k := .i64) (show ((accN (accN (n.b.getD o.toNat 0) (rowE T n h w o) k) (colE T n o (↑k : Int) (h * n.ns + (↑k : Int) - n.np) (w * n.ns - n.np)) n.nk.toNat) : Int) = (accN (n.b.getD o.toNat 0) (rowE T n h w o) (k + 1)) from (by (rw [accN, rowE, accN_eq]))))
  exact VT.run (W := [.r [] [], .br true, .r [] [], .code [.any (rg [(23, 4)]), .weak 13 (i64 (↑0 : Int)), .sort] (Exit.exit 2) (zO oz2), .r [] [.n ((↑k : Int) + 1)]]) (G := [.any [13, 27, 28], .weak 11 (wO oz4), .weak 12 (i64 (↑(k + 1) : Int)), .sort]) (by kernel_rfl) (.c (decide_eq_true (p := ((↑k : Int) < n.nk)) (by omega)) <| .c (Weak.int (k := .i64) (show ((0) : Int) = ((↑0 : Int)) from (by omega))) <| .c oz2 <| .c (IntWalk.i64_in ((↑k : Int) + 1) (by omega)) <| .c oz4 <| .c (Weak.int (k := .i64) (show (((↑k : Int) + 1) : Int) = ((↑(k + 1) : Int)) from (by omega))) <| .n)
set_option maxRecDepth 100000 in
set_option maxHeartbeats 2000000 in
theorem rcSum_i_e (T : Ten) (n : Nod) (h w o : Int) (ok : CvOk T n) (o0 : 0 ≤ o) (o1 : o < n.no) (h0 : 0 ≤ h) (h1 : h ≤ 1000) (w0 : 0 ≤ w) (w1 : w ≤ 1000) : VT Try.prog (fnC Try.f36 [1, 1, 0, 1, 0, 0]) (rcSum_i_I T n h w o (n.nk.toNat)) (.exit 0) (rcSum_i_Z T n h w o) := by
  have nn := ok.n
  have g1 := nn.k1
  exact VT.run (W := [.r [] [], .br false]) (G := [.any (rg [(23, 4)]), .sort]) (by kernel_rfl) (.c (decide_eq_false (p := ((↑n.nk.toNat : Int) < n.nk)) (by omega)) <| .n)
theorem rcSum_i (T : Ten) (n : Nod) (h w o : Int) (ok : CvOk T n) (o0 : 0 ≤ o) (o1 : o < n.no) (h0 : 0 ≤ h) (h1 : h ≤ 1000) (w0 : 0 ≤ w) (w1 : w ≤ 1000) : VT Try.prog (fnC Try.f36 [1, 1, 0, 1, 0]) (rcSum_i_I T n h w o 0) (.exit 0) (rcSum_i_Z T n h w o) :=
  VT.loop (fun k => rcSum_i_I T n h w o k) (n.nk.toNat) (fun k hk => rcSum_i_s T n h w o ok o0 o1 h0 h1 w0 w1 k hk) (rcSum_i_e T n h w o ok o0 o1 h0 h1 w0 w1) (by intro h; cases h)

set_option maxRecDepth 100000 in
set_option maxHeartbeats 2000000 in
theorem rcSum_v (T : Ten) (n : Nod) (h w o : Int) (ok : CvOk T n) (o0 : 0 ≤ o) (o1 : o < n.no) (h0 : 0 ≤ h) (h1 : h ≤ 1000) (w0 : 0 ≤ w) (w1 : w ≤ 1000) : VC Try.prog 36 ([ten .i8 T, nod n, i64 h, i64 w, i64 o]) (i64 (sumE T n h w o)) := by
  have g1 := ok.n.bl
  have g3 := gt32 ok.okn.b o.toNat
  have oz3 := (Weak.int (k := .i64) (show ((n.b.getD o.toNat 0) : Int) = (accN (n.b.getD o.toNat 0) (rowE T n h w o) 0) from (by rfl)))
  have oz5 := @rcSum_i (T) (n) (h) (w) (o) ok o0 o1 h0 h1 w0 w1
  exact (VC.run (fn := Try.f36) (W := [.r [] [], .r [] [.row [i32 (n.b.getD o.toNat 0)], .n (n.b.getD o.toNat 0)], .r [] [], .code [.any (rg [(0, 2), (10, 1), (17, 6)]), .weak 11 (wO oz3), .weak 12 (i64 (↑0 : Int)), .sort] (Exit.exit 0) (zO oz5), .r [] []]) (r := i64 (accN (n.b.getD o.toNat 0) (rowE T n h w o) n.nk.toNat)) Try.func36 (by kernel_rfl) (.c o0 <| .c (map_at (row1 IntKind.i32) (0) (l := n.b) (i := o.toNat) (by omega)) <| .c (IntWalk.i64_in (n.b.getD o.toNat 0) (by omega)) <| .c oz3 <| .c (Weak.int (k := .i64) (show ((0) : Int) = ((↑0 : Int)) from (by omega))) <| .c oz5 <| .n)).weak (WeakL.refl _) (Weak.int (show ((accN (n.b.getD o.toNat 0) (rowE T n h w o) n.nk.toNat) : Int) = (sumE T n h w o) from (by rfl)))
def refO (T : Ten) (n : Nod) (h w : Nat) (o : Nat) : List Int := (List.range o).map fun (o : Nat) => IntKind.i32.wrap (sumE T n h w o)
def refW (T : Ten) (n : Nod) (h : Nat) : Nat → List Int
  | 0 => []
  | w + 1 => refW T n h w ++ refO T n h w n.no.toNat
def refH (T : Ten) (n : Nod) : Nat → List Int
  | 0 => []
  | h + 1 => refH T n h ++ refW T n h (convE ⟨T.h, T.x, T.c⟩ n).1.x.toNat
theorem refW_len (T : Ten) (n : Nod) (h : Nat) : ∀ w, (refW T n h w).length = w * n.no.toNat
  | 0 => by simp [refW]
  | w + 1 => by rw [refW, List.length_append, refW_len T n h w, Nat.add_mul]; simp [refO]
theorem refH_len (T : Ten) (n : Nod) : ∀ h, (refH T n h).length = h * ((convE ⟨T.h, T.x, T.c⟩ n).1.x.toNat * n.no.toNat)
  | 0 => by simp [refH]
  | h + 1 => by rw [refH, List.length_append, refH_len T n h, refW_len, Nat.add_mul]; simp
theorem ref_bd {T : Ten} {n : Nod} (nn : CvN T n) {h w : Nat} (hh : h < (convE ⟨T.h, T.x, T.c⟩ n).1.h.toNat) (hw : w < (convE ⟨T.h, T.x, T.c⟩ n).1.x.toNat) : (refH T n h).length + (refW T n h w).length + n.no.toNat ≤ 40000 := by
  rw [refH_len, refW_len]
  have h1 := nn.he
  have h2 := nn.xe
  have h3 := nn.o1
  have h4 := nn.o2
  have a1 : (convE ⟨T.h, T.x, T.c⟩ n).1.x.toNat * n.no.toNat ≤ 16 * 1024 := Nat.mul_le_mul (by omega) (by omega)
  have h5 := nn.el
  have hx : ((convE ⟨T.h, T.x, T.c⟩ n).1.h.toNat * ((convE ⟨T.h, T.x, T.c⟩ n).1.x.toNat * n.no.toNat) : Nat) ≤ 1024 := by
    have : (((convE ⟨T.h, T.x, T.c⟩ n).1.h.toNat * ((convE ⟨T.h, T.x, T.c⟩ n).1.x.toNat * n.no.toNat) : Nat) : Int) = (convE ⟨T.h, T.x, T.c⟩ n).1.h * (convE ⟨T.h, T.x, T.c⟩ n).1.x * n.no := by
      rw [Int.natCast_mul, Int.natCast_mul, Int.toNat_of_nonneg (by omega), Int.toNat_of_nonneg (by omega), Int.toNat_of_nonneg (by omega), Int.mul_assoc]
    omega
  have a2 : h * ((convE ⟨T.h, T.x, T.c⟩ n).1.x.toNat * n.no.toNat) ≤ (convE ⟨T.h, T.x, T.c⟩ n).1.h.toNat * ((convE ⟨T.h, T.x, T.c⟩ n).1.x.toNat * n.no.toNat) := Nat.mul_le_mul_right _ (by omega)
  have a3 : w * n.no.toNat ≤ 16 * 1024 := Nat.mul_le_mul (by omega) (by omega)
  omega
noncomputable def rcOf_o_I (T : Ten) (n : Nod) (h w : Nat) (k : Nat) : VS := stt 60 [(2, .ptr 2 0 0), (3, .ptr 3 0 0), (4, .ptr 4 0 0), (6, .ptr 6 0 0), (8, .ptr 8 0 0), (9, i64 h), (10, i64 w), (11, i64 k)] [(2, .var [i64 T.h, i64 T.x, i64 T.c, ints .i8 T.d]), (3, .var (nodC n)), (4, .var [i64 0, i64 0, i64 0, nilv]), (6, .var [i64 (convE ⟨T.h, T.x, T.c⟩ n).1.h, i64 (convE ⟨T.h, T.x, T.c⟩ n).1.x, i64 (convE ⟨T.h, T.x, T.c⟩ n).1.c]), (8, .var [i64 (convE ⟨T.h, T.x, T.c⟩ n).1.h, i64 (convE ⟨T.h, T.x, T.c⟩ n).1.x, i64 (convE ⟨T.h, T.x, T.c⟩ n).1.c, .own 900]), (900, .slc 21 1 ((refH T n h ++ (refW T n h w ++ refO T n h w k)).map (row1 .i32)))]
noncomputable def rcOf_o_Z (T : Ten) (n : Nod) (h w : Nat) : VS := rcOf_o_I T n h w (n.no.toNat)
set_option maxRecDepth 100000 in
set_option maxHeartbeats 2000000 in
theorem rcOf_o_s (T : Ten) (n : Nod) (h w : Nat) (ok : CvOk T n) (h1 : h < (convE ⟨T.h, T.x, T.c⟩ n).1.h.toNat) (w1 : w < (convE ⟨T.h, T.x, T.c⟩ n).1.x.toNat) (k : Nat) (hk : k < n.no.toNat) : VT Try.prog (fnC Try.f22 [1, 1, 1, 1, 1, 0, 1, 0, 0, 1, 0, 0, 1, 0, 0, 1, 0, 0, 1, 0, 0]) (rcOf_o_I T n h w k) .normal (rcOf_o_I T n h w (k + 1)) := by
  have nn := ok.n
  have g1 := nn.he
  have g2 := nn.xe
  have g3 := nn.sc
  have g4 := nn.o1
  have g5 := nn.o2
  have g6 := ref_bd nn h1 w1
  have g7 : (refO T n h w k).length = k := by simp [refO]
  have oz1 := @rcSum_v (T) (n) ((↑h : Int)) ((↑w : Int)) ((↑k : Int)) ok (by omega) (by omega) (by omega) (by omega) (by omega) (by omega)
  exact VT.run (W := [.r [] [], .br true, .r [] [.callr (rO oz1), .w], .r [] [.n ((↑k : Int) + 1)]]) (G := [.any (rg [(41, 18)]), .drop [56], .ren 57 900, .weak 11 (i64 (↑(k + 1) : Int)), .blk 900 (Blk.slc 21 1 (List.map (row1 IntKind.i32) (refH T n h ++ (refW T n h w ++ refO T n h w (k + 1))))), .sort]) (by kernel_rfl) (.c (decide_eq_true (p := ((↑k : Int) < (convE (Shp.mk T.h T.x T.c) n).fst.c)) (by omega)) <| .c oz1 <| .c (show ((List.map (row1 IntKind.i32) (refH T n h ++ (refW T n h w ++ refO T n h w k))).length + 1) * 4 ≤ 140737488355328 by (simp; omega)) <| .c (show (List.map (row1 IntKind.i32) (refH T n h ++ (refW T n h w ++ refO T n h w k))).length + 1 ≤ 9223372036854775807 by (simp; omega)) <| .c (IntWalk.i64_in ((↑k : Int) + 1) (by omega)) <| .c (Weak.int (k := .i64) (show (((↑k : Int) + 1) : Int) = ((↑(k + 1) : Int)) from (by omega))) <| .c (show BlkW (Blk.slc 21 1 (List.map (row1 IntKind.i32) (refH T n h ++ (refW T n h w ++ refO T n h w k)) ++ [[i32 (IntKind.i32.wrap (sumE T n (↑h : Int) (↑w : Int) (↑k : Int)))]])) (Blk.slc 21 1 (List.map (row1 IntKind.i32) (refH T n h ++ (refW T n h w ++ refO T n h w (k + 1))))) from (BlkW.rows (rows_to (row1 IntKind.i32) (l := refH T n h ++ (refW T n h w ++ refO T n h w k) ++ [IntKind.i32.wrap (sumE T n (↑h : Int) (↑w : Int) (↑k : Int))]) (m := refH T n h ++ (refW T n h w ++ refO T n h w (k + 1))) (by simp only [List.map_append, List.map_cons, List.map_nil, List.map_set, List.map_replicate, List.map_take, List.map_drop]) (show (refH T n h ++ (refW T n h w ++ refO T n h w k) ++ [IntKind.i32.wrap (sumE T n (↑h : Int) (↑w : Int) (↑k : Int))]) = (refH T n h ++ (refW T n h w ++ refO T n h w (k + 1))) from (by (rw [refO, refO, List.range_succ, List.map_append]; simp)))))) <| .n)
set_option maxRecDepth 100000 in
set_option maxHeartbeats 2000000 in
theorem rcOf_o_e (T : Ten) (n : Nod) (h w : Nat) (ok : CvOk T n) (h1 : h < (convE ⟨T.h, T.x, T.c⟩ n).1.h.toNat) (w1 : w < (convE ⟨T.h, T.x, T.c⟩ n).1.x.toNat) : VT Try.prog (fnC Try.f22 [1, 1, 1, 1, 1, 0, 1, 0, 0, 1, 0, 0, 1, 0, 0, 1, 0, 0, 1, 0, 0]) (rcOf_o_I T n h w (n.no.toNat)) (.exit 4) (rcOf_o_Z T n h w) := by
  have nn := ok.n
  have g1 := nn.he
  have g2 := nn.xe
  have g3 := nn.sc
  have g4 := nn.o1
  have g5 := nn.o2
  exact VT.run (W := [.r [] [], .br false]) (G := [.any (rg [(41, 4)]), .sort]) (by kernel_rfl) (.c (decide_eq_false (p := ((↑n.no.toNat : Int) < (convE (Shp.mk T.h T.x T.c) n).fst.c)) (by omega)) <| .n)
theorem rcOf_o (T : Ten) (n : Nod) (h w : Nat) (ok : CvOk T n) (h1 : h < (convE ⟨T.h, T.x, T.c⟩ n).1.h.toNat) (w1 : w < (convE ⟨T.h, T.x, T.c⟩ n).1.x.toNat) : VT Try.prog (fnC Try.f22 [1, 1, 1, 1, 1, 0, 1, 0, 0, 1, 0, 0, 1, 0, 0, 1, 0, 0, 1, 0]) (rcOf_o_I T n h w 0) (.exit 4) (rcOf_o_Z T n h w) :=
  VT.loop (fun k => rcOf_o_I T n h w k) (n.no.toNat) (fun k hk => rcOf_o_s T n h w ok h1 w1 k hk) (rcOf_o_e T n h w ok h1 w1) (by intro h; cases h)

noncomputable def rcOf_w_I (T : Ten) (n : Nod) (h : Nat) (k : Nat) : VS := stt 60 [(2, .ptr 2 0 0), (3, .ptr 3 0 0), (4, .ptr 4 0 0), (6, .ptr 6 0 0), (8, .ptr 8 0 0), (9, i64 h), (10, i64 k)] [(2, .var [i64 T.h, i64 T.x, i64 T.c, ints .i8 T.d]), (3, .var (nodC n)), (4, .var [i64 0, i64 0, i64 0, nilv]), (6, .var [i64 (convE ⟨T.h, T.x, T.c⟩ n).1.h, i64 (convE ⟨T.h, T.x, T.c⟩ n).1.x, i64 (convE ⟨T.h, T.x, T.c⟩ n).1.c]), (8, .var [i64 (convE ⟨T.h, T.x, T.c⟩ n).1.h, i64 (convE ⟨T.h, T.x, T.c⟩ n).1.x, i64 (convE ⟨T.h, T.x, T.c⟩ n).1.c, .own 900]), (900, .slc 21 1 ((refH T n h ++ refW T n h k).map (row1 .i32)))]
noncomputable def rcOf_w_Z (T : Ten) (n : Nod) (h : Nat) : VS := rcOf_w_I T n h ((convE ⟨T.h, T.x, T.c⟩ n).1.x.toNat)
set_option maxRecDepth 100000 in
set_option maxHeartbeats 2000000 in
theorem rcOf_w_s (T : Ten) (n : Nod) (h : Nat) (ok : CvOk T n) (h1 : h < (convE ⟨T.h, T.x, T.c⟩ n).1.h.toNat) (k : Nat) (hk : k < (convE ⟨T.h, T.x, T.c⟩ n).1.x.toNat) : VT Try.prog (fnC Try.f22 [1, 1, 1, 1, 1, 0, 1, 0, 0, 1, 0, 0, 1, 0, 0]) (rcOf_w_I T n h k) .normal (rcOf_w_I T n h (k + 1)) := by
  have nn := ok.n
  have g1 := nn.he
  have g2 := nn.xe
  have g3 := nn.sc
  have g4 := nn.o1
  have g5 := nn.o2
  have oz3 := @rcOf_o (T) (n) (h) (k) ok h1 hk
  exact VT.run (W := [.r [] [], .br true, .r [] [], .code [.any (rg [(35, 4)]), .weak 11 (i64 (↑0 : Int)), .blk 900 (Blk.slc 21 1 (List.map (row1 IntKind.i32) (refH T n h ++ (refW T n h k ++ refO T n h k 0)))), .sort] (Exit.exit 4) (zO oz3), .r [] [.n ((↑k : Int) + 1)]]) (G := [.any [11, 39, 40], .weak 10 (i64 (↑(k + 1) : Int)), .blk 900 (Blk.slc 21 1 (List.map (row1 IntKind.i32) (refH T n h ++ refW T n h (k + 1)))), .sort]) (by kernel_rfl) (.c (decide_eq_true (p := ((↑k : Int) < (convE (Shp.mk T.h T.x T.c) n).fst.x)) (by omega)) <| .c (Weak.int (k := .i64) (show ((0) : Int) = ((↑0 : Int)) from (by omega))) <| .c (show BlkW (Blk.slc 21 1 (List.map (row1 IntKind.i32) (refH T n h ++ refW T n h k))) (Blk.slc 21 1 (List.map (row1 IntKind.i32) (refH T n h ++ (refW T n h k ++ refO T n h k 0)))) from (BlkW.rows (rows_to (row1 IntKind.i32) (l := refH T n h ++ refW T n h k) (m := refH T n h ++ (refW T n h k ++ refO T n h k 0)) rfl (show (refH T n h ++ refW T n h k) = (refH T n h ++ (refW T n h k ++ refO T n h k 0)) from (by (simp [refO]; done)))))) <| .c oz3 <| .c (IntWalk.i64_in ((↑k : Int) + 1) (by omega)) <| .c (Weak.int (k := .i64) (show (((↑k : Int) + 1) : Int) = ((↑(k + 1) : Int)) from (by omega))) <| .c (show BlkW (Blk.slc 21 1 (List.map (row1 IntKind.i32) (refH T n h ++ (refW T n h k ++ refO T n h k n.no.toNat)))) (Blk.slc 21 1 (List.map (row1 IntKind.i32) (refH T n h ++ refW T n h (k + 1)))) from (BlkW.rows (rows_to (row1 IntKind.i32) (l := refH T n h ++ (refW T n h k ++ refO T n h k n.no.toNat)) (m := refH T n h ++ refW T n h (k + 1)) rfl (show (refH T n h ++ (refW T n h k ++ refO T n h k n.no.toNat)) = (refH T n h ++ refW T n h (k + 1)) from (by rfl))))) <| .n)
set_option maxRecDepth 100000 in
set_option maxHeartbeats 2000000 in
theorem rcOf_w_e (T : Ten) (n : Nod) (h : Nat) (ok : CvOk T n) (h1 : h < (convE ⟨T.h, T.x, T.c⟩ n).1.h.toNat) : VT Try.prog (fnC Try.f22 [1, 1, 1, 1, 1, 0, 1, 0, 0, 1, 0, 0, 1, 0, 0]) (rcOf_w_I T n h ((convE ⟨T.h, T.x, T.c⟩ n).1.x.toNat)) (.exit 2) (rcOf_w_Z T n h) := by
  have nn := ok.n
  have g1 := nn.he
  have g2 := nn.xe
  have g3 := nn.sc
  have g4 := nn.o1
  have g5 := nn.o2
  exact VT.run (W := [.r [] [], .br false]) (G := [.any (rg [(35, 4)]), .sort]) (by kernel_rfl) (.c (decide_eq_false (p := ((↑(convE (Shp.mk T.h T.x T.c) n).fst.x.toNat : Int) < (convE (Shp.mk T.h T.x T.c) n).fst.x)) (by omega)) <| .n)
theorem rcOf_w (T : Ten) (n : Nod) (h : Nat) (ok : CvOk T n) (h1 : h < (convE ⟨T.h, T.x, T.c⟩ n).1.h.toNat) : VT Try.prog (fnC Try.f22 [1, 1, 1, 1, 1, 0, 1, 0, 0, 1, 0, 0, 1, 0]) (rcOf_w_I T n h 0) (.exit 2) (rcOf_w_Z T n h) :=
  VT.loop (fun k => rcOf_w_I T n h k) ((convE ⟨T.h, T.x, T.c⟩ n).1.x.toNat) (fun k hk => rcOf_w_s T n h ok h1 k hk) (rcOf_w_e T n h ok h1) (by intro h; cases h)

noncomputable def rcOf_h_I (T : Ten) (n : Nod) (k : Nat) : VS := stt 60 [(2, .ptr 2 0 0), (3, .ptr 3 0 0), (4, .ptr 4 0 0), (6, .ptr 6 0 0), (8, .ptr 8 0 0), (9, i64 k)] [(2, .var [i64 T.h, i64 T.x, i64 T.c, ints .i8 T.d]), (3, .var (nodC n)), (4, .var [i64 0, i64 0, i64 0, nilv]), (6, .var [i64 (convE ⟨T.h, T.x, T.c⟩ n).1.h, i64 (convE ⟨T.h, T.x, T.c⟩ n).1.x, i64 (convE ⟨T.h, T.x, T.c⟩ n).1.c]), (8, .var [i64 (convE ⟨T.h, T.x, T.c⟩ n).1.h, i64 (convE ⟨T.h, T.x, T.c⟩ n).1.x, i64 (convE ⟨T.h, T.x, T.c⟩ n).1.c, .own 900]), (900, .slc 21 1 ((refH T n k).map (row1 .i32)))]
noncomputable def rcOf_h_Z (T : Ten) (n : Nod) : VS := rcOf_h_I T n ((convE ⟨T.h, T.x, T.c⟩ n).1.h.toNat)
set_option maxRecDepth 100000 in
set_option maxHeartbeats 2000000 in
theorem rcOf_h_s (T : Ten) (n : Nod) (ok : CvOk T n) (k : Nat) (hk : k < (convE ⟨T.h, T.x, T.c⟩ n).1.h.toNat) : VT Try.prog (fnC Try.f22 [1, 1, 1, 1, 1, 0, 1, 0, 0]) (rcOf_h_I T n k) .normal (rcOf_h_I T n (k + 1)) := by
  have nn := ok.n
  have g1 := nn.he
  have g2 := nn.xe
  have g3 := nn.sc
  have g4 := nn.o1
  have g5 := nn.o2
  have oz3 := @rcOf_w (T) (n) (k) ok hk
  exact VT.run (W := [.r [] [], .br true, .r [] [], .code [.any (rg [(29, 4)]), .weak 10 (i64 (↑0 : Int)), .blk 900 (Blk.slc 21 1 (List.map (row1 IntKind.i32) (refH T n k ++ refW T n k 0))), .sort] (Exit.exit 2) (zO oz3), .r [] [.n ((↑k : Int) + 1)]]) (G := [.any [10, 33, 34], .weak 9 (i64 (↑(k + 1) : Int)), .blk 900 (Blk.slc 21 1 (List.map (row1 IntKind.i32) (refH T n (k + 1)))), .sort]) (by kernel_rfl) (.c (decide_eq_true (p := ((↑k : Int) < (convE (Shp.mk T.h T.x T.c) n).fst.h)) (by omega)) <| .c (Weak.int (k := .i64) (show ((0) : Int) = ((↑0 : Int)) from (by omega))) <| .c (show BlkW (Blk.slc 21 1 (List.map (row1 IntKind.i32) (refH T n k))) (Blk.slc 21 1 (List.map (row1 IntKind.i32) (refH T n k ++ refW T n k 0))) from (BlkW.rows (rows_to (row1 IntKind.i32) (l := refH T n k) (m := refH T n k ++ refW T n k 0) rfl (show (refH T n k) = (refH T n k ++ refW T n k 0) from (by (simp [refW]; done)))))) <| .c oz3 <| .c (IntWalk.i64_in ((↑k : Int) + 1) (by omega)) <| .c (Weak.int (k := .i64) (show (((↑k : Int) + 1) : Int) = ((↑(k + 1) : Int)) from (by omega))) <| .c (show BlkW (Blk.slc 21 1 (List.map (row1 IntKind.i32) (refH T n k ++ refW T n k (convE (Shp.mk T.h T.x T.c) n).fst.x.toNat))) (Blk.slc 21 1 (List.map (row1 IntKind.i32) (refH T n (k + 1)))) from (BlkW.rows (rows_to (row1 IntKind.i32) (l := refH T n k ++ refW T n k (convE (Shp.mk T.h T.x T.c) n).fst.x.toNat) (m := refH T n (k + 1)) rfl (show (refH T n k ++ refW T n k (convE (Shp.mk T.h T.x T.c) n).fst.x.toNat) = (refH T n (k + 1)) from (by rfl))))) <| .n)
set_option maxRecDepth 100000 in
set_option maxHeartbeats 2000000 in
theorem rcOf_h_e (T : Ten) (n : Nod) (ok : CvOk T n) : VT Try.prog (fnC Try.f22 [1, 1, 1, 1, 1, 0, 1, 0, 0]) (rcOf_h_I T n ((convE ⟨T.h, T.x, T.c⟩ n).1.h.toNat)) (.exit 0) (rcOf_h_Z T n) := by
  have nn := ok.n
  have g1 := nn.he
  have g2 := nn.xe
  have g3 := nn.sc
  have g4 := nn.o1
  have g5 := nn.o2
  exact VT.run (W := [.r [] [], .br false]) (G := [.any (rg [(29, 4)]), .sort]) (by kernel_rfl) (.c (decide_eq_false (p := ((↑(convE (Shp.mk T.h T.x T.c) n).fst.h.toNat : Int) < (convE (Shp.mk T.h T.x T.c) n).fst.h)) (by omega)) <| .n)
theorem rcOf_h (T : Ten) (n : Nod) (ok : CvOk T n) : VT Try.prog (fnC Try.f22 [1, 1, 1, 1, 1, 0, 1, 0]) (rcOf_h_I T n 0) (.exit 0) (rcOf_h_Z T n) :=
  VT.loop (fun k => rcOf_h_I T n k) ((convE ⟨T.h, T.x, T.c⟩ n).1.h.toNat) (fun k hk => rcOf_h_s T n ok k hk) (rcOf_h_e T n ok) (by intro h; cases h)

set_option maxRecDepth 100000 in
set_option maxHeartbeats 2000000 in
theorem rcOf_x (T : Ten) (n : Nod) (ok : CvOk T n) : VC Try.prog 22 ([ten .i8 T, nod n]) (.tup [ten .i32 ⟨(convE ⟨T.h, T.x, T.c⟩ n).1.h, (convE ⟨T.h, T.x, T.c⟩ n).1.x, (convE ⟨T.h, T.x, T.c⟩ n).1.c, refH T n (convE ⟨T.h, T.x, T.c⟩ n).1.h.toNat⟩, i64 0]) := by
  have ok1 := ok.ok
  have okn := ok.okn
  have q2 := ok.r
  have q3 := ok.e
  have oz0 := @refTRight_v (T) ok1
  have oz2 := @refConvShape_v (Shp.mk T.h T.x T.c) (n) (by (exact Shp.mk_ok ok1.h ok1.x ok1.c)) okn
  have oz5 := @rcOf_h (T) (n) ok
  exact VC.run (fn := Try.f22) (W := [.r [] [], .r [] [.callr (rO oz0)], .br false, .r [] [.callr (rO oz2)], .r [] [], .br false, .r [] [], .r [] [], .code [.any (rg [(0, 2), (5, 1), (7, 1), (12, 3), (16, 9), (27, 2)]), .weak 9 (i64 (↑0 : Int)), .nilc 900 21 1 8 3, .sort] (Exit.exit 0) (zO oz5), .r [] []]) Try.func22 (by kernel_rfl) (.c oz0 <| .c (show (!tenRight T) = false by (simp; omega)) <| .c oz2 <| .c (show ((convE (Shp.mk T.h T.x T.c) n).snd != 0) = false by (simp; omega)) <| .c (Weak.int (k := .i64) (show ((0) : Int) = ((↑0 : Int)) from (by omega))) <| .c oz5 <| .n)
end Go.Proofs.Ytcegfkmelcjdhaa

