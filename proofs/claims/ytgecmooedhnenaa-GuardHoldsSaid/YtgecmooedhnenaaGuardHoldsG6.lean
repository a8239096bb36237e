/- Texts of this claim, put together: RnF, PrM, GrM, CvG, GdF, GdG, FuV, Vc, SpS, GhM, Few, Gh, Gi. No condition. -/
import Derived.Test.YtgecmooedhnenaaGuardHoldsG5
set_option linter.unusedVariables false
set_option linter.unusedSimpArgs false
set_option linter.unnecessarySimpa false
/- All values of a block, by the document. No condition. -/
namespace Go.Proofs.Ytgecmooedhnenaa
open Go.RowKit
set_option linter.unusedSimpArgs false
set_option linter.unusedVariables false
set_option linter.unnecessarySimpa false

instance : Inhabited Ten := ⟨ten0⟩
abbrev tnC (T : Ten) : List AV := [i64 T.h, i64 T.x, i64 T.c, ints .i8 T.d]
theorem ten0_ok : (ten0 : Ten).Ok := ⟨by decide, by decide, by decide, by simp⟩
theorem heldQ8 (v m s z : Int) {lo hi : Int} (h1 : In8 lo) (h2 : In8 hi) : In8 (heldQ v m s z lo hi) := by
  unfold heldQ; split
  · exact clamp_in _ h1 h2
  · decide
theorem joinE8 (x y : Int) {n : Nod} (ok : n.Ok) : In8 (joinE x y n) := by
  unfold joinE; split
  · exact clamp_in _ ok.lo ok.hi
  · decide
theorem map8 {α : Type} {f : α → Int} (hf : ∀ a, In8 (f a)) (l : List α) : ∀ v ∈ l.map f, In8 v := by
  intro v hv
  obtain ⟨a, _, rfl⟩ := List.mem_map.1 hv
  exact hf a
theorem meanE8 (l : List Int) : In8 (meanE l) := by unfold meanE In8 IntKind.wrap; simp [IntKind.bits, IntKind.signed]; omega
theorem poolF8 {T : Ten} (ok : T.Ok) (n : Nod) (s : Shp) (m : Bool) (i : Nat) : In8 (poolF T n s m i) := by
  unfold poolF; split
  · exact (reach8 (winI_8 ok _ _ _ _ _) _).2
  · exact meanE8 _
theorem poolOf_ok {T : Ten} {n : Nod} (ok : T.Ok) (okn : n.Ok) (m : Bool) : (poolOf T n m).1.Ok := by
  unfold poolOf
  split
  · split
    · rename_i h1 h2
      obtain ⟨r, _, _, _, _, _, _, _, _, _, _, _, sc, h3, h4, h5, h6, _, _⟩ := PlOk.n ⟨ok, okn, h1, h2⟩
      have r1 := r.c1; have r2 := r.c2
      exact ⟨by dsimp only; omega, by dsimp only; omega, by dsimp only; omega, map8 (poolF8 ok n _ m) _⟩
    · exact ten0_ok
  · exact ten0_ok
theorem actOf_ok {T : Ten} {n : Nod} (ok : T.Ok) (okn : n.Ok) : (actOf T n).1.Ok := by
  unfold actOf
  split
  · exact ten0_ok
  · split
    · exact ten0_ok
    · exact ⟨ok.h, ok.x, ok.c, map8 (fun v => heldQ8 _ _ _ _ okn.lo okn.hi) _⟩
theorem joinOf_ok {T U : Ten} {n : Nod} (ok : T.Ok) (okn : n.Ok) : (joinOf T U n).1.Ok := by
  unfold joinOf
  split
  · exact ten0_ok
  · split
    · exact ten0_ok
    · exact ⟨ok.h, ok.x, ok.c, map8 (fun i => joinE8 _ _ okn) _⟩
theorem padOf_ok {T : Ten} (ok : T.Ok) {p z : Int} (hz : In8 z) : (padOf T p z).1.Ok := by
  unfold padOf
  split
  · exact ten0_ok
  · rename_i h
    have c := elems_ok (h := T.h + 2 * p) (x := T.x + 2 * p) (c := T.c) (by have := elems_in (T.h + 2 * p) (T.x + 2 * p) T.c; omega)
    exact ⟨by dsimp only; omega, by dsimp only; omega, by dsimp only; omega, gH_in8 (fun h w c => pix8 ok hz _ _ _) _ _ _⟩
theorem putOf_ok {A : Ten} {n : Nod} (ok : A.Ok32) (okn : n.Ok) : (putOf A n).1.Ok := by
  unfold putOf
  split
  · exact ten0_ok
  · split
    · exact ten0_ok
    · exact ⟨ok.h, ok.x, ok.c, map8 (fun v => heldQ8 _ _ _ _ okn.lo okn.hi) _⟩
theorem nodeOf_ok {n : Nod} {A B : Ten} (okn : n.Ok) (okA : A.Ok) : (nodeOf n A B).1.Ok := by
  unfold nodeOf
  split
  · exact ten0_ok
  · split
    · exact ten0_ok
    · rename_i h1 h2
      split
      · exact poolOf_ok okA okn true
      · split
        · exact poolOf_ok okA okn false
        · split
          · exact joinOf_ok okA okn
          · split
            · exact actOf_ok okA okn
            · split
              · split
                · exact ten0_ok
                · exact padOf_ok okA okn.za
              · split
                · have r := tenRight.rt (T := A) (by simpa using h2)
                  have r1 := r.dl; have r2 := r.el
                  exact ⟨by dsimp only; omega, by dsimp only; omega, by dsimp only; omega, okA.d⟩
                · split
                  · exact ten0_ok
                  · exact putOf_ok (sumOf_ok okA okn) okn
/-- The next value of a block, or what is wrong with it. -/
def valE (n : Nod) (L : List Ten) : Ten × Int := nodeOf n (L.getD n.na.toNat default) (L.getD (secN n).toNat default)
theorem valE_eq (n : Nod) (L : List Ten) : nodeOf n (L.getD n.na.toNat default) (L.getD (secN n).toNat default) = valE n L := rfl
theorem getD_all {α : Type} [Inhabited α] {p : α → Prop} (h0 : p default) {l : List α} (h : ∀ y ∈ l, p y) (i : Nat) : p (l.getD i default) := by
  rw [List.getD_eq_getElem?_getD]
  cases e : l[i]? with
  | none => exact h0
  | some y => exact h y (List.mem_of_getElem? e)
theorem val_ok {l : List Nod} (okl : ∀ n ∈ l, n.Ok) {x : Ten} (ok : x.Ok) {k : Nat} (hk : k ≤ l.length) : ∀ T ∈ growL valE l x k, T.Ok :=
  growL_all (n := l.length) ok (fun j hj h => nodeOf_ok (getD_in okl hj) (getD_all (p := Ten.Ok) ten0_ok h _)) k hk
structure VOK (l : List Nod) (x : Ten) : Prop where
  okl : ∀ n ∈ l, n.Ok
  wl : ∀ n ∈ l, n.w.length ≤ 100000 ∧ n.b.length ≤ 100000
  ok : x.Ok
  s : SOK l ⟨x.h, x.x, x.c⟩
theorem VOK.takes {l : List Nod} {x : Ten} (h : VOK l x) {k : Nat} (hk : k < l.length) : 0 ≤ (l.getD k default).na ∧ (l.getD k default).na ≤ k ∧ 0 ≤ secN (l.getD k default) ∧ secN (l.getD k default) ≤ k := by
  have q := h.s.k k hk
  unfold errL at q
  have c := (nextE_ok q).2.1
  rw [List.length_map, growL_len] at c
  have := there_iff.1 c
  omega
noncomputable def rvals_ly_I (l : List Nod) (x : Ten) (k : Nat) : VS := stt 72 [(0, .sl 19 (l.map nodC)), (10, .own 900), (11, i64 k)] [(900, .slc 27 4 ((growL valE l x k).map tnC))]
noncomputable def rvals_ly_Z (l : List Nod) (x : Ten) : VS := rvals_ly_I l x (l.length)
set_option maxRecDepth 100000 in
set_option maxHeartbeats 2000000 in
theorem rvals_ly_s (l : List Nod) (x : Ten) (v : VOK l x) (h : ∀ k, k < l.length → errL valE l x k = 0) (k : Nat) (hk : k < l.length) : VT Try.prog (fnC Try.f17 [1, 1, 1, 1, 1, 0, 1, 0, 0]) (rvals_ly_I l x k) .normal (rvals_ly_I l x (k + 1)) := by
  have q := h k hk
  have f8 := v.s.f
  have q1 := growL_len valE l x k
  have q2 := val_ok v.okl v.ok (Nat.le_of_lt hk)
  have q3 := getD_in v.okl hk
  have q4 := getD_in v.wl hk
  obtain ⟨q5, q6⟩ := q4
  obtain ⟨t1, t2, t3, t4⟩ := v.takes hk
  have q8 : (List.map tnC (growL valE l x k)).length = k + 1 := by rw [List.length_map, q1]
  have q9 := getD_all (p := Ten.Ok) ten0_ok q2 (l.getD k default).na.toNat
  have qa := getD_all (p := Ten.Ok) ten0_ok q2 (secN (l.getD k default)).toNat
  unfold errL at q
  have oz1 := (show 0 ≤ (↑k : Int) by omega)
  have oz2 := (map_at (nodC) (default) (l := l) (i := k) hk)
  have oz7 := (map_at (tnC) (default) (l := growL valE l x k) (i := (l.getD k default).na.toNat) (by omega))
  have oz10 := @refSecond_v (l.getD k default)
  have oz13 := (map_at (tnC) (default) (l := growL valE l x k) (i := (secN (l.getD k default)).toNat) (by omega))
  have oz14 := @rnode_v (l.getD k default) ((growL valE l x k).getD (l.getD k default).na.toNat default) ((growL valE l x k).getD (secN (l.getD k default)).toNat default) q3 q5 q6 q9 qa
  exact VT.run (W := [.r [] [], .br true, .r [] [.row (sO oz2), .row (sO oz2), .row (sO oz7), .row (sO oz2), .callr (rO oz10), .row (sO oz13), .callr (rO oz14)], .r [] [], .br false, .r [] [], .r [] [.n ((↑k : Int) + 1)]]) (G := [.any (rg [(12, 2), (31, 32), (65, 4)]), .drop [12, 67], .ren 68 900, .weak 11 (i64 (↑(k + 1) : Int)), .blk 900 (Blk.slc 27 4 (List.map tnC (growL valE l x (k + 1)))), .sort]) (by kernel_rfl) (.c (show decide ((↑k : Int) < (↑(List.map nodC l).length : Int)) = true by (simp; omega)) <| .c oz1 <| .c oz2 <| .c oz1 <| .c oz2 <| .c t1 <| .c (show (l.getD k default).na < (↑(List.map tnC (growL valE l x k)).length : Int) by omega) <| .c oz7 <| .c oz1 <| .c oz2 <| .c oz10 <| .c t3 <| .c (show secN (l.getD k default) < (↑(List.map tnC (growL valE l x k)).length : Int) by omega) <| .c oz13 <| .c oz14 <| .c (show ((nodeOf (l.getD k default) ((growL valE l x k).getD (l.getD k default).na.toNat default) ((growL valE l x k).getD (secN (l.getD k default)).toNat default)).snd != 0) = false by (rw [valE_eq, q]; rfl)) <| .c (show ((List.map tnC (growL valE l x k)).length + 1) * 48 ≤ 140737488355328 by omega) <| .c (show (List.map tnC (growL valE l x k)).length + 1 ≤ 9223372036854775807 by omega) <| .c (IntWalk.i64_in ((↑k : Int) + 1) (by omega)) <| .c (Weak.int (k := .i64) (show (((↑k : Int) + 1) : Int) = ((↑(k + 1) : Int)) from (by omega))) <| .c (show BlkW (Blk.slc 27 4 (List.map tnC (growL valE l x k) ++ [[i64 (nodeOf (l.getD k default) ((growL valE l x k).getD (l.getD k default).na.toNat default) ((growL valE l x k).getD (secN (l.getD k default)).toNat default)).fst.h, i64 (nodeOf (l.getD k default) ((growL valE l x k).getD (l.getD k default).na.toNat default) ((growL valE l x k).getD (secN (l.getD k default)).toNat default)).fst.x, i64 (nodeOf (l.getD k default) ((growL valE l x k).getD (l.getD k default).na.toNat default) ((growL valE l x k).getD (secN (l.getD k default)).toNat default)).fst.c, AV.sl 1 (List.map (row1 IntKind.i8) (nodeOf (l.getD k default) ((growL valE l x k).getD (l.getD k default).na.toNat default) ((growL valE l x k).getD (secN (l.getD k default)).toNat default)).fst.d)]])) (Blk.slc 27 4 (List.map tnC (growL valE l x (k + 1)))) from (BlkW.rows (rows_to (tnC) (r := List.map tnC (growL valE l x k) ++ [[i64 (nodeOf (l.getD k default) ((growL valE l x k).getD (l.getD k default).na.toNat default) ((growL valE l x k).getD (secN (l.getD k default)).toNat default)).fst.h, i64 (nodeOf (l.getD k default) ((growL valE l x k).getD (l.getD k default).na.toNat default) ((growL valE l x k).getD (secN (l.getD k default)).toNat default)).fst.x, i64 (nodeOf (l.getD k default) ((growL valE l x k).getD (l.getD k default).na.toNat default) ((growL valE l x k).getD (secN (l.getD k default)).toNat default)).fst.c, AV.sl 1 (List.map (row1 IntKind.i8) (nodeOf (l.getD k default) ((growL valE l x k).getD (l.getD k default).na.toNat default) ((growL valE l x k).getD (secN (l.getD k default)).toNat default)).fst.d)]]) (l := growL valE l x k ++ [Ten.mk (nodeOf (l.getD k default) ((growL valE l x k).getD (l.getD k default).na.toNat default) ((growL valE l x k).getD (secN (l.getD k default)).toNat default)).fst.h (nodeOf (l.getD k default) ((growL valE l x k).getD (l.getD k default).na.toNat default) ((growL valE l x k).getD (secN (l.getD k default)).toNat default)).fst.x (nodeOf (l.getD k default) ((growL valE l x k).getD (l.getD k default).na.toNat default) ((growL valE l x k).getD (secN (l.getD k default)).toNat default)).fst.c (nodeOf (l.getD k default) ((growL valE l x k).getD (l.getD k default).na.toNat default) ((growL valE l x k).getD (secN (l.getD k default)).toNat default)).fst.d]) (m := growL valE l x (k + 1)) (by first | (simp only [List.map_append, List.map_cons, List.map_nil, List.map_set, List.map_replicate, List.map_take, List.map_drop]; done) | rfl | (simp only [List.map_append, List.map_cons, List.map_nil, List.map_set, List.map_replicate, List.map_take, List.map_drop]; rfl) | (simp only [List.map_append, List.map_cons, List.map_nil, List.map_set, List.map_replicate, List.map_take, List.map_drop, tnC, ints]; done)) (show (growL valE l x k ++ [Ten.mk (nodeOf (l.getD k default) ((growL valE l x k).getD (l.getD k default).na.toNat default) ((growL valE l x k).getD (secN (l.getD k default)).toNat default)).fst.h (nodeOf (l.getD k default) ((growL valE l x k).getD (l.getD k default).na.toNat default) ((growL valE l x k).getD (secN (l.getD k default)).toNat default)).fst.x (nodeOf (l.getD k default) ((growL valE l x k).getD (l.getD k default).na.toNat default) ((growL valE l x k).getD (secN (l.getD k default)).toNat default)).fst.c (nodeOf (l.getD k default) ((growL valE l x k).getD (l.getD k default).na.toNat default) ((growL valE l x k).getD (secN (l.getD k default)).toNat default)).fst.d]) = (growL valE l x (k + 1)) from (by (rw [growL, valE])))))) <| .n)
set_option maxRecDepth 100000 in
set_option maxHeartbeats 2000000 in
theorem rvals_ly_e (l : List Nod) (x : Ten) (v : VOK l x) (h : ∀ k, k < l.length → errL valE l x k = 0) : VT Try.prog (fnC Try.f17 [1, 1, 1, 1, 1, 0, 1, 0, 0]) (rvals_ly_I l x (l.length)) (.exit 0) (rvals_ly_Z l x) := by
  exact VT.run (W := [.r [] [], .br false]) (G := [.any (rg [(31, 4)]), .sort]) (by kernel_rfl) (.c (show decide ((↑l.length : Int) < (↑(List.map nodC l).length : Int)) = false by (simp; done)) <| .n)
theorem rvals_ly (l : List Nod) (x : Ten) (v : VOK l x) (h : ∀ k, k < l.length → errL valE l x k = 0) : VT Try.prog (fnC Try.f17 [1, 1, 1, 1, 1, 0, 1, 0]) (rvals_ly_I l x 0) (.exit 0) (rvals_ly_Z l x) :=
  VT.loop (fun k => rvals_ly_I l x k) (l.length) (fun k hk => rvals_ly_s l x v h k hk) (rvals_ly_e l x v h) (by intro h; cases h)

noncomputable def rvals_ln_I (l : List Nod) (x : Ten) (m : Nat) (k : Nat) : VS := stt 72 [(0, .sl 19 (l.map nodC)), (10, .own 900), (11, i64 k)] [(900, .slc 27 4 ((growL valE l x k).map tnC))]
noncomputable def rvals_ln_Z (l : List Nod) (x : Ten) (m : Nat) : VS := stt 72 [(4, nilv), (5, i64 m), (6, i64 (errL valE l x m))] []
set_option maxRecDepth 100000 in
set_option maxHeartbeats 2000000 in
theorem rvals_ln_s (l : List Nod) (x : Ten) (m : Nat) (v : VOK l x) (hm : m < l.length) (hf : errL valE l x m ≠ 0) (h : ∀ k, k < m → errL valE l x k = 0) (k : Nat) (hk : k < m) : VT Try.prog (fnC Try.f17 [1, 1, 1, 1, 1, 0, 1, 0, 0]) (rvals_ln_I l x m k) .normal (rvals_ln_I l x m (k + 1)) := by
  have q := h k hk
  have f8 := v.s.f
  have q0 : k < l.length := by omega
  have q1 := growL_len valE l x k
  have q2 := val_ok v.okl v.ok (Nat.le_of_lt q0)
  have q3 := getD_in v.okl q0
  have q4 := getD_in v.wl q0
  obtain ⟨q5, q6⟩ := q4
  obtain ⟨t1, t2, t3, t4⟩ := v.takes q0
  have q8 : (List.map tnC (growL valE l x k)).length = k + 1 := by rw [List.length_map, q1]
  have q9 := getD_all (p := Ten.Ok) ten0_ok q2 (l.getD k default).na.toNat
  have qa := getD_all (p := Ten.Ok) ten0_ok q2 (secN (l.getD k default)).toNat
  unfold errL at q
  have oz1 := (show 0 ≤ (↑k : Int) by omega)
  have oz2 := (map_at (nodC) (default) (l := l) (i := k) q0)
  have oz7 := (map_at (tnC) (default) (l := growL valE l x k) (i := (l.getD k default).na.toNat) (by omega))
  have oz10 := @refSecond_v (l.getD k default)
  have oz13 := (map_at (tnC) (default) (l := growL valE l x k) (i := (secN (l.getD k default)).toNat) (by omega))
  have oz14 := @rnode_v (l.getD k default) ((growL valE l x k).getD (l.getD k default).na.toNat default) ((growL valE l x k).getD (secN (l.getD k default)).toNat default) q3 q5 q6 q9 qa
  exact VT.run (W := [.r [] [], .br true, .r [] [.row (sO oz2), .row (sO oz2), .row (sO oz7), .row (sO oz2), .callr (rO oz10), .row (sO oz13), .callr (rO oz14)], .r [] [], .br false, .r [] [], .r [] [.n ((↑k : Int) + 1)]]) (G := [.any (rg [(12, 2), (31, 32), (65, 4)]), .drop [12, 67], .ren 68 900, .weak 11 (i64 (↑(k + 1) : Int)), .blk 900 (Blk.slc 27 4 (List.map tnC (growL valE l x (k + 1)))), .sort]) (by kernel_rfl) (.c (show decide ((↑k : Int) < (↑(List.map nodC l).length : Int)) = true by (simp; omega)) <| .c oz1 <| .c oz2 <| .c oz1 <| .c oz2 <| .c t1 <| .c (show (l.getD k default).na < (↑(List.map tnC (growL valE l x k)).length : Int) by omega) <| .c oz7 <| .c oz1 <| .c oz2 <| .c oz10 <| .c t3 <| .c (show secN (l.getD k default) < (↑(List.map tnC (growL valE l x k)).length : Int) by omega) <| .c oz13 <| .c oz14 <| .c (show ((nodeOf (l.getD k default) ((growL valE l x k).getD (l.getD k default).na.toNat default) ((growL valE l x k).getD (secN (l.getD k default)).toNat default)).snd != 0) = false by (rw [valE_eq, q]; rfl)) <| .c (show ((List.map tnC (growL valE l x k)).length + 1) * 48 ≤ 140737488355328 by omega) <| .c (show (List.map tnC (growL valE l x k)).length + 1 ≤ 9223372036854775807 by omega) <| .c (IntWalk.i64_in ((↑k : Int) + 1) (by omega)) <| .c (Weak.int (k := .i64) (show (((↑k : Int) + 1) : Int) = ((↑(k + 1) : Int)) from (by omega))) <| .c (show BlkW (Blk.slc 27 4 (List.map tnC (growL valE l x k) ++ [[i64 (nodeOf (l.getD k default) ((growL valE l x k).getD (l.getD k default).na.toNat default) ((growL valE l x k).getD (secN (l.getD k default)).toNat default)).fst.h, i64 (nodeOf (l.getD k default) ((growL valE l x k).getD (l.getD k default).na.toNat default) ((growL valE l x k).getD (secN (l.getD k default)).toNat default)).fst.x, i64 (nodeOf (l.getD k default) ((growL valE l x k).getD (l.getD k default).na.toNat default) ((growL valE l x k).getD (secN (l.getD k default)).toNat default)).fst.c, AV.sl 1 (List.map (row1 IntKind.i8) (nodeOf (l.getD k default) ((growL valE l x k).getD (l.getD k default).na.toNat default) ((growL valE l x k).getD (secN (l.getD k default)).toNat default)).fst.d)]])) (Blk.slc 27 4 (List.map tnC (growL valE l x (k + 1)))) from (BlkW.rows (rows_to (tnC) (r := List.map tnC (growL valE l x k) ++ [[i64 (nodeOf (l.getD k default) ((growL valE l x k).getD (l.getD k default).na.toNat default) ((growL valE l x k).getD (secN (l.getD k default)).toNat default)).fst.h, i64 (nodeOf (l.getD k default) ((growL valE l x k).getD (l.getD k default).na.toNat default) ((growL valE l x k).getD (secN (l.getD k default)).toNat default)).fst.x, i64 (nodeOf (l.getD k default) ((growL valE l x k).getD (l.getD k default).na.toNat default) ((growL valE l x k).getD (secN (l.getD k default)).toNat default)).fst.c, AV.sl 1 (List.map (row1 IntKind.i8) (nodeOf (l.getD k default) ((growL valE l x k).getD (l.getD k default).na.toNat default) ((growL valE l x k).getD (secN (l.getD k default)).toNat default)).fst.d)]]) (l := growL valE l x k ++ [Ten.mk (nodeOf (l.getD k default) ((growL valE l x k).getD (l.getD k default).na.toNat default) ((growL valE l x k).getD (secN (l.getD k default)).toNat default)).fst.h (nodeOf (l.getD k default) ((growL valE l x k).getD (l.getD k default).na.toNat default) ((growL valE l x k).getD (secN (l.getD k default)).toNat default)).fst.x (nodeOf (l.getD k default) ((growL valE l x k).getD (l.getD k default).na.toNat default) ((growL valE l x k).getD (secN (l.getD k default)).toNat default)).fst.c (nodeOf (l.getD k default) ((growL valE l x k).getD (l.getD k default).na.toNat default) ((growL valE l x k).getD (secN (l.getD k default)).toNat default)).fst.d]) (m := growL valE l x (k + 1)) (by first | (simp only [List.map_append, List.map_cons, List.map_nil, List.map_set, List.map_replicate, List.map_take, List.map_drop]; done) | rfl | (simp only [List.map_append, List.map_cons, List.map_nil, List.map_set, List.map_replicate, List.map_take, List.map_drop]; rfl) | (simp only [List.map_append, List.map_cons, List.map_nil, List.map_set, List.map_replicate, List.map_take, List.map_drop, tnC, ints]; done)) (show (growL valE l x k ++ [Ten.mk (nodeOf (l.getD k default) ((growL valE l x k).getD (l.getD k default).na.toNat default) ((growL valE l x k).getD (secN (l.getD k default)).toNat default)).fst.h (nodeOf (l.getD k default) ((growL valE l x k).getD (l.getD k default).na.toNat default) ((growL valE l x k).getD (secN (l.getD k default)).toNat default)).fst.x (nodeOf (l.getD k default) ((growL valE l x k).getD (l.getD k default).na.toNat default) ((growL valE l x k).getD (secN (l.getD k default)).toNat default)).fst.c (nodeOf (l.getD k default) ((growL valE l x k).getD (l.getD k default).na.toNat default) ((growL valE l x k).getD (secN (l.getD k default)).toNat default)).fst.d]) = (growL valE l x (k + 1)) from (by (rw [growL, valE])))))) <| .n)
set_option maxRecDepth 100000 in
set_option maxHeartbeats 2000000 in
theorem rvals_ln_e (l : List Nod) (x : Ten) (m : Nat) (v : VOK l x) (hm : m < l.length) (hf : errL valE l x m ≠ 0) (h : ∀ k, k < m → errL valE l x k = 0) : VT Try.prog (fnC Try.f17 [1, 1, 1, 1, 1, 0, 1, 0, 0]) (rvals_ln_I l x m (m)) (.ret) (rvals_ln_Z l x m) := by
  have f8 := v.s.f
  have q1 := growL_len valE l x m
  have q2 := val_ok v.okl v.ok (Nat.le_of_lt hm)
  have q3 := getD_in v.okl hm
  have q4 := getD_in v.wl hm
  obtain ⟨q5, q6⟩ := q4
  obtain ⟨t1, t2, t3, t4⟩ := v.takes hm
  have q8 : (List.map tnC (growL valE l x m)).length = m + 1 := by rw [List.length_map, q1]
  have q9 := getD_all (p := Ten.Ok) ten0_ok q2 (l.getD m default).na.toNat
  have qa := getD_all (p := Ten.Ok) ten0_ok q2 (secN (l.getD m default)).toNat
  unfold errL at hf
  have oz1 := (show 0 ≤ (↑m : Int) by omega)
  have oz2 := (map_at (nodC) (default) (l := l) (i := m) hm)
  have oz7 := (map_at (tnC) (default) (l := growL valE l x m) (i := (l.getD m default).na.toNat) (by omega))
  have oz10 := @refSecond_v (l.getD m default)
  have oz13 := (map_at (tnC) (default) (l := growL valE l x m) (i := (secN (l.getD m default)).toNat) (by omega))
  have oz14 := @rnode_v (l.getD m default) ((growL valE l x m).getD (l.getD m default).na.toNat default) ((growL valE l x m).getD (secN (l.getD m default)).toNat default) q3 q5 q6 q9 qa
  have oz16 := (Weak.int (k := .i64) (show (((nodeOf (l.getD m default) ((growL valE l x m).getD (l.getD m default).na.toNat default) ((growL valE l x m).getD (secN (l.getD m default)).toNat default)).snd) : Int) = (errL valE l x m) from (by (unfold errL; rw [valE_eq]))))
  exact VT.run (W := [.r [] [], .br true, .r [] [.row (sO oz2), .row (sO oz2), .row (sO oz7), .row (sO oz2), .callr (rO oz10), .row (sO oz13), .callr (rO oz14)], .r [] [], .br true, .r [] []]) (G := [.any (rg [(0, 1), (10, 4), (31, 4), (37, 28)]), .drop [900, 12], .weak 6 (wO oz16), .sort]) (by kernel_rfl) (.c (show decide ((↑m : Int) < (↑(List.map nodC l).length : Int)) = true by (simp; omega)) <| .c oz1 <| .c oz2 <| .c oz1 <| .c oz2 <| .c t1 <| .c (show (l.getD m default).na < (↑(List.map tnC (growL valE l x m)).length : Int) by omega) <| .c oz7 <| .c oz1 <| .c oz2 <| .c oz10 <| .c t3 <| .c (show secN (l.getD m default) < (↑(List.map tnC (growL valE l x m)).length : Int) by omega) <| .c oz13 <| .c oz14 <| .c (show ((nodeOf (l.getD m default) ((growL valE l x m).getD (l.getD m default).na.toNat default) ((growL valE l x m).getD (secN (l.getD m default)).toNat default)).snd != 0) = true by (rw [valE_eq, bne_iff_ne]; exact hf)) <| .c oz16 <| .n)
theorem rvals_ln (l : List Nod) (x : Ten) (m : Nat) (v : VOK l x) (hm : m < l.length) (hf : errL valE l x m ≠ 0) (h : ∀ k, k < m → errL valE l x k = 0) : VT Try.prog (fnC Try.f17 [1, 1, 1, 1, 1, 0, 1, 0]) (rvals_ln_I l x m 0) (.ret) (rvals_ln_Z l x m) :=
  VT.loop (fun k => rvals_ln_I l x m k) (m) (fun k hk => rvals_ln_s l x m v hm hf h k hk) (rvals_ln_e l x m v hm hf h) (by intro h; cases h)
set_option maxRecDepth 100000 in
set_option maxHeartbeats 2000000 in
theorem rvals_y (l : List Nod) (x : Ten) (v : VOK l x) (r : tenRight x = true) (h : ∀ k, k < l.length → errL valE l x k = 0) : VC Try.prog 17 ([.sl 19 (l.map nodC), ten .i8 x]) (.tup [.sl 4 ((growL valE l x l.length).map tnC), i64 l.length, i64 0]) := by
  obtain ⟨v1, v2, v3, v4⟩ := id v
  have o1 := v3.h
  have o2 := v3.x
  have o3 := v3.c
  have oz0 := @refTRight_v (x) v3
  have oz2 := @rshapes_y (l) (Shp.mk x.h x.x x.c) v1 v2 v4
  have oz5 := @rvals_ly (l) (x) v h
  exact (VC.run (fn := Try.f17) (W := [.r [] [], .r [] [.callr (rO oz0)], .br false, .r [] [.callr (rO oz2)], .r [] [], .br false, .r [] [], .r [] [], .code [.any (rg [(1, 1), (3, 7), (14, 13), (29, 2)]), .drop [3], .ren 30 900, .weak 11 (i64 (↑0 : Int)), .sort] (Exit.exit 0) (zO oz5), .r [] []]) (r := AV.tup [AV.sl 4 (List.map tnC (growL valE l x l.length)), i64 (↑(List.map nodC l).length : Int), i64 0]) Try.func17 (by kernel_rfl) (.c oz0 <| .c (show (!tenRight x) = false by (simp; omega)) <| .c oz2 <| .c (show false = false by with_reducible rfl) <| .c (Weak.int (k := .i64) (show ((0) : Int) = ((↑0 : Int)) from (by omega))) <| .c oz5 <| .n)).weak (WeakL.refl _) (Weak.tup (.cons (.refl _) (.cons (Weak.int (show (((↑(List.map nodC l).length : Int)) : Int) = ((↑l.length : Int)) from (by (simp; done)))) (.cons (.refl _) .nil))))

set_option maxRecDepth 100000 in
set_option maxHeartbeats 2000000 in
theorem rvals_m (l : List Nod) (x : Ten) (m : Nat) (v : VOK l x) (r : tenRight x = true) (hm : m < l.length) (hf : errL valE l x m ≠ 0) (h : ∀ k, k < m → errL valE l x k = 0) : VC Try.prog 17 ([.sl 19 (l.map nodC), ten .i8 x]) (.tup [nilv, i64 m, i64 (errL valE l x m)]) := by
  obtain ⟨v1, v2, v3, v4⟩ := id v
  have o1 := v3.h
  have o2 := v3.x
  have o3 := v3.c
  have oz0 := @refTRight_v (x) v3
  have oz2 := @rshapes_y (l) (Shp.mk x.h x.x x.c) v1 v2 v4
  have oz5 := @rvals_ln (l) (x) (m) v hm hf h
  exact VC.run (fn := Try.f17) (W := [.r [] [], .r [] [.callr (rO oz0)], .br false, .r [] [.callr (rO oz2)], .r [] [], .br false, .r [] [], .r [] [], .code [.any (rg [(1, 1), (3, 7), (14, 13), (29, 2)]), .drop [3], .ren 30 900, .weak 11 (i64 (↑0 : Int)), .sort] (Exit.ret) (zO oz5)]) Try.func17 (by kernel_rfl) (.c oz0 <| .c (show (!tenRight x) = false by (simp; omega)) <| .c oz2 <| .c (show false = false by with_reducible rfl) <| .c (Weak.int (k := .i64) (show ((0) : Int) = ((↑0 : Int)) from (by omega))) <| .c oz5 <| .n)
/-- Where all ends, and what is wrong there. -/
def valsE (l : List Nod) (x : Ten) : Int × Int := if tenRight x = false then (-1, 5) else if (shapesE l ⟨x.h, x.x, x.c⟩).2 ≠ 0 then shapesE l ⟨x.h, x.x, x.c⟩ else
  if firstBad (fun k => errL valE l x k == 0) l.length < l.length then (firstBad (fun k => errL valE l x k == 0) l.length, errL valE l x (firstBad (fun k => errL valE l x k == 0) l.length)) else (l.length, 0)
theorem shapesE_bad {l : List Nod} {a : Shp} (h : ¬ SOK l a) : (shapesE l a).2 ≠ 0 := by
  rcases SOK.cases l a with q | q | q | q | ⟨i', e, f, m, h1, h2, h3⟩
  · exact absurd q h
  · unfold shapesE Shp.Rt at *; rw [if_pos q]; decide
  · unfold shapesE
    by_cases i : 0 < elems a.h a.x a.c
    · rw [if_neg (by omega), if_pos q]; decide
    · rw [if_pos i]; decide
  · unfold shapesE
    by_cases i : 0 < elems a.h a.x a.c
    · rw [if_neg (by omega), if_neg (by omega), if_pos q]; decide
    · rw [if_pos i]; decide
  · rw [shapesE_at i' e f h1 h2 h3]; exact h2
set_option maxRecDepth 100000 in
set_option maxHeartbeats 2000000 in
theorem rvals_n (l : List Nod) (x : Ten) (okl : ∀ n ∈ l, n.Ok) (wl : ∀ n ∈ l, n.w.length ≤ 100000 ∧ n.b.length ≤ 100000) (ok : x.Ok) (hl : l.length ≤ 1000) (hn : tenRight x = false ∨ ¬ SOK l ⟨x.h, x.x, x.c⟩) : VC Try.prog 17 ([.sl 19 (l.map nodC), ten .i8 x]) (.tup [nilv, i64 (valsE l x).1, i64 (valsE l x).2]) := by
  have o1 := ok.h
  have o2 := ok.x
  have o3 := ok.c
  have g1 := @shapesE_bad l ⟨x.h, x.x, x.c⟩
  have g2 : (!tenRight x) = false → ¬ SOK l ⟨x.h, x.x, x.c⟩ := fun h => by
    rcases hn with hn | hn
    · rw [hn] at h; cases h
    · exact hn
  have g3 : (!tenRight x) = false → (shapesE l ⟨x.h, x.x, x.c⟩).2 ≠ 0 := fun h => g1 (g2 h)
  have oz0 := @refTRight_v (x) ok
  rcases Bool.eq_false_or_eq_true (!tenRight x) with hc0 | hc0
  · have gc0 : tenRight x = false := by first | exact hc0 | exact of_decide_eq_true hc0 | exact of_decide_eq_false hc0 | simpa [eqNums] using hc0 | (simp [eqNums] at hc0 ⊢; first | done | assumption | omega)
    exact (VC.run (fn := Try.f17) (W := [.r [] [], .r [] [.callr (rO oz0)], .br true, .r [] []]) (r := AV.tup [AV.lit (Value.slice none 0 0), i64 (-1), i64 5]) Try.func17 (by kernel_rfl) (.c oz0 <| .c hc0 <| .n)).weak (WeakL.refl _) (Weak.tup (.cons (.refl _) (.cons (Weak.int (show ((-1) : Int) = ((valsE l x).fst) from (by (unfold valsE; rw [if_pos (by assumption)])))) (.cons (Weak.int (show ((5) : Int) = ((valsE l x).snd) from (by (unfold valsE; rw [if_pos (by assumption)])))) .nil))))
  · have gc0 : tenRight x = true := by first | exact hc0 | exact of_decide_eq_true hc0 | exact of_decide_eq_false hc0 | simpa [eqNums] using hc0 | (simp [eqNums] at hc0 ⊢; first | done | assumption | omega)
    have oz2 := @rshapes_n (l) (Shp.mk x.h x.x x.c) okl wl (by (exact Shp.mk_ok o1 o2 o3)) hl (by (exact g2 (by assumption)))
    exact (VC.run (fn := Try.f17) (W := [.r [] [], .r [] [.callr (rO oz0)], .br false, .r [] [.callr (rO oz2)], .r [] [], .br true, .r [] []]) (r := AV.tup [AV.lit (Value.slice none 0 0), i64 (shapesE l (Shp.mk x.h x.x x.c)).fst, i64 (shapesE l (Shp.mk x.h x.x x.c)).snd]) Try.func17 (by kernel_rfl) (.c oz0 <| .c hc0 <| .c oz2 <| .c (show ((shapesE l (Shp.mk x.h x.x x.c)).snd != 0) = true by (rw [bne_iff_ne]; exact g3 (by assumption))) <| .n)).weak (WeakL.refl _) (Weak.tup (.cons (.refl _) (.cons (Weak.int (show (((shapesE l (Shp.mk x.h x.x x.c)).fst) : Int) = ((valsE l x).fst) from (by (unfold valsE; rw [if_neg (by rw [‹tenRight x = true›]; simp), if_pos (g3 (by assumption))])))) (.cons (Weak.int (show (((shapesE l (Shp.mk x.h x.x x.c)).snd) : Int) = ((valsE l x).snd) from (by (unfold valsE; rw [if_neg (by rw [‹tenRight x = true›]; simp), if_pos (g3 (by assumption))])))) .nil))))
end Go.Proofs.Ytgecmooedhnenaa

/- Which nodes of a block are used, and what is left of them: the plain law. No condition. -/
namespace Go.Proofs.Ytgecmooedhnenaa
open Go.RowKit
set_option linter.unusedSimpArgs false
set_option linter.unusedVariables false
set_option linter.unnecessarySimpa false

def orderedB (l : List Nod) : Bool := (List.range l.length).all fun i => thereB (l.getD i default) ((i : Int) + 1)
/-! Numbers in order. -/
end Go.Proofs.Ytgecmooedhnenaa

/- Values one behind the other: of nodes that take two of those ahead; of nodes that are used alone. The plain law. No condition. -/
namespace Go.Proofs.Ytgecmooedhnenaa
open Go.RowKit
set_option linter.unusedSimpArgs false
set_option linter.unusedVariables false
set_option linter.unnecessarySimpa false

/-- What comes next is made of a node and of the two values that it takes, and not of their numbers. -/
structure Loc {α : Type} [Inhabited α] (f : Nod → List α → α × Int) (g : Nod → α → α → α × Int) : Prop where
  eq : ∀ (n : Nod) (L : List α), thereB n L.length = true → f n L = g n (L.getD n.na.toNat default) (L.getD (secN n).toNat default)
  ren : ∀ (n : Nod) (u v : Int) (a b : α), (n.kd = 6 ∨ v = n.nb) → g { n with na := u, nb := v } a b = g n a b
/-- The value v. -/
def gv {α : Type} [Inhabited α] (f : Nod → List α → α × Int) (l : List Nod) (x : α) (v : Nat) : α := (growL f l x v).getD v default
section
variable {α : Type} [Inhabited α] {f : Nod → List α → α × Int} {g : Nod → α → α → α × Int} {l : List Nod} {x : α}
theorem growL_at : ∀ (k : Nat) {v : Nat}, v ≤ k → (growL f l x k).getD v default = gv f l x v
  | 0, v, h => by have : v = 0 := by omega
                  subst this; rfl
  | k + 1, v, h => by
    by_cases e : v = k + 1
    · subst e; rfl
    · rw [growL, List.getD_eq_getElem?_getD, List.getElem?_append_left (by rw [growL_len]; omega), ← List.getD_eq_getElem?_getD]
      exact growL_at k (by omega)
theorem gv_next (k : Nat) : gv f l x (k + 1) = (f (l.getD k default) (growL f l x k)).1 := by
  unfold gv
  rw [growL, List.getD_eq_getElem?_getD, List.getElem?_append_right (by rw [growL_len]; omega), growL_len]; simp
theorem gv_step (hf : Loc f g) {k : Nat} (h : thereB (l.getD k default) ((k : Int) + 1) = true) :
    f (l.getD k default) (growL f l x k) = g (l.getD k default) (gv f l x (l.getD k default).na.toNat) (gv f l x (secN (l.getD k default)).toNat) := by
  have t := there_iff.1 h
  rw [hf.eq _ _ (by rw [growL_len, Int.natCast_add]; exact h), growL_at k (by omega), growL_at k (by omega)]
theorem gv_succ (hf : Loc f g) {k : Nat} (h : thereB (l.getD k default) ((k : Int) + 1) = true) :
    gv f l x (k + 1) = (g (l.getD k default) (gv f l x (l.getD k default).na.toNat) (gv f l x (secN (l.getD k default)).toNat)).1 := by rw [gv_next, gv_step hf h]
theorem errL_step (hf : Loc f g) {k : Nat} (h : thereB (l.getD k default) ((k : Int) + 1) = true) :
    errL f l x k = (g (l.getD k default) (gv f l x (l.getD k default).na.toNat) (gv f l x (secN (l.getD k default)).toNat)).2 := by unfold errL; rw [gv_step hf h]
theorem ordered_there (h : orderedB l = true) {k : Nat} (hk : k < l.length) : thereB (l.getD k default) ((k : Int) + 1) = true := List.all_eq_true.1 h k (by simpa using hk)
end
theorem checkE_ren (n : Nod) (u v : Int) (h : n.kd = 6 ∨ v = n.nb) : checkE { n with na := u, nb := v } = checkE n := by
  unfold checkE moreE
  rcases h with h | h
  · simp [h]
  · subst h; rfl
end Go.Proofs.Ytgecmooedhnenaa

/- The numbers that a window makes, one by one. No condition. -/
namespace Go.Proofs.Ytgecmooedhnenaa
open Go.RowKit
set_option linter.unusedSimpArgs false
set_option linter.unusedVariables false
set_option linter.unnecessarySimpa false

/-- A number that a window made. -/
theorem outL_get (T : Ten) (n : Nod) (h1 : 1 ≤ n.no) : ∀ (k i : Nat), i < k * n.no.toNat → (outL T n k).getD i 0 =
    cvS T n ((i : Int) / n.no / (convE ⟨T.h, T.x, T.c⟩ n).1.x) ((i : Int) / n.no % (convE ⟨T.h, T.x, T.c⟩ n).1.x) ((i : Int) % n.no)
  | 0, i, h => by omega
  | k + 1, i, h => by
    rw [outL]
    by_cases hi : i < k * n.no.toNat
    · rw [List.getD_eq_getElem?_getD, List.getElem?_append_left (by rw [outL_len]; exact hi), ← List.getD_eq_getElem?_getD]
      exact outL_get T n h1 k i hi
    · obtain ⟨o, rfl⟩ : ∃ o, i = k * n.no.toNat + o := ⟨i - k * n.no.toNat, by omega⟩
      rw [Nat.add_mul, Nat.one_mul] at h
      have ho : o < n.no.toNat := by omega
      rw [List.getD_eq_getElem?_getD, List.getElem?_append_right (by rw [outL_len]; omega), outL_len, Nat.add_sub_cancel_left, List.getElem?_map, List.getElem?_range ho]
      simp only [Option.map_some, Option.getD_some]
      have e : ((k * n.no.toNat + o : Nat) : Int) = (k : Int) * n.no + (o : Int) := by
        rw [Int.natCast_add, Int.natCast_mul, Int.toNat_of_nonneg (by omega)]
      have e1 : ((k : Int) * n.no + (o : Int)) / n.no = k := by
        rw [Int.add_comm, Int.add_mul_ediv_right _ _ (by omega), Int.ediv_eq_zero_of_lt (by omega) (by omega)]; omega
      have e2 : ((k : Int) * n.no + (o : Int)) % n.no = o := by
        rw [Int.add_comm, Int.add_mul_emod_self_right, Int.emod_eq_of_lt (by omega) (by omega)]
      rw [e, e1, e2]
theorem convOf_d {T : Ten} {n : Nod} (ok : CvOk T n) : (convOf T n).1 = ⟨(convE ⟨T.h, T.x, T.c⟩ n).1.h, (convE ⟨T.h, T.x, T.c⟩ n).1.x, (convE ⟨T.h, T.x, T.c⟩ n).1.c, outL T n ((convE ⟨T.h, T.x, T.c⟩ n).1.h * (convE ⟨T.h, T.x, T.c⟩ n).1.x).toNat⟩ := by
  unfold convOf
  rw [if_neg (by simp [ok.r]), if_neg (by simpa using ok.e)]
theorem convOf_e {T : Ten} {n : Nod} (ok : T.Ok) (okn : n.Ok) (h : (convOf T n).2 = 0) : CvOk T n := by
  unfold convOf at h
  split at h
  · simp at h
  · split at h
    · rename_i h1 h2; exact absurd h h2
    · rename_i h1 h2; exact ⟨ok, okn, by simpa using h1, by simpa using h2⟩
theorem convOf_get {T : Ten} {n : Nod} (ok : CvOk T n) {i : Nat} (h : i < (convOf T n).1.d.length) : (convOf T n).1.d.getD i 0 =
    IntKind.i32.wrap (sumE T n ((i : Int) / n.no / (convE ⟨T.h, T.x, T.c⟩ n).1.x) ((i : Int) / n.no % (convE ⟨T.h, T.x, T.c⟩ n).1.x) ((i : Int) % n.no)) := by
  rw [convOf_d ok] at h ⊢
  simp only at h ⊢
  rw [outL_len] at h
  rw [outL_get T n ok.n.o1 _ i h, cvS_eq ok]
theorem convOf_count {T : Ten} {n : Nod} (ok : CvOk T n) : (convOf T n).1.d.length = ((convE ⟨T.h, T.x, T.c⟩ n).1.h * (convE ⟨T.h, T.x, T.c⟩ n).1.x).toNat * n.no.toNat := by
  rw [convOf_d ok]; exact outL_len _ _ _
end Go.Proofs.Ytgecmooedhnenaa

/- Between which numbers all values of a block lie, by the program. No condition. -/
namespace Go.Proofs.Ytgecmooedhnenaa
open Go.RowKit
set_option linter.unusedSimpArgs false
set_option linter.unusedVariables false
set_option linter.unnecessarySimpa false

def Rng.In8 (a : Rng) : Prop := Go.Proofs.Ytgecmooedhnenaa.In8 a.lo ∧ Go.Proofs.Ytgecmooedhnenaa.In8 a.hi
/-- The reach of what a node makes. -/
def nodeR (n : Nod) (a b : Rng) : Rng × Int :=
  if checkE n ≠ 0 then (⟨0, 0⟩, checkE n) else if a.lo > a.hi ∨ (n.kd = 6 ∧ b.lo > b.hi) then (⟨0, 0⟩, 2)
  else if n.kd = 1 ∨ n.kd = 2 ∨ n.kd = 3 then sumG n a
  else if n.kd = 6 then (⟨joinE a.lo b.lo n, joinE a.hi b.hi n⟩, 0)
  else if n.kd = 7 then (⟨oneN a.lo n, oneN a.hi n⟩, 0)
  else if n.kd = 8 ∧ n.np > 0 then (⟨min a.lo n.za, max a.hi n.za⟩, 0) else (a, 0)
noncomputable def ends64_l_I (a : Int) (l : List Int) (k : Nat) : VS := stt 27 [(6, i64 (foldR a l k).lo), (7, i64 (foldR a l k).hi), (12, ints .i64 l), (13, i64 l.length), (14, i64 k)] []
noncomputable def ends64_l_Z (a : Int) (l : List Int) : VS := ends64_l_I a l (l.length)
set_option maxRecDepth 100000 in
set_option maxHeartbeats 2000000 in
theorem ends64_l_s (a : Int) (l : List Int) (hl : l.length ≤ 1000) (k : Nat) (hk : k < l.length) : VT Try.prog (fnC Try.f130 [1, 1, 0, 1, 0, 0]) (ends64_l_I a l k) .normal (ends64_l_I a l (k + 1)) := by
  have oz4 := (Weak.int (k := .i64) (show ((if l.getD k 0 < (foldR a l k).lo then l.getD k 0 else (foldR a l k).lo) : Int) = ((foldR a l (k + 1)).lo) from (by (simp only [foldR]; split <;> omega))))
  have oz5 := (Weak.int (k := .i64) (show ((if l.getD k 0 > (foldR a l k).hi then l.getD k 0 else (foldR a l k).hi) : Int) = ((foldR a l (k + 1)).hi) from (by (simp only [foldR]; split <;> omega))))
  exact VT.run (W := [.r [] [], .br true, .r [] [.row [i64 (l.getD k 0)]], .r [] [], .r [] [.n ((↑k : Int) + 1)]]) (G := [.any (rg [(9, 1), (15, 10)]), .weak 6 (wO oz4), .weak 7 (wO oz5), .weak 14 (i64 (↑(k + 1) : Int)), .sort]) (by kernel_rfl) (.c (decide_eq_true (p := ((↑k : Int) < (↑l.length : Int))) (by omega)) <| .c (show 0 ≤ (↑k : Int) by omega) <| .c (map_at (row1 IntKind.i64) (0) (l := l) (i := k) hk) <| .c (IntWalk.i64_in ((↑k : Int) + 1) (by omega)) <| .c oz4 <| .c oz5 <| .c (Weak.int (k := .i64) (show (((↑k : Int) + 1) : Int) = ((↑(k + 1) : Int)) from (by omega))) <| .n)
set_option maxRecDepth 100000 in
set_option maxHeartbeats 2000000 in
theorem ends64_l_e (a : Int) (l : List Int) (hl : l.length ≤ 1000) : VT Try.prog (fnC Try.f130 [1, 1, 0, 1, 0, 0]) (ends64_l_I a l (l.length)) (.exit 0) (ends64_l_Z a l) := by
  exact VT.run (W := [.r [] [], .br false]) (G := [.any [15], .sort]) (by kernel_rfl) (.c (decide_eq_false (p := ((↑l.length : Int) < (↑l.length : Int))) (by omega)) <| .n)
theorem ends64_l (a : Int) (l : List Int) (hl : l.length ≤ 1000) : VT Try.prog (fnC Try.f130 [1, 1, 0, 1, 0]) (ends64_l_I a l 0) (.exit 0) (ends64_l_Z a l) :=
  VT.loop (fun k => ends64_l_I a l k) (l.length) (fun k hk => ends64_l_s a l hl k hk) (ends64_l_e a l hl) (by intro h; cases h)

set_option maxRecDepth 100000 in
set_option maxHeartbeats 2000000 in
theorem ends64_v (a : Int) (l : List Int) (hl : l.length ≤ 1000) : VC Try.prog 130 ([i64 a, ints .i64 l]) (.tup [i64 (foldR a l l.length).lo, i64 (foldR a l l.length).hi]) := by
  have oz1 := (Weak.int (k := .i64) (show (((↑(List.map (row1 IntKind.i64) l).length : Int)) : Int) = ((↑l.length : Int)) from (by (simp; done))))
  have oz3 := @ends64_l (a) (l) hl
  exact VC.run (fn := Try.f130) (W := [.r [] [], .r [] [], .r [] [], .code [.any [0, 1, 4, 5, 10, 11], .weak 7 (i64 (foldR a l 0).hi), .weak 13 (wO oz1), .weak 14 (i64 (↑0 : Int)), .sort] (Exit.exit 0) (zO oz3), .r [] []]) Try.func130 (by kernel_rfl) (.c (Weak.int (k := .i64) (show ((a) : Int) = ((foldR a l 0).hi) from (by rfl))) <| .c oz1 <| .c (Weak.int (k := .i64) (show ((0) : Int) = ((↑0 : Int)) from (by omega))) <| .c oz3 <| .n)
theorem ends64_1 (a b : Int) : VC Try.prog 130 [i64 a, .sl 1 [[i64 b]]] (.tup [i64 (min a b), i64 (max a b)]) := ends64_v a [b] (by simp)
noncomputable def ends8_l_I (a : Int) (l : List Int) (k : Nat) : VS := stt 27 [(6, i8 (foldR a l k).lo), (7, i8 (foldR a l k).hi), (12, ints .i8 l), (13, i64 l.length), (14, i64 k)] []
noncomputable def ends8_l_Z (a : Int) (l : List Int) : VS := ends8_l_I a l (l.length)
set_option maxRecDepth 100000 in
set_option maxHeartbeats 2000000 in
theorem ends8_l_s (a : Int) (l : List Int) (hl : l.length ≤ 1000) (k : Nat) (hk : k < l.length) : VT Try.prog (fnC Try.f195 [1, 1, 0, 1, 0, 0]) (ends8_l_I a l k) .normal (ends8_l_I a l (k + 1)) := by
  have oz4 := (Weak.int (k := .i8) (show ((if l.getD k 0 < (foldR a l k).lo then l.getD k 0 else (foldR a l k).lo) : Int) = ((foldR a l (k + 1)).lo) from (by (simp only [foldR]; split <;> omega))))
  have oz5 := (Weak.int (k := .i8) (show ((if l.getD k 0 > (foldR a l k).hi then l.getD k 0 else (foldR a l k).hi) : Int) = ((foldR a l (k + 1)).hi) from (by (simp only [foldR]; split <;> omega))))
  exact VT.run (W := [.r [] [], .br true, .r [] [.row [i8 (l.getD k 0)]], .r [] [], .r [] [.n ((↑k : Int) + 1)]]) (G := [.any (rg [(9, 1), (15, 10)]), .weak 6 (wO oz4), .weak 7 (wO oz5), .weak 14 (i64 (↑(k + 1) : Int)), .sort]) (by kernel_rfl) (.c (decide_eq_true (p := ((↑k : Int) < (↑l.length : Int))) (by omega)) <| .c (show 0 ≤ (↑k : Int) by omega) <| .c (map_at (row1 IntKind.i8) (0) (l := l) (i := k) hk) <| .c (IntWalk.i64_in ((↑k : Int) + 1) (by omega)) <| .c oz4 <| .c oz5 <| .c (Weak.int (k := .i64) (show (((↑k : Int) + 1) : Int) = ((↑(k + 1) : Int)) from (by omega))) <| .n)
set_option maxRecDepth 100000 in
set_option maxHeartbeats 2000000 in
theorem ends8_l_e (a : Int) (l : List Int) (hl : l.length ≤ 1000) : VT Try.prog (fnC Try.f195 [1, 1, 0, 1, 0, 0]) (ends8_l_I a l (l.length)) (.exit 0) (ends8_l_Z a l) := by
  exact VT.run (W := [.r [] [], .br false]) (G := [.any [15], .sort]) (by kernel_rfl) (.c (decide_eq_false (p := ((↑l.length : Int) < (↑l.length : Int))) (by omega)) <| .n)
theorem ends8_l (a : Int) (l : List Int) (hl : l.length ≤ 1000) : VT Try.prog (fnC Try.f195 [1, 1, 0, 1, 0]) (ends8_l_I a l 0) (.exit 0) (ends8_l_Z a l) :=
  VT.loop (fun k => ends8_l_I a l k) (l.length) (fun k hk => ends8_l_s a l hl k hk) (ends8_l_e a l hl) (by intro h; cases h)

set_option maxRecDepth 100000 in
set_option maxHeartbeats 2000000 in
theorem ends8_v (a : Int) (l : List Int) (hl : l.length ≤ 1000) : VC Try.prog 195 ([i8 a, ints .i8 l]) (.tup [i8 (foldR a l l.length).lo, i8 (foldR a l l.length).hi]) := by
  have oz1 := (Weak.int (k := .i64) (show (((↑(List.map (row1 IntKind.i8) l).length : Int)) : Int) = ((↑l.length : Int)) from (by (simp; done))))
  have oz3 := @ends8_l (a) (l) hl
  exact VC.run (fn := Try.f195) (W := [.r [] [], .r [] [], .r [] [], .code [.any [0, 1, 4, 5, 10, 11], .weak 7 (i8 (foldR a l 0).hi), .weak 13 (wO oz1), .weak 14 (i64 (↑0 : Int)), .sort] (Exit.exit 0) (zO oz3), .r [] []]) Try.func195 (by kernel_rfl) (.c (Weak.int (k := .i8) (show ((a) : Int) = ((foldR a l 0).hi) from (by rfl))) <| .c oz1 <| .c (Weak.int (k := .i64) (show ((0) : Int) = ((↑0 : Int)) from (by omega))) <| .c oz3 <| .n)
theorem ends8_2 (a b c : Int) : VC Try.prog 195 [i8 a, .sl 1 [[i8 b], [i8 c]]] (.tup [i8 (min (min a b) c), i8 (max (max a b) c)]) := ends8_v a [b, c] (by simp)
set_option maxRecDepth 100000 in
set_option maxHeartbeats 2000000 in
theorem over_v (a b c : Int)  : VC Try.prog 129 ([i8 a, .sl 1 [[i8 b], [i8 c]]]) (rch ⟨min (min a b) c, max (max a b) c⟩) := by
  have oz0 := @ends8_2 (a) (b) (c)
  exact VC.run (fn := Try.f129) (W := [.r [] [], .r [] [.callr (rO oz0)], .r [] []]) Try.func129 (by kernel_rfl) (.c oz0 <| .n)

set_option maxRecDepth 100000 in
set_option maxHeartbeats 2000000 in
theorem gnode_v (n : Nod) (a b : Rng) (ok : n.Ok) (ha : a.In8) (hb : b.In8) (wl : n.w.length ≤ 100000) (bl : n.b.length ≤ 100000) : VC Try.prog 67 ([nod n, rch a, rch b]) (.tup [rch (nodeR n a b).1, i64 (nodeR n a b).2]) := by
  have ok_kd := ok.kd
  obtain ⟨p1, p2⟩ := id ha
  obtain ⟨p3, p4⟩ := id hb
  have oz0 := @check_v (n) wl bl ok_kd
  rcases Bool.eq_false_or_eq_true (checkE n != 0) with hc0 | hc0
  · have gc0 : ¬checkE n = 0 := bdt hc0
    exact (VC.run (fn := Try.f67) (W := [.r [] [], .r [] [.callr (rO oz0)], .r [] [], .br true, .r [] []]) (r := AV.tup [AV.agg [i8 0, i8 0], i64 (checkE n)]) Try.func67 (by kernel_rfl) (.c oz0 <| .c hc0 <| .n)).weak (WeakL.refl _) (Weak.tup (.cons (Weak.agg (.cons (Weak.int (show ((0) : Int) = ((nodeR n a b).fst.lo) from (by (unfold nodeR; (repeat first | rw [if_pos (by omega)] | rw [if_neg (by omega)]))))) (.cons (Weak.int (show ((0) : Int) = ((nodeR n a b).fst.hi) from (by (unfold nodeR; (repeat first | rw [if_pos (by omega)] | rw [if_neg (by omega)]))))) .nil))) (.cons (Weak.int (show ((checkE n) : Int) = ((nodeR n a b).snd) from (by (unfold nodeR; (repeat first | rw [if_pos (by omega)] | rw [if_neg (by omega)]))))) .nil)))
  · have gc0 : checkE n = 0 := bdf hc0
    have oz2 := @upside_v (a.lo) (a.hi)
    have oz3 := @upside_v (b.lo) (b.hi)
    rcases Bool.eq_false_or_eq_true (decide (a.lo > a.hi) || n.kd == 6 && decide (b.lo > b.hi)) with hc1 | hc1
    · have gc1 : a.lo > a.hi ∨ n.kd = 6 ∧ b.lo > b.hi := by first | (simp only [Bool.or_eq_true, Bool.or_eq_false_iff, Bool.and_eq_true, Bool.and_eq_false_iff, Bool.not_eq_true', Bool.not_eq_false', decide_eq_true_eq, decide_eq_false_iff_not, beq_iff_eq, bne_iff_ne, ne_eq, beq_eq_false_iff_ne, bne_eq_false_iff_eq, eqNums, Bool.and_true] at hc1; first | exact hc1 | omega) | simpa using hc1 | (simp at hc1 ⊢; omega) | (apply Classical.byContradiction; intro hn; simp_all [eqNums]; done) | (apply Classical.byContradiction; intro hn; simp [eqNums] at hc1 hn; omega)
      exact (VC.run (fn := Try.f67) (W := [.r [] [], .r [] [.callr (rO oz0)], .r [] [], .br false, .r [] [.callr (rO oz2), .op false, .op false, .op false, .op false, .op false, .op false, .callr (rO oz3), .op false, .sel 2, .sel 1], .br true, .r [] []]) (r := AV.tup [AV.agg [i8 0, i8 0], i64 2]) Try.func67 (by kernel_rfl) (.c oz0 <| .c hc0 <| .c oz2 <| .c oz3 <| .c hc1 <| .n)).weak (WeakL.refl _) (Weak.tup (.cons (Weak.agg (.cons (Weak.int (show ((0) : Int) = ((nodeR n a b).fst.lo) from (by (unfold nodeR; (repeat first | rw [if_pos (by omega)] | rw [if_neg (by omega)]))))) (.cons (Weak.int (show ((0) : Int) = ((nodeR n a b).fst.hi) from (by (unfold nodeR; (repeat first | rw [if_pos (by omega)] | rw [if_neg (by omega)]))))) .nil))) (.cons (Weak.int (show ((2) : Int) = ((nodeR n a b).snd) from (by (unfold nodeR; (repeat first | rw [if_pos (by omega)] | rw [if_neg (by omega)]))))) .nil)))
    · have gc1 : ¬a.lo > a.hi ∧ (¬n.kd = 6 ∨ ¬b.lo > b.hi) := by first | (simp only [Bool.or_eq_true, Bool.or_eq_false_iff, Bool.and_eq_true, Bool.and_eq_false_iff, Bool.not_eq_true', Bool.not_eq_false', decide_eq_true_eq, decide_eq_false_iff_not, beq_iff_eq, bne_iff_ne, ne_eq, beq_eq_false_iff_ne, bne_eq_false_iff_eq, eqNums, Bool.and_true] at hc1; first | exact hc1 | omega) | simpa using hc1 | (simp at hc1 ⊢; omega) | (apply Classical.byContradiction; intro hn; simp_all [eqNums]; done) | (apply Classical.byContradiction; intro hn; simp [eqNums] at hc1 hn; omega)
      have oz5 := @sumsK_v (n.kd)
      rcases Bool.eq_false_or_eq_true (n.kd == 1 || n.kd == 2 || n.kd == 3) with hc2 | hc2
      · have gc2 : (n.kd = 1 ∨ n.kd = 2) ∨ n.kd = 3 := by first | (simp only [Bool.or_eq_true, Bool.or_eq_false_iff, Bool.and_eq_true, Bool.and_eq_false_iff, Bool.not_eq_true', Bool.not_eq_false', decide_eq_true_eq, decide_eq_false_iff_not, beq_iff_eq, bne_iff_ne, ne_eq, beq_eq_false_iff_ne, bne_eq_false_iff_eq, eqNums, Bool.and_true] at hc2; first | exact hc2 | omega) | simpa using hc2 | (simp at hc2 ⊢; omega) | (apply Classical.byContradiction; intro hn; simp_all [eqNums]; done) | (apply Classical.byContradiction; intro hn; simp [eqNums] at hc2 hn; omega)
        have oz7 := @summed_v (n) (a) ok p1 p2 wl bl
        exact (VC.run (fn := Try.f67) (W := [.r [] [], .r [] [.callr (rO oz0)], .r [] [], .br false, .r [] [.callr (rO oz2), .op false, .op false, .op false, .op false, .op false, .op false, .callr (rO oz3), .op false, .sel 2, .sel 1], .br false, .r [] [.callr (rO oz5)], .br true, .r [] [.callr (rO oz7)]]) (r := AV.tup [AV.agg [i8 (sumG n a).fst.lo, i8 (sumG n a).fst.hi], i64 (sumG n a).snd]) Try.func67 (by kernel_rfl) (.c oz0 <| .c hc0 <| .c oz2 <| .c oz3 <| .c hc1 <| .c oz5 <| .c hc2 <| .c oz7 <| .n)).weak (WeakL.refl _) (Weak.tup (.cons (Weak.agg (.cons (Weak.int (show (((sumG n a).fst.lo) : Int) = ((nodeR n a b).fst.lo) from (by (unfold nodeR; (repeat first | rw [if_pos (by omega)] | rw [if_neg (by omega)]))))) (.cons (Weak.int (show (((sumG n a).fst.hi) : Int) = ((nodeR n a b).fst.hi) from (by (unfold nodeR; (repeat first | rw [if_pos (by omega)] | rw [if_neg (by omega)]))))) .nil))) (.cons (Weak.int (show (((sumG n a).snd) : Int) = ((nodeR n a b).snd) from (by (unfold nodeR; (repeat first | rw [if_pos (by omega)] | rw [if_neg (by omega)]))))) .nil)))
      · have gc2 : (¬n.kd = 1 ∧ ¬n.kd = 2) ∧ ¬n.kd = 3 := by first | (simp only [Bool.or_eq_true, Bool.or_eq_false_iff, Bool.and_eq_true, Bool.and_eq_false_iff, Bool.not_eq_true', Bool.not_eq_false', decide_eq_true_eq, decide_eq_false_iff_not, beq_iff_eq, bne_iff_ne, ne_eq, beq_eq_false_iff_ne, bne_eq_false_iff_eq, eqNums, Bool.and_true] at hc2; first | exact hc2 | omega) | simpa using hc2 | (simp at hc2 ⊢; omega) | (apply Classical.byContradiction; intro hn; simp_all [eqNums]; done) | (apply Classical.byContradiction; intro hn; simp [eqNums] at hc2 hn; omega)
        rcases Bool.eq_false_or_eq_true (n.kd == 6) with hc3 | hc3
        · have gc3 : n.kd = 6 := bet hc3
          have oz8 := @joinOne_v (a.lo) (b.lo) (n) ok p1 p3
          have oz9 := @joinOne_v (a.hi) (b.hi) (n) ok p2 p4
          exact (VC.run (fn := Try.f67) (W := [.r [] [], .r [] [.callr (rO oz0)], .r [] [], .br false, .r [] [.callr (rO oz2), .op false, .op false, .op false, .op false, .op false, .op false, .callr (rO oz3), .op false, .sel 2, .sel 1], .br false, .r [] [.callr (rO oz5)], .br false, .r [] [], .br true, .r [] [.callr (rO oz8), .callr (rO oz9)]]) (r := AV.tup [AV.agg [i8 (joinE a.lo b.lo n), i8 (joinE a.hi b.hi n)], i64 0]) Try.func67 (by kernel_rfl) (.c oz0 <| .c hc0 <| .c oz2 <| .c oz3 <| .c hc1 <| .c oz5 <| .c hc2 <| .c hc3 <| .c oz8 <| .c oz9 <| .n)).weak (WeakL.refl _) (Weak.tup (.cons (Weak.agg (.cons (Weak.int (show ((joinE a.lo b.lo n) : Int) = ((nodeR n a b).fst.lo) from (by (unfold nodeR; (repeat first | rw [if_pos (by omega)] | rw [if_neg (by omega)]))))) (.cons (Weak.int (show ((joinE a.hi b.hi n) : Int) = ((nodeR n a b).fst.hi) from (by (unfold nodeR; (repeat first | rw [if_pos (by omega)] | rw [if_neg (by omega)]))))) .nil))) (.cons (Weak.int (show ((0) : Int) = ((nodeR n a b).snd) from (by (unfold nodeR; (repeat first | rw [if_pos (by omega)] | rw [if_neg (by omega)]))))) .nil)))
        · have gc3 : ¬n.kd = 6 := bef hc3
          rcases Bool.eq_false_or_eq_true (n.kd == 7) with hc4 | hc4
          · have gc4 : n.kd = 7 := bet hc4
            have oz9 := @actOne_w (a.lo) (n) ok p1
            have oz10 := @actOne_w (a.hi) (n) ok p2
            exact (VC.run (fn := Try.f67) (W := [.r [] [], .r [] [.callr (rO oz0)], .r [] [], .br false, .r [] [.callr (rO oz2), .op false, .op false, .op false, .op false, .op false, .op false, .callr (rO oz3), .op false, .sel 2, .sel 1], .br false, .r [] [.callr (rO oz5)], .br false, .r [] [], .br false, .r [] [], .br true, .r [] [.callr (rO oz9), .callr (rO oz10)]]) (r := AV.tup [AV.agg [i8 (oneN a.lo n), i8 (oneN a.hi n)], i64 0]) Try.func67 (by kernel_rfl) (.c oz0 <| .c hc0 <| .c oz2 <| .c oz3 <| .c hc1 <| .c oz5 <| .c hc2 <| .c hc3 <| .c hc4 <| .c oz9 <| .c oz10 <| .n)).weak (WeakL.refl _) (Weak.tup (.cons (Weak.agg (.cons (Weak.int (show ((oneN a.lo n) : Int) = ((nodeR n a b).fst.lo) from (by (unfold nodeR; (repeat first | rw [if_pos (by omega)] | rw [if_neg (by omega)]))))) (.cons (Weak.int (show ((oneN a.hi n) : Int) = ((nodeR n a b).fst.hi) from (by (unfold nodeR; (repeat first | rw [if_pos (by omega)] | rw [if_neg (by omega)]))))) .nil))) (.cons (Weak.int (show ((0) : Int) = ((nodeR n a b).snd) from (by (unfold nodeR; (repeat first | rw [if_pos (by omega)] | rw [if_neg (by omega)]))))) .nil)))
          · have gc4 : ¬n.kd = 7 := bef hc4
            rcases Bool.eq_false_or_eq_true (n.kd == 8 && decide (n.np > 0)) with hc5 | hc5
            · have gc5 : n.kd = 8 ∧ n.np > 0 := by first | (simp only [Bool.or_eq_true, Bool.or_eq_false_iff, Bool.and_eq_true, Bool.and_eq_false_iff, Bool.not_eq_true', Bool.not_eq_false', decide_eq_true_eq, decide_eq_false_iff_not, beq_iff_eq, bne_iff_ne, ne_eq, beq_eq_false_iff_ne, bne_eq_false_iff_eq, eqNums, Bool.and_true] at hc5; first | exact hc5 | omega) | simpa using hc5 | (simp at hc5 ⊢; omega) | (apply Classical.byContradiction; intro hn; simp_all [eqNums]; done) | (apply Classical.byContradiction; intro hn; simp [eqNums] at hc5 hn; omega)
              have oz10 := @over_v (n.za) (a.lo) (a.hi)
              exact (VC.run (fn := Try.f67) (W := [.r [] [], .r [] [.callr (rO oz0)], .r [] [], .br false, .r [] [.callr (rO oz2), .op false, .op false, .op false, .op false, .op false, .op false, .callr (rO oz3), .op false, .sel 2, .sel 1], .br false, .r [] [.callr (rO oz5)], .br false, .r [] [], .br false, .r [] [], .br false, .r [] [.op false, .op false, .op false, .sel 2], .br true, .r [] [.callr (rO oz10)]]) (r := AV.tup [AV.agg [i8 (Rng.mk (min (min n.za a.lo) a.hi) (max (max n.za a.lo) a.hi)).lo, i8 (Rng.mk (min (min n.za a.lo) a.hi) (max (max n.za a.lo) a.hi)).hi], i64 0]) Try.func67 (by kernel_rfl) (.c oz0 <| .c hc0 <| .c oz2 <| .c oz3 <| .c hc1 <| .c oz5 <| .c hc2 <| .c hc3 <| .c hc4 <| .c hc5 <| .c oz10 <| .n)).weak (WeakL.refl _) (Weak.tup (.cons (Weak.agg (.cons (Weak.int (show (((Rng.mk (min (min n.za a.lo) a.hi) (max (max n.za a.lo) a.hi)).lo) : Int) = ((nodeR n a b).fst.lo) from (by (unfold nodeR; (repeat first | rw [if_pos (by omega)] | rw [if_neg (by omega)]); dsimp only; omega)))) (.cons (Weak.int (show (((Rng.mk (min (min n.za a.lo) a.hi) (max (max n.za a.lo) a.hi)).hi) : Int) = ((nodeR n a b).fst.hi) from (by (unfold nodeR; (repeat first | rw [if_pos (by omega)] | rw [if_neg (by omega)]); dsimp only; omega)))) .nil))) (.cons (Weak.int (show ((0) : Int) = ((nodeR n a b).snd) from (by (unfold nodeR; (repeat first | rw [if_pos (by omega)] | rw [if_neg (by omega)]))))) .nil)))
            · have gc5 : ¬n.kd = 8 ∨ ¬n.np > 0 := by first | (simp only [Bool.or_eq_true, Bool.or_eq_false_iff, Bool.and_eq_true, Bool.and_eq_false_iff, Bool.not_eq_true', Bool.not_eq_false', decide_eq_true_eq, decide_eq_false_iff_not, beq_iff_eq, bne_iff_ne, ne_eq, beq_eq_false_iff_ne, bne_eq_false_iff_eq, eqNums, Bool.and_true] at hc5; first | exact hc5 | omega) | simpa using hc5 | (simp at hc5 ⊢; omega) | (apply Classical.byContradiction; intro hn; simp_all [eqNums]; done) | (apply Classical.byContradiction; intro hn; simp [eqNums] at hc5 hn; omega)
              exact (VC.run (fn := Try.f67) (W := [.r [] [], .r [] [.callr (rO oz0)], .r [] [], .br false, .r [] [.callr (rO oz2), .op false, .op false, .op false, .op false, .op false, .op false, .callr (rO oz3), .op false, .sel 2, .sel 1], .br false, .r [] [.callr (rO oz5)], .br false, .r [] [], .br false, .r [] [], .br false, .r [] [.op false, .op false, .op false, .sel 2], .br false, .r [] []]) (r := AV.tup [AV.agg [i8 a.lo, i8 a.hi], i64 0]) Try.func67 (by kernel_rfl) (.c oz0 <| .c hc0 <| .c oz2 <| .c oz3 <| .c hc1 <| .c oz5 <| .c hc2 <| .c hc3 <| .c hc4 <| .c hc5 <| .n)).weak (WeakL.refl _) (Weak.tup (.cons (Weak.agg (.cons (Weak.int (show ((a.lo) : Int) = ((nodeR n a b).fst.lo) from (by (unfold nodeR; (repeat first | rw [if_pos (by omega)] | rw [if_neg (by omega)]))))) (.cons (Weak.int (show ((a.hi) : Int) = ((nodeR n a b).fst.hi) from (by (unfold nodeR; (repeat first | rw [if_pos (by omega)] | rw [if_neg (by omega)]))))) .nil))) (.cons (Weak.int (show ((0) : Int) = ((nodeR n a b).snd) from (by (unfold nodeR; (repeat first | rw [if_pos (by omega)] | rw [if_neg (by omega)]))))) .nil)))
end Go.Proofs.Ytgecmooedhnenaa

/- Between which numbers all values of a block lie: the law. No condition. -/

namespace Go.Proofs.Ytgecmooedhnenaa
open Go.RowKit
set_option linter.unusedSimpArgs false
set_option linter.unusedVariables false
set_option linter.unnecessarySimpa false

/-- The reach of the next value. -/
def stepR (n : Nod) (L : List Rng) : Rng × Int := if thereB n L.length = true then nodeR n (L.getD n.na.toNat default) (L.getD (secN n).toNat default) else (⟨0, 0⟩, 8)
set_option maxRecDepth 100000 in
set_option maxHeartbeats 2000000 in
theorem gstep_v (n : Nod) (L : List Rng) (ok : n.Ok) (okL : ∀ r ∈ L, r.In8) (hL : L.length ≤ 100) (wl : n.w.length ≤ 100000) (bl : n.b.length ≤ 100000) : VC Try.prog 69 ([nod n, .sl 2 (L.map rchC)]) (.tup [rch (stepR n L).1, i64 (stepR n L).2]) := by
  have q1 := @there_iff n L.length
  have q2 : (List.map rchC L).length = L.length := List.length_map _
  have q3 := fun (h : n.na.toNat < L.length) => getD_in okL h
  have q4 := fun (h : (secN n).toNat < L.length) => getD_in okL h
  have q5 : n.kd = 6 → secN n = n.nb := fun h => if_pos h
  have q6 : ¬ n.kd = 6 → secN n = n.na := fun h => if_neg h
  rcases Bool.eq_false_or_eq_true (n.kd == 6) with hc0 | hc0
  · have gc0 : n.kd = 6 := bet hc0
    have oz1 := @ends64_1 (n.na) (n.nb)
    rcases Bool.eq_false_or_eq_true (decide (min n.na n.nb < 0) || decide (max n.na n.nb ≥ (↑(List.map rchC L).length : Int))) with hc1 | hc1
    · have gc1 : min n.na n.nb < 0 ∨ max n.na n.nb ≥ (↑(List.map rchC L).length : Int) := by first | (simp only [Bool.or_eq_true, Bool.or_eq_false_iff, Bool.and_eq_true, Bool.and_eq_false_iff, Bool.not_eq_true', Bool.not_eq_false', decide_eq_true_eq, decide_eq_false_iff_not, beq_iff_eq, bne_iff_ne, ne_eq, beq_eq_false_iff_ne, bne_eq_false_iff_eq, eqNums, Bool.and_true] at hc1; first | exact hc1 | omega) | simpa using hc1 | (simp at hc1 ⊢; omega) | (apply Classical.byContradiction; intro hn; simp_all [eqNums]; done) | (apply Classical.byContradiction; intro hn; simp [eqNums] at hc1 hn; omega)
      exact (VC.run (fn := Try.f69) (W := [.r [] [], .r [] [], .r [] [], .br true, .r [] [], .r [] [.callr (rO oz1)], .r [] [.op false, .op false, .op false, .op false, .sel 1], .br true, .r [] []]) (r := AV.tup [AV.agg [i8 0, i8 0], i64 8]) Try.func69 (by kernel_rfl) (.c hc0 <| .c oz1 <| .c hc1 <| .n)).weak (WeakL.refl _) (Weak.tup (.cons (Weak.agg (.cons (Weak.int (show ((0) : Int) = ((stepR n L).fst.lo) from (by (unfold stepR; rw [if_neg (by rw [q1]; omega)])))) (.cons (Weak.int (show ((0) : Int) = ((stepR n L).fst.hi) from (by (unfold stepR; rw [if_neg (by rw [q1]; omega)])))) .nil))) (.cons (Weak.int (show ((8) : Int) = ((stepR n L).snd) from (by (unfold stepR; rw [if_neg (by rw [q1]; omega)])))) .nil)))
    · have gc1 : ¬min n.na n.nb < 0 ∧ ¬max n.na n.nb ≥ (↑(List.map rchC L).length : Int) := by first | (simp only [Bool.or_eq_true, Bool.or_eq_false_iff, Bool.and_eq_true, Bool.and_eq_false_iff, Bool.not_eq_true', Bool.not_eq_false', decide_eq_true_eq, decide_eq_false_iff_not, beq_iff_eq, bne_iff_ne, ne_eq, beq_eq_false_iff_ne, bne_eq_false_iff_eq, eqNums, Bool.and_true] at hc1; first | exact hc1 | omega) | simpa using hc1 | (simp at hc1 ⊢; omega) | (apply Classical.byContradiction; intro hn; simp_all [eqNums]; done) | (apply Classical.byContradiction; intro hn; simp [eqNums] at hc1 hn; omega)
      have oz4 := (map_at (rchC) (default) (l := L) (i := n.na.toNat) (by omega))
      have oz6 := (map_at (rchC) (default) (l := L) (i := n.nb.toNat) (by omega))
      have oz7 := @gnode_v (n) (L.getD n.na.toNat default) (L.getD n.nb.toNat default) ok (by (exact q3 (by omega))) (by (rw [← q5 (by omega)]; exact q4 (by rw [q5 (by omega)]; omega))) wl bl
      exact (VC.run (fn := Try.f69) (W := [.r [] [], .r [] [], .r [] [], .br true, .r [] [], .r [] [.callr (rO oz1)], .r [] [.op false, .op false, .op false, .op false, .sel 1], .br false, .r [] [.row (sO oz4), .row (sO oz6), .callr (rO oz7)]]) (r := AV.tup [AV.agg [i8 (nodeR n (L.getD n.na.toNat default) (L.getD n.nb.toNat default)).fst.lo, i8 (nodeR n (L.getD n.na.toNat default) (L.getD n.nb.toNat default)).fst.hi], i64 (nodeR n (L.getD n.na.toNat default) (L.getD n.nb.toNat default)).snd]) Try.func69 (by kernel_rfl) (.c hc0 <| .c oz1 <| .c hc1 <| .c (show 0 ≤ n.na by omega) <| .c oz4 <| .c (show 0 ≤ n.nb by omega) <| .c oz6 <| .c oz7 <| .n)).weak (WeakL.refl _) (Weak.tup (.cons (Weak.agg (.cons (Weak.int (show (((nodeR n (L.getD n.na.toNat default) (L.getD n.nb.toNat default)).fst.lo) : Int) = ((stepR n L).fst.lo) from (by (unfold stepR; rw [q5 (by omega), if_pos (by rw [q1]; omega)])))) (.cons (Weak.int (show (((nodeR n (L.getD n.na.toNat default) (L.getD n.nb.toNat default)).fst.hi) : Int) = ((stepR n L).fst.hi) from (by (unfold stepR; rw [q5 (by omega), if_pos (by rw [q1]; omega)])))) .nil))) (.cons (Weak.int (show (((nodeR n (L.getD n.na.toNat default) (L.getD n.nb.toNat default)).snd) : Int) = ((stepR n L).snd) from (by (unfold stepR; rw [q5 (by omega), if_pos (by rw [q1]; omega)])))) .nil)))
  · have gc0 : ¬n.kd = 6 := bef hc0
    have oz1 := @ends64_1 (n.na) (n.na)
    rcases Bool.eq_false_or_eq_true (decide (min n.na n.na < 0) || decide (max n.na n.na ≥ (↑(List.map rchC L).length : Int))) with hc1 | hc1
    · have gc1 : min n.na n.na < 0 ∨ max n.na n.na ≥ (↑(List.map rchC L).length : Int) := by first | (simp only [Bool.or_eq_true, Bool.or_eq_false_iff, Bool.and_eq_true, Bool.and_eq_false_iff, Bool.not_eq_true', Bool.not_eq_false', decide_eq_true_eq, decide_eq_false_iff_not, beq_iff_eq, bne_iff_ne, ne_eq, beq_eq_false_iff_ne, bne_eq_false_iff_eq, eqNums, Bool.and_true] at hc1; first | exact hc1 | omega) | simpa using hc1 | (simp at hc1 ⊢; omega) | (apply Classical.byContradiction; intro hn; simp_all [eqNums]; done) | (apply Classical.byContradiction; intro hn; simp [eqNums] at hc1 hn; omega)
      exact (VC.run (fn := Try.f69) (W := [.r [] [], .r [] [], .r [] [], .br false, .r [] [.callr (rO oz1)], .r [] [.op false, .op false, .op false, .op false, .sel 1], .br true, .r [] []]) (r := AV.tup [AV.agg [i8 0, i8 0], i64 8]) Try.func69 (by kernel_rfl) (.c hc0 <| .c oz1 <| .c hc1 <| .n)).weak (WeakL.refl _) (Weak.tup (.cons (Weak.agg (.cons (Weak.int (show ((0) : Int) = ((stepR n L).fst.lo) from (by (unfold stepR; rw [if_neg (by rw [q1]; omega)])))) (.cons (Weak.int (show ((0) : Int) = ((stepR n L).fst.hi) from (by (unfold stepR; rw [if_neg (by rw [q1]; omega)])))) .nil))) (.cons (Weak.int (show ((8) : Int) = ((stepR n L).snd) from (by (unfold stepR; rw [if_neg (by rw [q1]; omega)])))) .nil)))
    · have gc1 : ¬min n.na n.na < 0 ∧ ¬max n.na n.na ≥ (↑(List.map rchC L).length : Int) := by first | (simp only [Bool.or_eq_true, Bool.or_eq_false_iff, Bool.and_eq_true, Bool.and_eq_false_iff, Bool.not_eq_true', Bool.not_eq_false', decide_eq_true_eq, decide_eq_false_iff_not, beq_iff_eq, bne_iff_ne, ne_eq, beq_eq_false_iff_ne, bne_eq_false_iff_eq, eqNums, Bool.and_true] at hc1; first | exact hc1 | omega) | simpa using hc1 | (simp at hc1 ⊢; omega) | (apply Classical.byContradiction; intro hn; simp_all [eqNums]; done) | (apply Classical.byContradiction; intro hn; simp [eqNums] at hc1 hn; omega)
      have oz3 := (show 0 ≤ n.na by omega)
      have oz4 := (map_at (rchC) (default) (l := L) (i := n.na.toNat) (by omega))
      have oz7 := @gnode_v (n) (L.getD n.na.toNat default) (L.getD n.na.toNat default) ok (by (exact q3 (by omega))) (by (exact q3 (by omega))) wl bl
      exact (VC.run (fn := Try.f69) (W := [.r [] [], .r [] [], .r [] [], .br false, .r [] [.callr (rO oz1)], .r [] [.op false, .op false, .op false, .op false, .sel 1], .br false, .r [] [.row (sO oz4), .row (sO oz4), .callr (rO oz7)]]) (r := AV.tup [AV.agg [i8 (nodeR n (L.getD n.na.toNat default) (L.getD n.na.toNat default)).fst.lo, i8 (nodeR n (L.getD n.na.toNat default) (L.getD n.na.toNat default)).fst.hi], i64 (nodeR n (L.getD n.na.toNat default) (L.getD n.na.toNat default)).snd]) Try.func69 (by kernel_rfl) (.c hc0 <| .c oz1 <| .c hc1 <| .c oz3 <| .c oz4 <| .c oz3 <| .c oz4 <| .c oz7 <| .n)).weak (WeakL.refl _) (Weak.tup (.cons (Weak.agg (.cons (Weak.int (show (((nodeR n (L.getD n.na.toNat default) (L.getD n.na.toNat default)).fst.lo) : Int) = ((stepR n L).fst.lo) from (by (unfold stepR; rw [q6 (by omega), if_pos (by rw [q1]; omega)])))) (.cons (Weak.int (show (((nodeR n (L.getD n.na.toNat default) (L.getD n.na.toNat default)).fst.hi) : Int) = ((stepR n L).fst.hi) from (by (unfold stepR; rw [q6 (by omega), if_pos (by rw [q1]; omega)])))) .nil))) (.cons (Weak.int (show (((nodeR n (L.getD n.na.toNat default) (L.getD n.na.toNat default)).snd) : Int) = ((stepR n L).snd) from (by (unfold stepR; rw [q6 (by omega), if_pos (by rw [q1]; omega)])))) .nil)))
def FOK (l : List Nod) (a : Rng) : Prop := 0 < l.length ∧ l.length ≤ 8 ∧ a.lo ≤ a.hi ∧ ∀ k, k < l.length → errL stepR l a k = 0
theorem nodeR_in {n : Nod} {a b : Rng} (ok : n.Ok) (ha : a.In8) (hb : b.In8) : (nodeR n a b).1.In8 := by
  have hz : Rng.In8 ⟨0, 0⟩ := ⟨⟨by dsimp only; decide, by dsimp only; decide⟩, ⟨by dsimp only; decide, by dsimp only; decide⟩⟩
  have held : ∀ x m s z, In8 (heldQ x m s z n.lo n.hi) := fun x m s z => by
    unfold heldQ; split
    · exact clamp_in _ ok.lo ok.hi
    · exact ⟨by decide, by decide⟩
  unfold nodeR
  split
  · exact hz
  · split
    · exact hz
    · split
      · unfold sumG; split
        · unfold afterE
          have h1 := held (held32 (bothR (spansN n a) (spansN n a).length).lo) n.qm n.qs n.qz
          have h2 := held (held32 (bothR (spansN n a) (spansN n a).length).hi) n.qm n.qs n.qz
          constructor <;> dsimp only <;> omega
        · exact hz
      · split
        · have hj : ∀ x y, In8 (joinE x y n) := fun x y => by
            unfold joinE; split
            · exact clamp_in _ ok.lo ok.hi
            · exact ⟨by decide, by decide⟩
          exact ⟨hj _ _, hj _ _⟩
        · split
          · exact ⟨held _ _ _ _, held _ _ _ _⟩
          · obtain ⟨p1, p2⟩ := ha
            have p3 := ok.za
            split
            · constructor <;> dsimp only <;> omega
            · exact ⟨p1, p2⟩
theorem stepR_in {n : Nod} {L : List Rng} (ok : n.Ok) (hL : ∀ r ∈ L, r.In8) : (stepR n L).1.In8 := by
  unfold stepR
  split
  · rename_i h
    have h := there_iff.1 h
    exact nodeR_in ok (getD_in hL (by omega)) (getD_in hL (by omega))
  · exact ⟨⟨by dsimp only; decide, by dsimp only; decide⟩, ⟨by dsimp only; decide, by dsimp only; decide⟩⟩
theorem flow_in {l : List Nod} {a : Rng} (okl : ∀ n ∈ l, n.Ok) (ha : a.In8) {k : Nat} (hk : k ≤ l.length) : ∀ r ∈ growL stepR l a k, r.In8 :=
  growL_all (n := k) ha (fun j hj h => stepR_in (getD_in okl (by omega)) h) k (Nat.le_refl _)
noncomputable def flow_ly_I (l : List Nod) (a : Rng) (k : Nat) : VS := stt 50 [(0, .sl 19 (l.map nodC)), (7, .own 900), (25, .sl 19 (l.map nodC)), (26, i64 l.length), (27, i64 k)] [(900, .slc 38 2 ((growL stepR l a k).map rchC))]
noncomputable def flow_ly_Z (l : List Nod) (a : Rng) : VS := flow_ly_I l a (l.length)
set_option maxRecDepth 100000 in
set_option maxHeartbeats 2000000 in
theorem flow_ly_s (l : List Nod) (a : Rng) (okl : ∀ n ∈ l, n.Ok) (wl : ∀ n ∈ l, n.w.length ≤ 100000 ∧ n.b.length ≤ 100000) (ha : a.In8) (f8 : l.length ≤ 8) (h : ∀ k, k < l.length → errL stepR l a k = 0) (k : Nat) (hk : k < l.length) : VT Try.prog (fnC Try.f16 [1, 1, 1, 0, 1, 0, 0]) (flow_ly_I l a k) .normal (flow_ly_I l a (k + 1)) := by
  have q := h k hk
  have q1 := growL_len stepR l a k
  have q2 := flow_in okl ha (Nat.le_of_lt hk)
  have q3 := getD_in okl hk
  have q4 := getD_in wl hk
  obtain ⟨q5, q6⟩ := q4
  unfold errL at q
  have oz2 := (map_at (nodC) (default) (l := l) (i := k) hk)
  have oz3 := @gstep_v (l.getD k default) (growL stepR l a k) q3 q2 (by omega) q5 q6
  exact VT.run (W := [.r [] [], .br true, .r [] [.row (sO oz2)], .r [] [.callr (rO oz3)], .r [] [], .br false, .r [] [], .r [] [.n ((↑k : Int) + 1)]]) (G := [.any (rg [(8, 4), (28, 12), (42, 5)]), .drop [9, 10, 44], .ren 45 900, .weak 27 (i64 (↑(k + 1) : Int)), .blk 900 (Blk.slc 38 2 (List.map rchC (growL stepR l a (k + 1)))), .sort]) (by kernel_rfl) (.c (decide_eq_true (p := ((↑k : Int) < (↑l.length : Int))) (by omega)) <| .c (show 0 ≤ (↑k : Int) by omega) <| .c oz2 <| .c oz3 <| .c (show ((stepR (l.getD k default) (growL stepR l a k)).snd != 0) = false by (simp at *; omega)) <| .c (show ((List.map rchC (growL stepR l a k)).length + 1) * 2 ≤ 140737488355328 by (simp; omega)) <| .c (show (List.map rchC (growL stepR l a k)).length + 1 ≤ 9223372036854775807 by (simp; omega)) <| .c (IntWalk.i64_in ((↑k : Int) + 1) (by omega)) <| .c (Weak.int (k := .i64) (show (((↑k : Int) + 1) : Int) = ((↑(k + 1) : Int)) from (by omega))) <| .c (show BlkW (Blk.slc 38 2 (List.map rchC (growL stepR l a k) ++ [[i8 (stepR (l.getD k default) (growL stepR l a k)).fst.lo, i8 (stepR (l.getD k default) (growL stepR l a k)).fst.hi]])) (Blk.slc 38 2 (List.map rchC (growL stepR l a (k + 1)))) from (BlkW.rows (rows_to (rchC) (r := List.map rchC (growL stepR l a k) ++ [[i8 (stepR (l.getD k default) (growL stepR l a k)).fst.lo, i8 (stepR (l.getD k default) (growL stepR l a k)).fst.hi]]) (l := growL stepR l a k ++ [Rng.mk (stepR (l.getD k default) (growL stepR l a k)).fst.lo (stepR (l.getD k default) (growL stepR l a k)).fst.hi]) (m := growL stepR l a (k + 1)) (by first | (simp only [List.map_append, List.map_cons, List.map_nil, List.map_set, List.map_replicate, List.map_take, List.map_drop]; done) | rfl | (simp only [List.map_append, List.map_cons, List.map_nil, List.map_set, List.map_replicate, List.map_take, List.map_drop]; rfl) | (simp only [List.map_append, List.map_cons, List.map_nil, List.map_set, List.map_replicate, List.map_take, List.map_drop, rchC, ints]; done)) (show (growL stepR l a k ++ [Rng.mk (stepR (l.getD k default) (growL stepR l a k)).fst.lo (stepR (l.getD k default) (growL stepR l a k)).fst.hi]) = (growL stepR l a (k + 1)) from (by rfl))))) <| .n)
set_option maxRecDepth 100000 in
set_option maxHeartbeats 2000000 in
theorem flow_ly_e (l : List Nod) (a : Rng) (okl : ∀ n ∈ l, n.Ok) (wl : ∀ n ∈ l, n.w.length ≤ 100000 ∧ n.b.length ≤ 100000) (ha : a.In8) (f8 : l.length ≤ 8) (h : ∀ k, k < l.length → errL stepR l a k = 0) : VT Try.prog (fnC Try.f16 [1, 1, 1, 0, 1, 0, 0]) (flow_ly_I l a (l.length)) (.exit 1) (flow_ly_Z l a) := by
  exact VT.run (W := [.r [] [], .br false]) (G := [.any [28], .sort]) (by kernel_rfl) (.c (decide_eq_false (p := ((↑l.length : Int) < (↑l.length : Int))) (by omega)) <| .n)
theorem flow_ly (l : List Nod) (a : Rng) (okl : ∀ n ∈ l, n.Ok) (wl : ∀ n ∈ l, n.w.length ≤ 100000 ∧ n.b.length ≤ 100000) (ha : a.In8) (f8 : l.length ≤ 8) (h : ∀ k, k < l.length → errL stepR l a k = 0) : VT Try.prog (fnC Try.f16 [1, 1, 1, 0, 1, 0]) (flow_ly_I l a 0) (.exit 1) (flow_ly_Z l a) :=
  VT.loop (fun k => flow_ly_I l a k) (l.length) (fun k hk => flow_ly_s l a okl wl ha f8 h k hk) (flow_ly_e l a okl wl ha f8 h) (by intro h; cases h)

noncomputable def flow_ln_I (l : List Nod) (a : Rng) (m : Nat) (k : Nat) : VS := stt 50 [(0, .sl 19 (l.map nodC)), (7, .own 900), (25, .sl 19 (l.map nodC)), (26, i64 l.length), (27, i64 k)] [(900, .slc 38 2 ((growL stepR l a k).map rchC))]
noncomputable def flow_ln_Z (l : List Nod) (a : Rng) (m : Nat) : VS := stt 50 [(4, nilv), (5, i64 m), (6, i64 (errL stepR l a m))] []
set_option maxRecDepth 100000 in
set_option maxHeartbeats 2000000 in
theorem flow_ln_s (l : List Nod) (a : Rng) (m : Nat) (okl : ∀ n ∈ l, n.Ok) (wl : ∀ n ∈ l, n.w.length ≤ 100000 ∧ n.b.length ≤ 100000) (ha : a.In8) (f8 : l.length ≤ 8) (hm : m < l.length) (hf : errL stepR l a m ≠ 0) (h : ∀ k, k < m → errL stepR l a k = 0) (k : Nat) (hk : k < m) : VT Try.prog (fnC Try.f16 [1, 1, 1, 0, 1, 0, 0]) (flow_ln_I l a m k) .normal (flow_ln_I l a m (k + 1)) := by
  have q := h k hk
  have q1 := growL_len stepR l a k
  have q2 := flow_in okl ha (show k ≤ l.length by omega)
  have q3 := getD_in okl (show k < l.length by omega)
  have q4 := getD_in wl (show k < l.length by omega)
  obtain ⟨q5, q6⟩ := q4
  unfold errL at q
  have oz2 := (map_at (nodC) (default) (l := l) (i := k) (by omega))
  have oz3 := @gstep_v (l.getD k default) (growL stepR l a k) q3 q2 (by omega) q5 q6
  exact VT.run (W := [.r [] [], .br true, .r [] [.row (sO oz2)], .r [] [.callr (rO oz3)], .r [] [], .br false, .r [] [], .r [] [.n ((↑k : Int) + 1)]]) (G := [.any (rg [(8, 4), (28, 12), (42, 5)]), .drop [9, 10, 44], .ren 45 900, .weak 27 (i64 (↑(k + 1) : Int)), .blk 900 (Blk.slc 38 2 (List.map rchC (growL stepR l a (k + 1)))), .sort]) (by kernel_rfl) (.c (decide_eq_true (p := ((↑k : Int) < (↑l.length : Int))) (by omega)) <| .c (show 0 ≤ (↑k : Int) by omega) <| .c oz2 <| .c oz3 <| .c (show ((stepR (l.getD k default) (growL stepR l a k)).snd != 0) = false by (simp at *; omega)) <| .c (show ((List.map rchC (growL stepR l a k)).length + 1) * 2 ≤ 140737488355328 by (simp; omega)) <| .c (show (List.map rchC (growL stepR l a k)).length + 1 ≤ 9223372036854775807 by (simp; omega)) <| .c (IntWalk.i64_in ((↑k : Int) + 1) (by omega)) <| .c (Weak.int (k := .i64) (show (((↑k : Int) + 1) : Int) = ((↑(k + 1) : Int)) from (by omega))) <| .c (show BlkW (Blk.slc 38 2 (List.map rchC (growL stepR l a k) ++ [[i8 (stepR (l.getD k default) (growL stepR l a k)).fst.lo, i8 (stepR (l.getD k default) (growL stepR l a k)).fst.hi]])) (Blk.slc 38 2 (List.map rchC (growL stepR l a (k + 1)))) from (BlkW.rows (rows_to (rchC) (r := List.map rchC (growL stepR l a k) ++ [[i8 (stepR (l.getD k default) (growL stepR l a k)).fst.lo, i8 (stepR (l.getD k default) (growL stepR l a k)).fst.hi]]) (l := growL stepR l a k ++ [Rng.mk (stepR (l.getD k default) (growL stepR l a k)).fst.lo (stepR (l.getD k default) (growL stepR l a k)).fst.hi]) (m := growL stepR l a (k + 1)) (by first | (simp only [List.map_append, List.map_cons, List.map_nil, List.map_set, List.map_replicate, List.map_take, List.map_drop]; done) | rfl | (simp only [List.map_append, List.map_cons, List.map_nil, List.map_set, List.map_replicate, List.map_take, List.map_drop]; rfl) | (simp only [List.map_append, List.map_cons, List.map_nil, List.map_set, List.map_replicate, List.map_take, List.map_drop, rchC, ints]; done)) (show (growL stepR l a k ++ [Rng.mk (stepR (l.getD k default) (growL stepR l a k)).fst.lo (stepR (l.getD k default) (growL stepR l a k)).fst.hi]) = (growL stepR l a (k + 1)) from (by rfl))))) <| .n)
set_option maxRecDepth 100000 in
set_option maxHeartbeats 2000000 in
theorem flow_ln_e (l : List Nod) (a : Rng) (m : Nat) (okl : ∀ n ∈ l, n.Ok) (wl : ∀ n ∈ l, n.w.length ≤ 100000 ∧ n.b.length ≤ 100000) (ha : a.In8) (f8 : l.length ≤ 8) (hm : m < l.length) (hf : errL stepR l a m ≠ 0) (h : ∀ k, k < m → errL stepR l a k = 0) : VT Try.prog (fnC Try.f16 [1, 1, 1, 0, 1, 0, 0]) (flow_ln_I l a m (m)) (.ret) (flow_ln_Z l a m) := by
  have q1 := growL_len stepR l a m
  have q2 := flow_in okl ha (Nat.le_of_lt hm)
  have q3 := getD_in okl hm
  have q4 := getD_in wl hm
  obtain ⟨q5, q6⟩ := q4
  unfold errL at hf
  have oz2 := (map_at (nodC) (default) (l := l) (i := m) hm)
  have oz3 := @gstep_v (l.getD m default) (growL stepR l a m) q3 q2 (by omega) q5 q6
  have oz5 := (Weak.int (k := .i64) (show (((stepR (l.getD m default) (growL stepR l a m)).snd) : Int) = (errL stepR l a m) from (by rfl)))
  exact VT.run (W := [.r [] [], .br true, .r [] [.row (sO oz2)], .r [] [.callr (rO oz3)], .r [] [], .br true, .r [] []]) (G := [.any (rg [(0, 1), (7, 5), (25, 17)]), .drop [900, 9, 10], .weak 6 (wO oz5), .sort]) (by kernel_rfl) (.c (decide_eq_true (p := ((↑m : Int) < (↑l.length : Int))) (by omega)) <| .c (show 0 ≤ (↑m : Int) by omega) <| .c oz2 <| .c oz3 <| .c (show ((stepR (l.getD m default) (growL stepR l a m)).snd != 0) = true by (simp at *; omega)) <| .c oz5 <| .n)
theorem flow_ln (l : List Nod) (a : Rng) (m : Nat) (okl : ∀ n ∈ l, n.Ok) (wl : ∀ n ∈ l, n.w.length ≤ 100000 ∧ n.b.length ≤ 100000) (ha : a.In8) (f8 : l.length ≤ 8) (hm : m < l.length) (hf : errL stepR l a m ≠ 0) (h : ∀ k, k < m → errL stepR l a k = 0) : VT Try.prog (fnC Try.f16 [1, 1, 1, 0, 1, 0]) (flow_ln_I l a m 0) (.ret) (flow_ln_Z l a m) :=
  VT.loop (fun k => flow_ln_I l a m k) (m) (fun k hk => flow_ln_s l a m okl wl ha f8 hm hf h k hk) (flow_ln_e l a m okl wl ha f8 hm hf h) (by intro h; cases h)

set_option maxRecDepth 100000 in
set_option maxHeartbeats 2000000 in
theorem flow_y (l : List Nod) (a : Rng) (okl : ∀ n ∈ l, n.Ok) (wl : ∀ n ∈ l, n.w.length ≤ 100000 ∧ n.b.length ≤ 100000) (ha : a.In8) (h : FOK l a) : VC Try.prog 16 ([.sl 19 (l.map nodC), rch a]) (.tup [.sl 2 ((growL stepR l a l.length).map rchC), i64 l.length, i64 0]) := by
  obtain ⟨q2, q3, q1, q4⟩ := id h
  have oz2 := @upside_v (a.lo) (a.hi)
  have oz6 := @flow_ly (l) (a) okl wl ha q3 q4
  exact (VC.run (fn := Try.f16) (W := [.r [] [], .r [] [], .br false, .r [] [], .br false, .r [] [.callr (rO oz2)], .br false, .r [] [], .r [] [], .code [.any (rg [(1, 1), (3, 4), (12, 13)]), .drop [3], .ren 24 900, .weak 26 (i64 (↑l.length : Int)), .weak 27 (i64 (↑0 : Int)), .sort] (Exit.exit 1) (zO oz6), .r [] []]) (r := AV.tup [AV.sl 2 (List.map rchC (growL stepR l a l.length)), i64 (↑(List.map nodC l).length : Int), i64 0]) Try.func16 (by kernel_rfl) (.c (show ((↑(List.map nodC l).length : Int) == 0) = false by (simp only [decide_eq_true_eq, decide_eq_false_iff_not, beq_iff_eq, bne_iff_ne, ne_eq, beq_eq_false_iff_ne, bne_eq_false_iff_eq, Bool.not_eq_true', Bool.not_eq_false', Bool.not_eq_eq_eq_not, Bool.not_true, Bool.not_false, Classical.not_not, Int.not_lt, Int.not_le, Bool.and_eq_true, Bool.and_eq_false_iff, Bool.or_eq_true, Bool.or_eq_false_iff, Bool.and_true, Bool.true_and, Bool.and_false, Bool.false_and, Bool.or_false, Bool.false_or, eqNums, List.length_map, List.length_append, List.length_cons, List.length_nil, List.length_set, List.length_replicate, List.length_take, List.length_drop, List.length_range, Int.toNat_natCast, Nat.zero_add, List.map_eq_nil_iff]; (first | done | with_reducible assumption | omega | contradiction))) <| .c (show decide ((↑(List.map nodC l).length : Int) > 8) = false by (simp; omega)) <| .c oz2 <| .c (decide_eq_false (p := (a.lo > a.hi)) (by omega)) <| .c (Weak.int (k := .i64) (show (((↑(List.map nodC l).length : Int)) : Int) = ((↑l.length : Int)) from (by (simp; done)))) <| .c (Weak.int (k := .i64) (show ((0) : Int) = ((↑0 : Int)) from (by omega))) <| .c oz6 <| .n)).weak (WeakL.refl _) (Weak.tup (.cons (.refl _) (.cons (Weak.int (show (((↑(List.map nodC l).length : Int)) : Int) = ((↑l.length : Int)) from (by (simp; done)))) (.cons (.refl _) .nil))))

set_option maxRecDepth 100000 in
set_option maxHeartbeats 2000000 in
theorem flow_m (l : List Nod) (a : Rng) (m : Nat) (okl : ∀ n ∈ l, n.Ok) (wl : ∀ n ∈ l, n.w.length ≤ 100000 ∧ n.b.length ≤ 100000) (ha : a.In8) (i : a.lo ≤ a.hi) (f8 : l.length ≤ 8) (hm : m < l.length) (hf : errL stepR l a m ≠ 0) (h : ∀ k, k < m → errL stepR l a k = 0) : VC Try.prog 16 ([.sl 19 (l.map nodC), rch a]) (.tup [nilv, i64 m, i64 (errL stepR l a m)]) := by
  have oz2 := @upside_v (a.lo) (a.hi)
  have oz6 := @flow_ln (l) (a) (m) okl wl ha f8 hm hf h
  exact VC.run (fn := Try.f16) (W := [.r [] [], .r [] [], .br false, .r [] [], .br false, .r [] [.callr (rO oz2)], .br false, .r [] [], .r [] [], .code [.any (rg [(1, 1), (3, 4), (12, 13)]), .drop [3], .ren 24 900, .weak 26 (i64 (↑l.length : Int)), .weak 27 (i64 (↑0 : Int)), .sort] (Exit.ret) (zO oz6)]) Try.func16 (by kernel_rfl) (.c (show ((↑(List.map nodC l).length : Int) == 0) = false by (simp only [decide_eq_true_eq, decide_eq_false_iff_not, beq_iff_eq, bne_iff_ne, ne_eq, beq_eq_false_iff_ne, bne_eq_false_iff_eq, Bool.not_eq_true', Bool.not_eq_false', Bool.not_eq_eq_eq_not, Bool.not_true, Bool.not_false, Classical.not_not, Int.not_lt, Int.not_le, Bool.and_eq_true, Bool.and_eq_false_iff, Bool.or_eq_true, Bool.or_eq_false_iff, Bool.and_true, Bool.true_and, Bool.and_false, Bool.false_and, Bool.or_false, Bool.false_or, eqNums, List.length_map, List.length_append, List.length_cons, List.length_nil, List.length_set, List.length_replicate, List.length_take, List.length_drop, List.length_range, Int.toNat_natCast, Nat.zero_add, List.map_eq_nil_iff]; (first | done | with_reducible assumption | omega | contradiction))) <| .c (show decide ((↑(List.map nodC l).length : Int) > 8) = false by (simp; omega)) <| .c oz2 <| .c (decide_eq_false (p := (a.lo > a.hi)) (by omega)) <| .c (Weak.int (k := .i64) (show (((↑(List.map nodC l).length : Int)) : Int) = ((↑l.length : Int)) from (by (simp; done)))) <| .c (Weak.int (k := .i64) (show ((0) : Int) = ((↑0 : Int)) from (by omega))) <| .c oz6 <| .n)
def flowB (l : List Nod) (a : Rng) : Nat → Bool := fun k => errL stepR l a k == 0
/-- Where all ends, and what is wrong there. -/
def flowE (l : List Nod) (a : Rng) : Int × Int :=
  if l.length = 0 then (-1, 12) else if 8 < l.length then (-1, 4) else if a.lo > a.hi then (-1, 2)
  else if firstBad (flowB l a) l.length < l.length then (firstBad (flowB l a) l.length, errL stepR l a (firstBad (flowB l a) l.length)) else (l.length, 0)
set_option maxRecDepth 100000 in
set_option maxHeartbeats 2000000 in
theorem flow_a (l : List Nod) (a : Rng) (hl : l.length ≤ 1000) (h : l.length = 0 ∨ 8 < l.length ∨ a.lo > a.hi) : VC Try.prog 16 ([.sl 19 (l.map nodC), rch a]) (.tup [nilv, i64 (flowE l a).1, i64 (flowE l a).2]) := by
  rcases Bool.eq_false_or_eq_true ((↑(List.map nodC l).length : Int) == 0) with hc0 | hc0
  · have gc0 : (↑(List.map nodC l).length : Int) = 0 := bet hc0
    exact (VC.run (fn := Try.f16) (W := [.r [] [], .r [] [], .br true, .r [] []]) (r := AV.tup [AV.lit (Value.slice none 0 0), i64 (-1), i64 12]) Try.func16 (by kernel_rfl) (.c hc0 <| .n)).weak (WeakL.refl _) (Weak.tup (.cons (.refl _) (.cons (Weak.int (show ((-1) : Int) = ((flowE l a).fst) from (by (unfold flowE; (try simp only [List.length_map] at *); (repeat first | rw [if_pos (by omega)] | rw [if_neg (by omega)]))))) (.cons (Weak.int (show ((12) : Int) = ((flowE l a).snd) from (by (unfold flowE; (try simp only [List.length_map] at *); (repeat first | rw [if_pos (by omega)] | rw [if_neg (by omega)]))))) .nil))))
  · have gc0 : ¬(↑(List.map nodC l).length : Int) = 0 := bef hc0
    rcases Bool.eq_false_or_eq_true (decide ((↑(List.map nodC l).length : Int) > 8)) with hc1 | hc1
    · have gc1 := of_decide_eq_true hc1
      exact (VC.run (fn := Try.f16) (W := [.r [] [], .r [] [], .br false, .r [] [], .br true, .r [] []]) (r := AV.tup [AV.lit (Value.slice none 0 0), i64 (-1), i64 4]) Try.func16 (by kernel_rfl) (.c hc0 <| .c hc1 <| .n)).weak (WeakL.refl _) (Weak.tup (.cons (.refl _) (.cons (Weak.int (show ((-1) : Int) = ((flowE l a).fst) from (by (unfold flowE; (try simp only [List.length_map] at *); (repeat first | rw [if_pos (by omega)] | rw [if_neg (by omega)]))))) (.cons (Weak.int (show ((4) : Int) = ((flowE l a).snd) from (by (unfold flowE; (try simp only [List.length_map] at *); (repeat first | rw [if_pos (by omega)] | rw [if_neg (by omega)]))))) .nil))))
    · have gc1 := of_decide_eq_false hc1
      have oz2 := @upside_v (a.lo) (a.hi)
      exact (VC.run (fn := Try.f16) (W := [.r [] [], .r [] [], .br false, .r [] [], .br false, .r [] [.callr (rO oz2)], .br true, .r [] []]) (r := AV.tup [AV.lit (Value.slice none 0 0), i64 (-1), i64 2]) Try.func16 (by kernel_rfl) (.c hc0 <| .c hc1 <| .c oz2 <| .c (show decide (a.lo > a.hi) = true by (simp only [decide_eq_true_eq, decide_eq_false_iff_not, beq_iff_eq, bne_iff_ne, ne_eq, beq_eq_false_iff_ne, bne_eq_false_iff_eq, Bool.not_eq_true', Bool.not_eq_false', Bool.not_eq_eq_eq_not, Bool.not_true, Bool.not_false, Classical.not_not, Int.not_lt, Int.not_le, Bool.and_eq_true, Bool.and_eq_false_iff, Bool.or_eq_true, Bool.or_eq_false_iff, Bool.and_true, Bool.true_and, Bool.and_false, Bool.false_and, Bool.or_false, Bool.false_or, eqNums, List.length_map, List.length_append, List.length_cons, List.length_nil, List.length_set, List.length_replicate, List.length_take, List.length_drop, List.length_range, Int.toNat_natCast, Nat.zero_add, List.map_eq_nil_iff] at *; (first | done | with_reducible assumption | omega | contradiction))) <| .n)).weak (WeakL.refl _) (Weak.tup (.cons (.refl _) (.cons (Weak.int (show ((-1) : Int) = ((flowE l a).fst) from (by (unfold flowE; (try simp only [List.length_map] at *); (repeat first | rw [if_pos (by omega)] | rw [if_neg (by omega)]))))) (.cons (Weak.int (show ((2) : Int) = ((flowE l a).snd) from (by (unfold flowE; (try simp only [List.length_map] at *); (repeat first | rw [if_pos (by omega)] | rw [if_neg (by omega)]))))) .nil))))
theorem flowE_at {l : List Nod} {a : Rng} {m : Nat} (i : a.lo ≤ a.hi) (e : 0 < l.length) (f : l.length ≤ 8) (hm : m < l.length) (hf : errL stepR l a m ≠ 0) (h : ∀ k, k < m → errL stepR l a k = 0) : flowE l a = ((m : Int), errL stepR l a m) := by
  have := firstBad_at (p := flowB l a) (m := m) (by simpa [flowB] using hf) (fun k hk => by simpa [flowB] using h k hk) hm
  unfold flowE
  rw [if_neg (by omega), if_neg (by omega), if_neg (by omega), this, if_pos hm]
theorem FOK.cases (l : List Nod) (a : Rng) : FOK l a ∨ (l.length = 0 ∨ 8 < l.length ∨ a.lo > a.hi) ∨ (a.lo ≤ a.hi ∧ 0 < l.length ∧ l.length ≤ 8 ∧ ∃ m, m < l.length ∧ errL stepR l a m ≠ 0 ∧ ∀ k, k < m → errL stepR l a k = 0) := by
  by_cases c : l.length = 0 ∨ 8 < l.length ∨ a.lo > a.hi
  · exact .inr (.inl c)
  · rcases all_or (flowB l a) l.length with h | ⟨m, h1, h2, h3⟩
    · exact .inl ⟨by omega, by omega, by omega, fun k hk => by simpa [flowB] using h k hk⟩
    · exact .inr (.inr ⟨by omega, by omega, by omega, m, h1, by simpa [flowB] using h2, fun k hk => by simpa [flowB] using h3 k hk⟩)
theorem flowE_n {l : List Nod} {a : Rng} (h : ¬ FOK l a) : (flowE l a).2 ≠ 0 := by
  rcases FOK.cases l a with q | q | ⟨i, e, f, m, h1, h2, h3⟩
  · exact absurd q h
  · unfold flowE
    by_cases c1 : l.length = 0
    · rw [if_pos c1]; dsimp only; decide
    · rw [if_neg c1]
      by_cases c2 : 8 < l.length
      · rw [if_pos c2]; dsimp only; decide
      · rw [if_neg c2, if_pos (by omega)]; dsimp only; decide
  · rw [flowE_at i e f h1 h2 h3]; exact h2
theorem flow_n (l : List Nod) (a : Rng) (okl : ∀ n ∈ l, n.Ok) (wl : ∀ n ∈ l, n.w.length ≤ 100000 ∧ n.b.length ≤ 100000) (ha : a.In8) (hl : l.length ≤ 1000) (h : ¬ FOK l a) : VC Try.prog 16 [.sl 19 (l.map nodC), rch a] (.tup [nilv, i64 (flowE l a).1, i64 (flowE l a).2]) := by
  rcases FOK.cases l a with q | q | ⟨i, e, f, m, h1, h2, h3⟩
  · exact absurd q h
  · exact flow_a l a hl q
  · rw [flowE_at i e f h1 h2 h3]; exact flow_m l a m okl wl ha i f h1 h2 h3
end Go.Proofs.Ytgecmooedhnenaa

/- A Pad and a window are one window; what changes nothing changes nothing: the plain law. No condition. -/
namespace Go.Proofs.Ytgecmooedhnenaa
open Go.RowKit
set_option linter.unusedSimpArgs false
set_option linter.unusedVariables false
set_option linter.unnecessarySimpa false

/-! Tensors. -/
theorem elems_eq {h x c : Int} (e : 0 < elems h x c) : elems h x c = h * x * c := by
  unfold elems at e ⊢
  split
  · rfl
  · rename_i hn; rw [if_neg hn] at e; omega
theorem pad_right {T : Ten} (r : TRt T) {q z : Int} (he : elems (T.h + 2 * q) (T.x + 2 * q) T.c ≠ 0) : tenRight (padOf T q z).1 = true := by
  have b := elems_bd (T.h + 2 * q) (T.x + 2 * q) T.c
  have c := elems_ok (h := T.h + 2 * q) (x := T.x + 2 * q) (c := T.c) (by omega)
  unfold padOf
  rw [if_neg he]
  unfold tenRight
  dsimp only
  rw [gH_len]
  have e2 := elems_eq (h := T.h + 2 * q) (x := T.x + 2 * q) (c := T.c) (by omega)
  rw [decide_eq_true (show 0 < elems (T.h + 2 * q) (T.x + 2 * q) T.c by omega), Bool.true_and]
  refine decide_eq_true ?_
  rw [e2, Int.natCast_mul, Int.natCast_mul, Int.toNat_of_nonneg (by omega), Int.toNat_of_nonneg (by omega), Int.toNat_of_nonneg (by omega), Int.mul_assoc]
theorem rowAcc_ren (T : Ten) (n : Nod) (u v a h w : Int) : ∀ j, rowAcc T { n with na := u, nb := v } a h w j = rowAcc T n a h w j
  | 0 => rfl
  | j + 1 => by rw [rowAcc, rowAcc, rowAcc_ren T n u v a h w j]; rfl
theorem sumAcc_ren (T : Ten) (n : Nod) (u v h w o : Int) : ∀ i, sumAcc T { n with na := u, nb := v } h w o i = sumAcc T n h w o i
  | 0 => rfl
  | i + 1 => by rw [sumAcc, sumAcc, sumAcc_ren T n u v h w o i, rowAcc_ren]
theorem outL_ren (T : Ten) (n : Nod) (u v : Int) : ∀ i, outL T { n with na := u, nb := v } i = outL T n i
  | 0 => rfl
  | i + 1 => by
    rw [outL, outL, outL_ren T n u v i]
    congr 1
    exact List.map_congr_left fun o _ => sumAcc_ren T n u v _ _ _ _
theorem dAcc_ren (T : Ten) (n : Nod) (u v h w c : Int) : ∀ i, dAcc T { n with na := u, nb := v } h w c i = dAcc T n h w c i
  | 0 => rfl
  | i + 1 => by rw [dAcc, dAcc, dAcc_ren T n u v h w c i]; rfl
theorem dL_ren (T : Ten) (n : Nod) (u v : Int) : dL T { n with na := u, nb := v } = dL T n := List.map_congr_left fun i _ => dAcc_ren T n u v _ _ _ _
theorem sumOf_ren (T : Ten) (n : Nod) (u v : Int) : sumOf T { n with na := u, nb := v } = sumOf T n := by
  unfold sumOf convOf depthOf
  rw [outL_ren, dL_ren]; rfl
theorem valE_loc : Loc valE nodeOf where
  eq := fun _ _ _ => rfl
  ren := fun n u v a b h => by
    unfold nodeOf
    rw [checkE_ren n u v h, sumOf_ren]; rfl
theorem right_map {T : Ten} (r : tenRight T = true) {d : List Int} (h : d.length = T.d.length) : tenRight ⟨T.h, T.x, T.c, d⟩ = true := by
  unfold tenRight at r ⊢; dsimp only; rw [h]; exact r
theorem pool_right {T : Ten} {n : Nod} {m : Bool} (ok : T.Ok) (okn : n.Ok) (h : (poolOf T n m).2 = 0) : tenRight (poolOf T n m).1 = true := by
  unfold poolOf at h ⊢
  split
  · rename_i hr
    rw [if_pos hr] at h
    split
    · rename_i hs
      have p := PlOk.n ⟨ok, okn, hr, hs⟩
      unfold tenRight
      dsimp only
      rw [poolL_len, p.en]
      have e := p.en
      have h1 := p.h1; have x1 := p.x1; have c1 := p.r.c1; have sc := p.sc
      have m : 1 * 1 * 1 ≤ (plS T n).h * (plS T n).x * (plS T n).c := Int.mul_le_mul (Int.mul_le_mul h1 x1 (by omega) (by omega)) (by omega) (by omega) (Int.mul_nonneg (by omega) (by omega))
      simp only [Bool.and_eq_true, decide_eq_true_eq]; omega
    · rename_i hs; rw [if_neg hs] at h; exact absurd h hs
  · rename_i hr; rw [if_neg hr] at h; exact absurd h (by decide)
theorem put_right {A : Ten} {n : Nod} (h : (putOf A n).2 = 0) : tenRight (putOf A n).1 = true := by
  unfold putOf at h ⊢
  split
  · rename_i c; rw [if_pos c] at h; exact absurd h (by decide)
  · rename_i c
    rw [if_neg c] at h
    split
    · rename_i c2; rw [if_pos c2] at h; exact absurd h (by decide)
    · have b := elems_bd A.h A.x A.c
      unfold tenRight
      dsimp only
      rw [List.length_map]
      simp only [Bool.and_eq_true, decide_eq_true_eq]; omega
theorem act_right {T : Ten} {n : Nod} (h : (actOf T n).2 = 0) : tenRight (actOf T n).1 = true := by
  unfold actOf at h ⊢
  split
  · rename_i c; rw [if_pos c] at h; exact absurd h (by decide)
  · rename_i c
    rw [if_neg c] at h
    split
    · rename_i c2; rw [if_pos c2] at h; exact absurd h (by decide)
    · exact right_map (by simpa using c) (by rw [List.length_map])
theorem join_right {T U : Ten} {n : Nod} (h : (joinOf T U n).2 = 0) : tenRight (joinOf T U n).1 = true := by
  unfold joinOf at h ⊢
  split
  · rename_i c; rw [if_pos c] at h; exact absurd h (by decide)
  · rename_i c
    rw [if_neg c] at h
    split
    · rename_i c2; rw [if_pos c2] at h; exact absurd h (by decide)
    · have r : tenRight T = true := by
        cases e : tenRight T with
        | true => rfl
        | false => rw [e] at c; simp at c
      exact right_map r (by rw [List.length_map, List.length_range])
theorem padOf_right {T : Ten} {q z : Int} (r : tenRight T = true) (h : (padOf T q z).2 = 0) : elems (T.h + 2 * q) (T.x + 2 * q) T.c ≠ 0 ∧ tenRight (padOf T q z).1 = true := by
  by_cases c : elems (T.h + 2 * q) (T.x + 2 * q) T.c = 0
  · unfold padOf at h; rw [if_pos c] at h; exact absurd h (by decide)
  · exact ⟨c, pad_right (tenRight.rt r) c⟩
theorem nodeOf_right {n : Nod} {A B : Ten} (ok : A.Ok) (okn : n.Ok) (h : (nodeOf n A B).2 = 0) : tenRight (nodeOf n A B).1 = true := by
  unfold nodeOf at h ⊢
  split
  · rename_i c; rw [if_pos c] at h; exact absurd h c
  · rename_i c
    rw [if_neg c] at h
    split
    · rename_i c; rw [if_pos c] at h; exact absurd h (by decide)
    · rename_i r
      rw [if_neg r] at h
      have r : tenRight A = true := by simpa using r
      split
      · rename_i c; rw [if_pos c] at h; exact pool_right ok okn h
      · rename_i c; rw [if_neg c] at h
        split
        · rename_i c; rw [if_pos c] at h; exact pool_right ok okn h
        · rename_i c; rw [if_neg c] at h
          split
          · rename_i c; rw [if_pos c] at h; exact join_right h
          · rename_i c; rw [if_neg c] at h
            split
            · rename_i c; rw [if_pos c] at h; exact act_right h
            · rename_i c; rw [if_neg c] at h
              split
              · rename_i c; rw [if_pos c] at h
                split
                · rename_i c; rw [if_pos c] at h; exact absurd h c
                · rename_i c; rw [if_neg c] at h; exact (padOf_right r h).2
              · rename_i c; rw [if_neg c] at h
                split
                · have t := tenRight.rt r
                  have t1 := t.dl; have t2 := t.el; have t3 := t.h1; have t4 := t.x1; have t5 := t.c1
                  have m : 1 * 1 * 1 ≤ A.h * A.x * A.c := Int.mul_le_mul (Int.mul_le_mul t3 t4 (by omega) (by omega)) t5 (by omega) (Int.mul_nonneg (by omega) (by omega))
                  unfold tenRight elems
                  dsimp only
                  rw [if_pos (by omega)]
                  simp only [Bool.and_eq_true, decide_eq_true_eq]; omega
                · rename_i c; rw [if_neg c] at h
                  split
                  · rename_i c; rw [if_pos c] at h; exact absurd h c
                  · rename_i c; rw [if_neg c] at h; exact put_right h
/-! Ranges. -/
theorem stepR_loc : Loc stepR nodeR where
  eq := fun n L h => by unfold stepR; rw [if_pos h]
  ren := fun n u v a b h => by
    unfold nodeR
    rw [checkE_ren n u v h]; rfl
end Go.Proofs.Ytgecmooedhnenaa

/- All values of a block, or what is wrong; which blocks have them. No condition. -/
namespace Go.Proofs.Ytgecmooedhnenaa
open Go.RowKit
set_option linter.unusedSimpArgs false
set_option linter.unusedVariables false
set_option linter.unnecessarySimpa false

theorem VOK.o {l : List Nod} {x : Ten} (h : VOK l x) : orderedB l = true := by
  unfold orderedB
  rw [List.all_eq_true]
  intro k hk
  rw [List.mem_range] at hk
  have t := h.takes hk
  rw [there_iff]; omega
/-- A block all of whose values are there. -/
structure Vals (l : List Nod) (x : Ten) : Prop where
  v : VOK l x
  r : tenRight x = true
  e : ∀ k, k < l.length → errL valE l x k = 0
theorem Vals.d {l : List Nod} {x : Ten} (h : Vals l x) {v : Nat} (hv : v ≤ l.length) : (gv valE l x v).Ok ∧ tenRight (gv valE l x v) = true := by
  cases v with
  | zero => exact ⟨h.v.ok, h.r⟩
  | succ k =>
    have q := val_ok h.v.okl h.v.ok (Nat.le_of_lt hv)
    have ek := h.e k hv
    unfold errL at ek
    rw [gv_next]
    have okn := getD_in h.v.okl hv
    have okA := getD_all (p := Ten.Ok) ten0_ok q (l.getD k default).na.toNat
    exact ⟨nodeOf_ok okn okA, nodeOf_right okA okn ek⟩
/-- Either all values are there, or it is told why not. -/
theorem rvals_cases (l : List Nod) (x : Ten) (okl : ∀ n ∈ l, n.Ok) (wl : ∀ n ∈ l, n.w.length ≤ 100000 ∧ n.b.length ≤ 100000) (ok : x.Ok) (hl : l.length ≤ 1000) :
    Vals l x ∨ ∃ p c : Int, (c != 0) = true ∧ (c == 0) = false ∧ VC Try.prog 17 [.sl 19 (l.map nodC), ten .i8 x] (.tup [nilv, i64 p, i64 c]) := by
  by_cases hn : tenRight x = false ∨ ¬ SOK l ⟨x.h, x.x, x.c⟩
  · right
    refine ⟨_, (valsE l x).2, ?_, ?_, rvals_n l x okl wl ok hl hn⟩
    all_goals
      have : (valsE l x).2 ≠ 0 := by
        unfold valsE
        split
        · decide
        · rename_i hr
          rcases hn with hn | hn
          · exact absurd hn hr
          · rw [if_pos (shapesE_bad hn)]; exact shapesE_bad hn
      simpa using this
  · have r : tenRight x = true := by
      cases e : tenRight x with
      | true => rfl
      | false => exact absurd (.inl e) hn
    have s : SOK l ⟨x.h, x.x, x.c⟩ := Classical.byContradiction fun q => hn (.inr q)
    have v : VOK l x := ⟨okl, wl, ok, s⟩
    rcases all_or (fun k => errL valE l x k == 0) l.length with h | ⟨m, h1, h2, h3⟩
    · exact .inl ⟨v, r, fun k hk => by simpa using h k hk⟩
    · right
      have hm : errL valE l x m ≠ 0 := by simpa using h2
      exact ⟨_, _, by simpa using hm, by simpa using hm, rvals_m l x m v r h1 hm fun k hk => by simpa using h3 k hk⟩
end Go.Proofs.Ytgecmooedhnenaa

/- No sum leaves its range. No condition. -/
namespace Go.Proofs.Ytgecmooedhnenaa
open Go.RowKit
set_option linter.unusedSimpArgs false
set_option linter.unusedVariables false
set_option linter.unnecessarySimpa false

theorem sumN_le {f g : Nat → Int} : ∀ n, (∀ k, k < n → f k ≤ g k) → sumN f n ≤ sumN g n
  | 0, _ => Int.le_refl _
  | n + 1, h => by
    have := sumN_le n fun k hk => h k (by omega)
    have := h n (by omega)
    simp only [sumN]; omega
theorem sumN_add (f : Nat → Int) (a : Nat) : ∀ b, sumN f (a + b) = sumN f a + sumN (fun k => f (a + k)) b
  | 0 => by simp [sumN]
  | b + 1 => by rw [← Nat.add_assoc, sumN, sumN_add f a b, sumN, Int.add_assoc]
/-- A sum over rows. -/
theorem sumN_mul (f : Nat → Int) (b : Nat) : ∀ a, sumN f (a * b) = sumN (fun i => sumN (fun j => f (i * b + j)) b) a
  | 0 => by simp [sumN]
  | a + 1 => by rw [Nat.add_mul, Nat.one_mul, sumN_add, sumN_mul f b a, sumN]
theorem rowR_sum (w : List Int) (bias lo hi z : Int) (g : Bool) : ∀ k, rowR w bias lo hi z g k = ⟨bias + sumN (fun i => (spA (w.getD i 0) lo hi z g).lo) k, bias + sumN (fun i => (spA (w.getD i 0) lo hi z g).hi) k⟩
  | 0 => by simp [rowR, sumN]
  | k + 1 => by rw [rowR, rowR_sum w bias lo hi z g k]; simp only [sumN, Int.add_assoc]
theorem mul_between {v a lo hi : Int} (h1 : lo ≤ a) (h2 : a ≤ hi) : min (v * lo) (v * hi) ≤ v * a ∧ v * a ≤ max (v * lo) (v * hi) := by
  rcases Int.le_total 0 v with h | h
  · have := Int.mul_le_mul_of_nonneg_left h1 h
    have := Int.mul_le_mul_of_nonneg_left h2 h
    omega
  · have := Int.mul_le_mul_of_nonpos_left h h1
    have := Int.mul_le_mul_of_nonpos_left h h2
    omega
theorem spA_in {v a lo hi z : Int} (g : Bool) (h1 : lo ≤ a) (h2 : a ≤ hi) : (spA v lo hi z g).lo ≤ v * (a - z) ∧ v * (a - z) ≤ (spA v lo hi z g).hi := by
  have := mul_between (v := v) (a := a - z) (lo := lo - z) (hi := hi - z) (by omega) (by omega)
  unfold spA; split <;> simp only <;> omega
theorem spA_zero {v lo hi z : Int} : (spA v lo hi z true).lo ≤ 0 ∧ 0 ≤ (spA v lo hi z true).hi := by
  unfold spA; rw [if_pos rfl]; simp only; omega
theorem getD_td (l : List Int) (a n i : Nat) (h : i < n) : (List.take n (List.drop a l)).getD i 0 = l.getD (a + i) 0 := by
  rw [List.getD_eq_getElem?_getD, List.getElem?_take, if_pos h, List.getElem?_drop, ← List.getD_eq_getElem?_getD]
/-- A window's sum lies within its row's range. -/
theorem sum_in {T : Ten} {n : Nod} (ok : CvOk T n) {lo hi : Int} (hr : ∀ i, i < T.d.length → lo ≤ T.d.getD i 0 ∧ T.d.getD i 0 ≤ hi) {h w o : Int} (h0 : 0 ≤ h) (h1 : h < (convE ⟨T.h, T.x, T.c⟩ n).1.h) (w0 : 0 ≤ w) (w1 : w < (convE ⟨T.h, T.x, T.c⟩ n).1.x) (o0 : 0 ≤ o) (o1 : o < n.no) :
    (spRow n.w n.b lo hi n.za (decide (n.np > 0)) o.toNat).lo ≤ sumE T n h w o ∧ sumE T n h w o ≤ (spRow n.w n.b lo hi n.za (decide (n.np > 0)) o.toNat).hi := by
  have nn := ok.n
  have c1 := nn.c1
  have k1 := nn.k1
  have k5 := nn.k5
  have n1 := nn.o1
  have n2 := nn.o2
  have wl := nn.wl
  have bl := nn.bl
  have x1 := nn.x1
  have x16 := nn.x16
  have dl := nn.dl
  have s1 := nn.s1
  have p0 := nn.p0
  have hh1 := nn.h1
  -- how many weights a row has
  have ez : (n.w.length : Int) / (n.b.length : Int) = n.nk * n.nk * T.c := by
    rw [wl, bl, show n.no * n.nk * n.nk * T.c = n.no * (n.nk * n.nk * T.c) by simp only [Int.mul_assoc], Int.mul_ediv_cancel_left _ (by omega)]
  obtain ⟨K, hK⟩ := Int.eq_ofNat_of_zero_le (show 0 ≤ n.nk by omega)
  obtain ⟨C, hC⟩ := Int.eq_ofNat_of_zero_le (show 0 ≤ T.c by omega)
  obtain ⟨O, hO⟩ := Int.eq_ofNat_of_zero_le o0
  subst hO
  have eZ : n.nk * n.nk * T.c = ((K * K * C : Nat) : Int) := by rw [hK, hC]; simp
  have e0 : ((O : Int) * ((n.w.length : Int) / (n.b.length : Int))).toNat = O * (K * K * C) := by rw [ez, eZ, ← Int.natCast_mul, Int.toNat_natCast]
  have e1 : (((O : Int) + 1) * ((n.w.length : Int) / (n.b.length : Int))).toNat - ((O : Int) * ((n.w.length : Int) / (n.b.length : Int))).toNat = K * K * C := by
    have : ((O : Int) + 1) = ((O + 1 : Nat) : Int) := by simp
    rw [e0, ez, eZ, this, ← Int.natCast_mul, Int.toNat_natCast, Nat.add_mul]; omega
  have hW : n.w.length = n.no.toNat * (K * K * C) := by
    apply Int.ofNat_inj.1
    rw [Int.natCast_mul, Int.toNat_of_nonneg (by omega), ← eZ, wl]; simp only [Int.mul_assoc]
  have hle : (O + 1) * (K * K * C) ≤ n.no.toNat * (K * K * C) := Nat.mul_le_mul_right _ (by omega)
  rw [Nat.add_mul, Nat.one_mul] at hle
  have eL : (List.take (K * K * C) (List.drop (O * (K * K * C)) n.w)).length = K * K * C := by
    rw [List.length_take, List.length_drop]; omega
  unfold spRow
  rw [Int.toNat_natCast, e1, e0, eL, rowR_sum]
  simp only
  unfold sumE
  rw [accN_eq, Int.toNat_natCast, show n.nk.toNat = K by omega]
  have key : ∀ i j, i < K → j < K →
      sumN (fun c => (spA (n.w.getD (O * (K * K * C) + ((i * K + j) * C + c)) 0) lo hi n.za (decide (n.np > 0))).lo) C ≤ colE T n (O : Int) i (h * n.ns + (i : Int) - n.np) (w * n.ns - n.np) j ∧
      colE T n (O : Int) i (h * n.ns + (i : Int) - n.np) (w * n.ns - n.np) j ≤ sumN (fun c => (spA (n.w.getD (O * (K * K * C) + ((i * K + j) * C + c)) 0) lo hi n.za (decide (n.np > 0))).hi) C := by
    intro i j hi' hj
    unfold colE
    split
    · rename_i hin
      rw [show T.c.toNat = C by omega]
      have hx := idx_bd (a := h * n.ns + (i : Int) - n.np) (m := T.h) (b := w * n.ns - n.np + (j : Int)) (n := T.x) hin.1 hin.2.1 hin.2.2.1 hin.2.2.2
      have each : ∀ c, c < C → (spA (n.w.getD (O * (K * K * C) + ((i * K + j) * C + c)) 0) lo hi n.za (decide (n.np > 0))).lo ≤ cterm T n ((((O : Int) * n.nk + (i : Int)) * n.nk + (j : Int)) * T.c) (((h * n.ns + (i : Int) - n.np) * T.x + (w * n.ns - n.np + (j : Int))) * T.c) c ∧
          cterm T n ((((O : Int) * n.nk + (i : Int)) * n.nk + (j : Int)) * T.c) (((h * n.ns + (i : Int) - n.np) * T.x + (w * n.ns - n.np + (j : Int))) * T.c) c ≤ (spA (n.w.getD (O * (K * K * C) + ((i * K + j) * C + c)) 0) lo hi n.za (decide (n.np > 0))).hi := by
        intro c hc
        have hy := idx_bd (a := (h * n.ns + (i : Int) - n.np) * T.x + (w * n.ns - n.np + (j : Int))) (m := T.h * T.x) (b := (c : Int)) (n := T.c) hx.1 hx.2 (by omega) (by omega)
        unfold cterm gt
        have ew : ((((O : Int) * n.nk + (i : Int)) * n.nk + (j : Int)) * T.c + (c : Int)).toNat = O * (K * K * C) + ((i * K + j) * C + c) := by
          rw [hK, hC]
          have : ((((O : Int) * (K : Int) + (i : Int)) * (K : Int) + (j : Int)) * (C : Int) + (c : Int)) = (((((O * K + i) * K + j) * C + c : Nat)) : Int) := by simp
          rw [this, Int.toNat_natCast]
          simp only [Nat.add_mul, Nat.mul_assoc]; omega
        rw [ew]
        have := hr (((h * n.ns + (i : Int) - n.np) * T.x + (w * n.ns - n.np + (j : Int))) * T.c + (c : Int)).toNat (by omega)
        exact spA_in _ this.1 this.2
      exact ⟨sumN_le C fun c hc => (each c hc).1, sumN_le C fun c hc => (each c hc).2⟩
    · rename_i hin
      by_cases hp : n.np > 0
      · rw [decide_eq_true hp]
        have z1 := sumN_le (f := fun c => (spA (n.w.getD (O * (K * K * C) + ((i * K + j) * C + c)) 0) lo hi n.za true).lo) (g := fun _ => 0) C fun c _ => spA_zero.1
        have z2 := sumN_le (f := fun _ => 0) (g := fun c => (spA (n.w.getD (O * (K * K * C) + ((i * K + j) * C + c)) 0) lo hi n.za true).hi) C fun c _ => spA_zero.2
        rw [sumN_zero (f := fun _ => 0) C fun _ _ => rfl] at z1 z2
        exact ⟨z1, z2⟩
      · exfalso
        apply hin
        have hp0 : n.np = 0 := by omega
        rw [hp0]
        have a1 := nn.sh; have a2 := nn.sx
        rw [a1] at h1; rw [a2] at w1; rw [hp0] at h1 w1
        have b1 := Int.mul_le_of_le_ediv (a := h) (b := T.h + 2 * 0 - n.nk) (c := n.ns) (by omega) (by omega)
        have b2 := Int.mul_le_of_le_ediv (a := w) (b := T.x + 2 * 0 - n.nk) (c := n.ns) (by omega) (by omega)
        have b3 := Int.mul_nonneg h0 (show 0 ≤ n.ns by omega)
        have b4 := Int.mul_nonneg w0 (show 0 ≤ n.ns by omega)
        omega
  have flat : ∀ f : Nat → Int, sumN f (K * K * C) = sumN (fun i => sumN (fun j => sumN (fun c => f ((i * K + j) * C + c)) C) K) K := by
    intro f
    rw [sumN_mul f C (K * K), sumN_mul _ K K]
  have e2 : ∀ g : Rng → Int, sumN (fun i => g (spA ((List.take (K * K * C) (List.drop (O * (K * K * C)) n.w)).getD i 0) lo hi n.za (decide (n.np > 0)))) (K * K * C) =
      sumN (fun i => sumN (fun j => sumN (fun c => g (spA (n.w.getD (O * (K * K * C) + ((i * K + j) * C + c)) 0) lo hi n.za (decide (n.np > 0)))) C) K) K := by
    intro g
    rw [← flat (fun i => g (spA (n.w.getD (O * (K * K * C) + i) 0) lo hi n.za (decide (n.np > 0))))]
    exact sumN_congr _ fun i hi => by rw [getD_td _ _ _ _ hi]
  rw [e2 (fun r => r.lo), e2 (fun r => r.hi)]
  have r1 : ∀ i, i < K → sumN (fun j => sumN (fun c => (spA (n.w.getD (O * (K * K * C) + ((i * K + j) * C + c)) 0) lo hi n.za (decide (n.np > 0))).lo) C) K ≤ rowE T n h w (O : Int) i ∧ rowE T n h w (O : Int) i ≤ sumN (fun j => sumN (fun c => (spA (n.w.getD (O * (K * K * C) + ((i * K + j) * C + c)) 0) lo hi n.za (decide (n.np > 0))).hi) C) K := by
    intro i hi'
    unfold rowE
    rw [show n.nk.toNat = K by omega]
    exact ⟨sumN_le K fun j hj => (key i j hi' hj).1, sumN_le K fun j hj => (key i j hi' hj).2⟩
  have t1 := sumN_le K fun i hi' => (r1 i hi').1
  have t2 := sumN_le K fun i hi' => (r1 i hi').2
  omega
end Go.Proofs.Ytgecmooedhnenaa

/- Nothing leaves its reach: the plain law. No condition. -/
namespace Go.Proofs.Ytgecmooedhnenaa
open Go.RowKit
set_option linter.unusedSimpArgs false
set_option linter.unusedVariables false
set_option linter.unnecessarySimpa false

abbrev InR (r : Rng) (l : List Int) : Prop := ∀ v ∈ l, r.lo ≤ v ∧ v ≤ r.hi
theorem inr_at {r : Rng} {l : List Int} (h : InR r l) {i : Nat} (hi : i < l.length) : r.lo ≤ l.getD i 0 ∧ l.getD i 0 ≤ r.hi := by
  rw [List.getD_eq_getElem?_getD, List.getElem?_eq_getElem hi]; exact h _ (List.getElem_mem hi)
/-- A channel's sum lies within its row's range. -/
theorem dsum_in {T : Ten} {n : Nod} (ok : DpOk T n) {lo hi : Int} (hr : ∀ i, i < T.d.length → lo ≤ T.d.getD i 0 ∧ T.d.getD i 0 ≤ hi) {h w o : Int} (h0 : 0 ≤ h) (h1 : h < (depthE ⟨T.h, T.x, T.c⟩ n).1.h) (w0 : 0 ≤ w) (w1 : w < (depthE ⟨T.h, T.x, T.c⟩ n).1.x) (o0 : 0 ≤ o) (o1 : o < T.c) :
    (spRow n.w n.b lo hi n.za (decide (n.np > 0)) o.toNat).lo ≤ dE T n h w o ∧ dE T n h w o ≤ (spRow n.w n.b lo hi n.za (decide (n.np > 0)) o.toNat).hi := by
  have nn := ok.n
  have c1 := nn.c1
  have k1 := nn.k1
  have k5 := nn.k5
  have wl := nn.wl
  have bl := (depthE_ok ok.e).2.2.2.1
  have x1 := nn.x1
  have s1 := nn.s1
  have p0 := nn.p0
  have hh1 := nn.h1
  have sl := slideE_ok (depthE_ok ok.e).1
  have se := (depthE_ok ok.e).2.2.2.2
  have rt := tenRight.rt ok.r
  have bl : (n.b.length : Int) = T.c := bl
  have ez : (n.w.length : Int) / (n.b.length : Int) = n.nk * n.nk := by
    rw [wl, bl, Int.mul_assoc, Int.mul_ediv_cancel_left _ (by omega)]
  obtain ⟨K, hK⟩ := Int.eq_ofNat_of_zero_le (show 0 ≤ n.nk by omega)
  obtain ⟨O, hO⟩ := Int.eq_ofNat_of_zero_le o0
  subst hO
  have eZ : n.nk * n.nk = ((K * K : Nat) : Int) := by rw [hK]; simp
  have e0 : ((O : Int) * ((n.w.length : Int) / (n.b.length : Int))).toNat = O * (K * K) := by rw [ez, eZ, ← Int.natCast_mul, Int.toNat_natCast]
  have e1 : (((O : Int) + 1) * ((n.w.length : Int) / (n.b.length : Int))).toNat - ((O : Int) * ((n.w.length : Int) / (n.b.length : Int))).toNat = K * K := by
    have : ((O : Int) + 1) = ((O + 1 : Nat) : Int) := by simp
    rw [e0, ez, eZ, this, ← Int.natCast_mul, Int.toNat_natCast, Nat.add_mul]; omega
  have hW : n.w.length = T.c.toNat * (K * K) := by
    apply Int.ofNat_inj.1
    rw [Int.natCast_mul, Int.toNat_of_nonneg (by omega), ← eZ, wl, Int.mul_assoc]
  have hle : (O + 1) * (K * K) ≤ T.c.toNat * (K * K) := Nat.mul_le_mul_right _ (by omega)
  rw [Nat.add_mul, Nat.one_mul] at hle
  have eL : (List.take (K * K) (List.drop (O * (K * K)) n.w)).length = K * K := by
    rw [List.length_take, List.length_drop]; omega
  unfold spRow
  rw [Int.toNat_natCast, e1, e0, eL, rowR_sum]
  simp only
  unfold dE
  rw [accN_eq, Int.toNat_natCast, show n.nk.toNat = K by omega]
  have key : ∀ i j : Nat, i < K → j < K →
      (spA (n.w.getD (O * (K * K) + (i * K + j)) 0) lo hi n.za (decide (n.np > 0))).lo ≤ dcell T n h w (O : Int) i j ∧ dcell T n h w (O : Int) i j ≤ (spA (n.w.getD (O * (K * K) + (i * K + j)) 0) lo hi n.za (decide (n.np > 0))).hi := by
    intro i j hi' hj
    unfold dcell
    split
    · rename_i hin
      unfold dterm
      have ew : ((O : Int) * n.nk * n.nk + ((i : Int) * n.nk + (j : Int))).toNat = O * (K * K) + (i * K + j) := by
        rw [hK]
        have : (O : Int) * (K : Int) * (K : Int) + ((i : Int) * (K : Int) + (j : Int)) = ((O * (K * K) + (i * K + j) : Nat) : Int) := by simp [Int.mul_assoc]
        rw [this, Int.toNat_natCast]
      rw [ew]
      have pl := rt.place (c := (O : Int)) hin (by omega) (by omega)
      have := hr (((h * n.ns + (i : Int) - n.np) * T.x + (w * n.ns + (j : Int) - n.np)) * T.c + (O : Int)).toNat (by omega)
      exact spA_in _ this.1 this.2
    · rename_i hin
      by_cases hp : n.np > 0
      · rw [decide_eq_true hp]; exact spA_zero
      · exfalso
        apply hin
        have hp0 : n.np = 0 := by omega
        rw [hp0]
        rw [se, sl.2.2.2.2.2.2.2.2.2.2.1] at h1 w1
        dsimp only at h1 w1
        rw [hp0] at h1 w1
        have b1 := Int.mul_le_of_le_ediv (a := h) (b := T.h + 2 * 0 - n.nk) (c := n.ns) (by omega) (by omega)
        have b2 := Int.mul_le_of_le_ediv (a := w) (b := T.x + 2 * 0 - n.nk) (c := n.ns) (by omega) (by omega)
        have b3 := Int.mul_nonneg h0 (show 0 ≤ n.ns by omega)
        have b4 := Int.mul_nonneg w0 (show 0 ≤ n.ns by omega)
        unfold inT
        omega
  have e2 : ∀ g : Rng → Int, sumN (fun i => g (spA ((List.take (K * K) (List.drop (O * (K * K)) n.w)).getD i 0) lo hi n.za (decide (n.np > 0)))) (K * K) =
      sumN (fun i => sumN (fun j => g (spA (n.w.getD (O * (K * K) + (i * K + j)) 0) lo hi n.za (decide (n.np > 0)))) K) K := by
    intro g
    rw [← sumN_mul (fun i => g (spA (n.w.getD (O * (K * K) + i) 0) lo hi n.za (decide (n.np > 0)))) K K]
    exact sumN_congr _ fun i hi => by rw [getD_td _ _ _ _ hi]
  rw [e2 (fun r => r.lo), e2 (fun r => r.hi)]
  have r1 : ∀ i, i < K → sumN (fun j => (spA (n.w.getD (O * (K * K) + (i * K + j)) 0) lo hi n.za (decide (n.np > 0))).lo) K ≤ drow T n h w (O : Int) i ∧ drow T n h w (O : Int) i ≤ sumN (fun j => (spA (n.w.getD (O * (K * K) + (i * K + j)) 0) lo hi n.za (decide (n.np > 0))).hi) K := by
    intro i hi'
    unfold drow
    rw [show n.nk.toNat = K by omega]
    exact ⟨sumN_le K fun j hj => (key i j hi' hj).1, sumN_le K fun j hj => (key i j hi' hj).2⟩
  have t1 := sumN_le K fun i hi' => (r1 i hi').1
  have t2 := sumN_le K fun i hi' => (r1 i hi').2
  omega
/-- So does a sum of all numbers. -/
theorem nsum_in {x w b : List Int} {z lo hi : Int} (g : Bool) (hr : ∀ i, i < x.length → lo ≤ x.getD i 0 ∧ x.getD i 0 ≤ hi) (hl : w.length = x.length * b.length) {o : Nat} (ho : o < b.length) :
    (spRow w b lo hi z g o).lo ≤ dnS x w b z o ∧ dnS x w b z o ≤ (spRow w b lo hi z g o).hi := by
  have ez : (w.length : Int) / (b.length : Int) = (x.length : Int) := by
    rw [hl, Int.natCast_mul, Int.mul_ediv_cancel _ (by omega)]
  have e0 : ((o : Int) * ((w.length : Int) / (b.length : Int))).toNat = o * x.length := by rw [ez, ← Int.natCast_mul, Int.toNat_natCast]
  have e1 : (((o : Int) + 1) * ((w.length : Int) / (b.length : Int))).toNat - ((o : Int) * ((w.length : Int) / (b.length : Int))).toNat = x.length := by
    have : ((o : Int) + 1) = ((o + 1 : Nat) : Int) := by simp
    rw [e0, ez, this, ← Int.natCast_mul, Int.toNat_natCast, Nat.add_mul]; omega
  have hle : (o + 1) * x.length ≤ b.length * x.length := Nat.mul_le_mul_right _ (by omega)
  rw [Nat.add_mul, Nat.one_mul, Nat.mul_comm b.length] at hle
  have eL : (List.take x.length (List.drop (o * x.length) w)).length = x.length := by
    rw [List.length_take, List.length_drop]; omega
  unfold spRow
  rw [e1, e0, eL, rowR_sum]
  simp only
  unfold dnS
  rw [accN_eq, Int.toNat_natCast]
  have key : ∀ i : Nat, i < x.length → (spA ((List.take x.length (List.drop (o * x.length) w)).getD i 0) lo hi z g).lo ≤ dnT x w z o i ∧ dnT x w z o i ≤ (spA ((List.take x.length (List.drop (o * x.length) w)).getD i 0) lo hi z g).hi := by
    intro i hi'
    rw [getD_td _ _ _ _ hi']
    unfold dnT
    have : ((o : Int) * (x.length : Int) + (i : Int)).toNat = o * x.length + i := by
      have : (o : Int) * (x.length : Int) + (i : Int) = ((o * x.length + i : Nat) : Int) := by simp
      rw [this, Int.toNat_natCast]
    rw [this]
    exact spA_in _ (hr i hi').1 (hr i hi').2
  have t1 := sumN_le x.length fun i hi' => (key i hi').1
  have t2 := sumN_le x.length fun i hi' => (key i hi').2
  omega
/-- The whole sum at a place. -/
def wholeE (T : Ten) (n : Nod) (h w c : Int) : Int := if n.kd = 1 then sumE T n h w c else if n.kd = 2 then dE T n h w c else if n.kd = 3 then dnS T.d n.w n.b n.za c else 0
/-- Each sum lies within its row's range. -/
structure SumIn (A : Ten) (n : Nod) (a : Rng) (S : Ten) : Prop where
  sh : sharedB n.w n.b = true
  c1 : 1 ≤ S.c
  c2 : S.c = n.b.length
  x1 : 1 ≤ S.x
  hx : S.h ≤ 16 ∧ S.x ≤ 16
  ln : (S.d.length : Int) = S.h * S.x * S.c
  l2 : S.d.length ≤ 1024
  at_ : ∀ k : Nat, k < S.d.length → S.d.getD k 0 = IntKind.i32.wrap (wholeE A n ((k : Int) / S.c / S.x) ((k : Int) / S.c % S.x) ((k : Int) % S.c)) ∧
    (spRow n.w n.b a.lo a.hi n.za (decide (n.np > 0)) ((k : Int) % S.c).toNat).lo ≤ wholeE A n ((k : Int) / S.c / S.x) ((k : Int) / S.c % S.x) ((k : Int) % S.c) ∧
    wholeE A n ((k : Int) / S.c / S.x) ((k : Int) / S.c % S.x) ((k : Int) % S.c) ≤ (spRow n.w n.b a.lo a.hi n.za (decide (n.np > 0)) ((k : Int) % S.c).toNat).hi
theorem num_at {k : Nat} {h x c : Int} (hk : (k : Int) < h * x * c) (hx : 1 ≤ x) (hc : 1 ≤ c) : 0 ≤ (k : Int) / c / x ∧ (k : Int) / c / x < h ∧ 0 ≤ (k : Int) / c % x ∧ (k : Int) / c % x < x ∧ 0 ≤ (k : Int) % c ∧ (k : Int) % c < c := by
  have := at_num (i := (k : Int)) (h := h) (x := x) (c := c) (by omega) hk hx hc
  omega
theorem conv_sumIn {A : Ten} {n : Nod} {a : Rng} (ok : CvOk A n) (hk : n.kd = 1) (hr : InR a A.d) : SumIn A n a (convOf A n).1 := by
  have nn := ok.n
  have bl := nn.bl
  have o1 := nn.o1
  have hx := nn.xe
  have hh := nn.he
  have sc := nn.sc
  have ec : (convOf A n).1.c = n.no := by rw [convOf_d ok]; exact sc
  have ex : (convOf A n).1.x = (convE ⟨A.h, A.x, A.c⟩ n).1.x := by rw [convOf_d ok]
  have eh : (convOf A n).1.h = (convE ⟨A.h, A.x, A.c⟩ n).1.h := by rw [convOf_d ok]
  have ln : ((convOf A n).1.d.length : Int) = (convE ⟨A.h, A.x, A.c⟩ n).1.h * (convE ⟨A.h, A.x, A.c⟩ n).1.x * n.no := by
    rw [convOf_count ok, Int.natCast_mul, Int.toNat_of_nonneg (Int.mul_nonneg (by omega) (by omega)), Int.toNat_of_nonneg (by omega)]
  have el := nn.el
  refine ⟨?_, by omega, by omega, by omega, by omega, by rw [ln, ec, ex, eh], by omega, fun k hk' => ?_⟩
  · simp only [sharedB, Bool.and_eq_true, decide_eq_true_eq]
    refine ⟨by omega, ?_⟩
    rw [nn.wl, bl, show n.no * n.nk * n.nk * A.c = n.no * (n.nk * n.nk * A.c) by simp only [Int.mul_assoc], Int.mul_emod_right]
  · have at' := num_at (k := k) (h := (convE ⟨A.h, A.x, A.c⟩ n).1.h) (x := (convE ⟨A.h, A.x, A.c⟩ n).1.x) (c := n.no) (by omega) (by omega) (by omega)
    obtain ⟨b1, b2, b3, b4, b5, b6⟩ := at'
    rw [ec, ex]
    have ew : ∀ h w c, wholeE A n h w c = sumE A n h w c := fun h w c => if_pos hk
    rw [ew]
    exact ⟨convOf_get ok hk', sum_in ok (fun i hi => inr_at hr hi) b1 b2 b3 b4 b5 b6⟩
theorem depth_sumIn {A : Ten} {n : Nod} {a : Rng} (ok : DpOk A n) (hk : n.kd = 2) (hr : InR a A.d) : SumIn A n a (depthOf A n).1 := by
  have nn := ok.n
  have bl : (n.b.length : Int) = A.c := (depthE_ok ok.e).2.2.2.1
  have c1 := nn.c1
  have hx := nn.xe
  have hh := nn.he
  have ed : (depthOf A n).1 = ⟨(depthE ⟨A.h, A.x, A.c⟩ n).1.h, (depthE ⟨A.h, A.x, A.c⟩ n).1.x, (depthE ⟨A.h, A.x, A.c⟩ n).1.c, dL A n⟩ := by
    unfold depthOf; rw [if_neg (by simp [ok.r]), if_neg (by simpa using ok.e)]
  have sc : (depthE ⟨A.h, A.x, A.c⟩ n).1.c = A.c := by rw [(depthE_ok ok.e).2.2.2.2, (slideE_ok (depthE_ok ok.e).1).2.2.2.2.2.2.2.2.2.2.1]
  have ln : ((dL A n).length : Int) = (depthE ⟨A.h, A.x, A.c⟩ n).1.h * (depthE ⟨A.h, A.x, A.c⟩ n).1.x * A.c := by
    rw [dL_len]; unfold dN
    rw [Int.toNat_of_nonneg (Int.mul_nonneg (Int.mul_nonneg (by omega) (by omega)) (by omega))]
  have e12 := (slideE_ok (depthE_ok ok.e).1).2.2.2.2.2.2.2.2.2.2.2
  have el : (depthE ⟨A.h, A.x, A.c⟩ n).1.h * (depthE ⟨A.h, A.x, A.c⟩ n).1.x * A.c ≤ 1024 := by
    have := elems_ok e12
    rw [(depthE_ok ok.e).2.2.2.2, (slideE_ok (depthE_ok ok.e).1).2.2.2.2.2.2.2.2.2.2.1]
    exact this.2.2.2.2.2.2.1
  rw [ed]
  refine ⟨?_, by dsimp only; omega, by dsimp only; omega, by dsimp only; omega, by dsimp only; omega, by dsimp only; rw [ln, sc], by dsimp only; omega, fun k hk' => ?_⟩
  · simp only [sharedB, Bool.and_eq_true, decide_eq_true_eq]
    refine ⟨by omega, ?_⟩
    rw [nn.wl, bl, Int.mul_assoc, Int.mul_emod_right]
  · dsimp only at hk' ⊢
    have at' := num_at (k := k) (h := (depthE ⟨A.h, A.x, A.c⟩ n).1.h) (x := (depthE ⟨A.h, A.x, A.c⟩ n).1.x) (c := A.c) (by omega) (by omega) (by omega)
    obtain ⟨b1, b2, b3, b4, b5, b6⟩ := at'
    rw [sc]
    have ew : ∀ h w c, wholeE A n h w c = dE A n h w c := fun h w c => by unfold wholeE; rw [if_neg (by omega), if_pos hk]
    rw [ew]
    refine ⟨?_, dsum_in ok (fun i hi => inr_at hr hi) b1 b2 b3 b4 b5 b6⟩
    rw [dL_len] at hk'
    rw [List.getD_eq_getElem?_getD, dL_get hk', Option.getD_some, dAcc_eq ok]
theorem dense_sumIn {A : Ten} {n : Nod} {a : Rng} (ok : DnOk A n) (hk : n.kd = 3) (hr : InR a A.d) : SumIn A n a (denseOf A n).1 := by
  obtain ⟨d0, b0, dl, wl, w2, bl⟩ := ok.n
  obtain ⟨o1, o2, o3, o4⟩ := id ok
  obtain ⟨e1, e2, e3, e4, e5, e6, e7⟩ := denseE_ok (t := ⟨A.h, A.x, A.c⟩) (n := n) o4
  have ed : (denseOf A n).1 = ⟨1, 1, n.no, lineL A.d n.w n.b n.za n.b.length⟩ := by
    unfold denseOf; rw [if_neg (by simp [o3]), if_neg (by simpa using o4), e7]
  have b1 : 0 < n.b.length := List.length_pos_iff.2 b0
  rw [ed]
  refine ⟨?_, by dsimp only; omega, by dsimp only; omega, by dsimp only; omega, by dsimp only; omega, by dsimp only; rw [lineL_len]; omega, by dsimp only; rw [lineL_len]; omega, fun k hk' => ?_⟩
  · simp only [sharedB, Bool.and_eq_true, decide_eq_true_eq]
    refine ⟨b1, ?_⟩
    rw [wl, Int.natCast_mul, Int.mul_emod_left]
  · dsimp only at hk' ⊢
    rw [lineL_len] at hk'
    have ek : (k : Int) % n.no = k := Int.emod_eq_of_lt (by omega) (by omega)
    rw [ek]
    have ew : ∀ h w c, wholeE A n h w c = dnS A.d n.w n.b n.za c := fun h w c => by unfold wholeE; rw [if_neg (by omega), if_neg (by omega), if_pos hk]
    rw [ew, Int.toNat_natCast]
    refine ⟨?_, nsum_in _ (fun i hi => inr_at hr hi) wl hk'⟩
    unfold lineL
    rw [List.getD_eq_getElem?_getD, List.getElem?_map, List.getElem?_range hk']; rfl
theorem sum_sumIn {A : Ten} {n : Nod} {a : Rng} (ok : A.Ok) (okn : n.Ok) (r : tenRight A = true) (hk : n.kd = 1 ∨ n.kd = 2 ∨ n.kd = 3) (he : (sumOf A n).2 = 0) (hr : InR a A.d) : SumIn A n a (sumOf A n).1 := by
  unfold sumOf at he ⊢
  by_cases k1 : n.kd = 1
  · rw [if_pos k1] at he ⊢
    exact conv_sumIn (convOf_e ok okn he) k1 hr
  · rw [if_neg k1] at he ⊢
    by_cases k2 : n.kd = 2
    · rw [if_pos k2] at he ⊢
      refine depth_sumIn ⟨ok, okn, r, ?_⟩ k2 hr
      unfold depthOf at he
      rw [if_neg (by simp [r])] at he
      by_cases c : (depthE ⟨A.h, A.x, A.c⟩ n).2 = 0
      · exact c
      · rw [if_pos c] at he; exact absurd he c
    · rw [if_neg k2, if_pos (by omega)] at he ⊢
      refine dense_sumIn ⟨ok, okn, r, ?_⟩ (by omega) hr
      unfold denseOf at he
      rw [if_neg (by simp [r])] at he
      by_cases c : (denseE ⟨A.h, A.x, A.c⟩ n).2 = 0
      · exact c
      · rw [if_pos c] at he; exact absurd he c
/-- Where all rows hold, each sum is what it is over whole numbers, and lies between the ends of all. -/
theorem bothR_in (l : List Rng) : ∀ k i, i < k → (bothR l k).lo ≤ (l.getD i default).lo ∧ (l.getD i default).hi ≤ (bothR l k).hi
  | 0, i, h => by omega
  | k + 1, i, h => by
    simp only [bothR]
    by_cases e : i = k
    · subst e; omega
    · have := bothR_in l k i (by omega); omega
theorem sum_exact {A : Ten} {n : Nod} {a : Rng} {S : Ten} (s : SumIn A n a S) (h : (spansN n a).all holdB = true) : ∀ k : Nat, k < S.d.length →
    S.d.getD k 0 = wholeE A n ((k : Int) / S.c / S.x) ((k : Int) / S.c % S.x) ((k : Int) % S.c) ∧ (bothR (spansN n a) (spansN n a).length).lo ≤ S.d.getD k 0 ∧ S.d.getD k 0 ≤ (bothR (spansN n a) (spansN n a).length).hi ∧ In32 (S.d.getD k 0) := by
  intro k hk
  obtain ⟨e, h1, h2⟩ := s.at_ k hk
  have c1 := s.c1; have c2 := s.c2; have x1 := s.x1
  have b5 := Int.emod_nonneg (k : Int) (show S.c ≠ 0 by omega)
  have b6 := Int.emod_lt_of_pos (k : Int) (show 0 < S.c by omega)
  have es : spansN n a = allR n.w n.b a.lo a.hi n.za (decide (n.np > 0)) n.b.length := by unfold spansN; rw [if_pos s.sh]
  have el : (spansN n a).length = n.b.length := by rw [es]; simp [allR]
  have ho : ((k : Int) % S.c).toNat < n.b.length := by omega
  have eg : (spansN n a).getD ((k : Int) % S.c).toNat default = spRow n.w n.b a.lo a.hi n.za (decide (n.np > 0)) ((k : Int) % S.c).toNat := by
    rw [es, allR, List.getD_eq_getElem?_getD, List.getElem?_map, List.getElem?_range ho]; rfl
  have hh := all_getD.1 h ((k : Int) % S.c).toNat (by omega)
  rw [eg] at hh
  simp only [holdB, Bool.and_eq_true, decide_eq_true_eq] at hh
  have hb := bothR_in (spansN n a) (spansN n a).length ((k : Int) % S.c).toNat (by omega)
  rw [eg] at hb
  have e2 : S.d.getD k 0 = wholeE A n ((k : Int) / S.c / S.x) ((k : Int) / S.c % S.x) ((k : Int) % S.c) := by rw [e, IntWalk.i32_in _ (by omega)]
  refine ⟨e2, by omega, by omega, by unfold In32; omega⟩
theorem heldQ_up {a b m s z lo hi : Int} (h : a ≤ b) (hl : lo ≤ hi) : heldQ a m s z lo hi ≤ heldQ b m s z lo hi := by
  unfold heldQ
  by_cases c : rightQ m s = true
  · rw [if_pos c, if_pos c]
    have hm : 0 < m := by unfold rightQ at c; simp at c; omega
    have := rnd_mono (a * m) (b * m) s (Int.mul_le_mul_of_nonneg_right h (by omega))
    exact clampI_mono _ _ _ _ (by omega) hl
  · rw [if_neg c, if_neg c]; exact Int.le_refl _
theorem joinE_up {x x' y y' : Int} {n : Nod} (hx : x ≤ x') (hy : y ≤ y') (hl : n.lo ≤ n.hi) : joinE x y n ≤ joinE x' y' n := by
  unfold joinE
  by_cases c : (rightQ n.qm n.qs && rightQ n.rm n.rs) = true
  · rw [if_pos c, if_pos c]
    rw [Bool.and_eq_true] at c
    have hm : 0 < n.qm := by have := c.1; unfold rightQ at this; simp at this; omega
    have hm2 : 0 < n.rm := by have := c.2; unfold rightQ at this; simp at this; omega
    have h1 := rnd_mono ((x - n.za) * n.qm) ((x' - n.za) * n.qm) n.qs (Int.mul_le_mul_of_nonneg_right (by omega) (by omega))
    have h2 := rnd_mono ((y - n.zb) * n.rm) ((y' - n.zb) * n.rm) n.rs (Int.mul_le_mul_of_nonneg_right (by omega) (by omega))
    exact clampI_mono _ _ _ _ (by omega) hl
  · rw [if_neg c, if_neg c]; exact Int.le_refl _
theorem check_lim {n : Nod} (h : checkE n = 0) (k : n.kd = 1 ∨ n.kd = 2 ∨ n.kd = 3 ∨ n.kd = 6 ∨ n.kd = 7) : n.lo ≤ n.hi := by
  unfold checkE at h
  rw [if_neg (by omega)] at h
  split at h
  · exact absurd h (by decide)
  · split at h
    · exact absurd h (by decide)
    · split at h
      · exact absurd h (by decide)
      · rename_i c
        have : scaledB n.kd = true := by unfold scaledB; rcases k with k | k | k | k | k <;> simp [k]
        rw [this] at c
        simp at c; omega
theorem reach_up {l : List Int} {lo hi : Int} (h0 : l ≠ []) (h : ∀ v ∈ l, lo ≤ v ∧ v ≤ hi) : ∀ k, k ≤ l.length → lo ≤ reachLo l k ∧ reachLo l k ≤ hi ∧ lo ≤ reachHi l k ∧ reachHi l k ≤ hi
  | 0, _ => by
    have : l.getD 0 0 ∈ l := by
      rw [List.getD_eq_getElem?_getD, List.getElem?_eq_getElem (List.length_pos_iff.2 h0)]; exact List.getElem_mem _
    have := h _ this
    simp only [reachLo, reachHi]; omega
  | k + 1, hk => by
    have ih := reach_up h0 h k (by omega)
    have : l.getD k 0 ∈ l := by
      rw [List.getD_eq_getElem?_getD, List.getElem?_eq_getElem (by omega)]; exact List.getElem_mem _
    have := h _ this
    simp only [reachLo, reachHi]; omega
/-! Means. -/
theorem nearP_le {a m H : Int} (h0 : 0 ≤ a) (hm : 1 ≤ m) (h : a ≤ H * m) : nearP a m ≤ H := by
  have q1 : a / m ≤ H := Int.ediv_le_of_le_mul (by omega) h
  have e := Int.mul_ediv_add_emod a m
  have q3 := Int.emod_nonneg a (show m ≠ 0 by omega)
  unfold nearP
  split
  · by_cases c : a / m = H
    · rw [c, Int.mul_comm] at e
      omega
    · omega
  · exact q1
theorem nearP_ge {a m L : Int} (hm : 1 ≤ m) (h : L * m ≤ a) : L ≤ nearP a m := by
  have q1 : L ≤ a / m := Int.le_ediv_of_mul_le (by omega) h
  unfold nearP
  split <;> omega
theorem near_in {s m lo hi : Int} (hm : 1 ≤ m) (h1 : lo * m ≤ s) (h2 : s ≤ hi * m) : lo ≤ nearE s m ∧ nearE s m ≤ hi := by
  unfold nearE
  rw [if_neg (by omega)]
  split
  · rename_i hs
    have a : nearP (-s) m ≤ -lo := nearP_le (by omega) hm (by rw [Int.neg_mul]; omega)
    have b : -hi ≤ nearP (-s) m := nearP_ge hm (by rw [Int.neg_mul]; omega)
    omega
  · rename_i hs
    exact ⟨nearP_ge hm h1, nearP_le (by omega) hm h2⟩
theorem sumL_in {l : List Int} {lo hi : Int} (h : ∀ v ∈ l, lo ≤ v ∧ v ≤ hi) : ∀ k, k ≤ l.length → lo * k ≤ sumL l k ∧ sumL l k ≤ hi * k
  | 0, _ => by simp [sumL, sumN]
  | k + 1, hk => by
    have ih := sumL_in h k (by omega)
    have : l.getD k 0 ∈ l := by
      rw [List.getD_eq_getElem?_getD, List.getElem?_eq_getElem (by omega)]; exact List.getElem_mem _
    have := h _ this
    have e : sumL l (k + 1) = sumL l k + l.getD k 0 := rfl
    rw [e, show (((k + 1 : Nat) : Int)) = (k : Int) + 1 by omega, Int.mul_add, Int.mul_add, Int.mul_one, Int.mul_one]
    omega
theorem mean_in {l : List Int} {lo hi : Int} (h0 : l ≠ []) (h : ∀ v ∈ l, lo ≤ v ∧ v ≤ hi) (h1 : In8 lo) (h2 : In8 hi) : lo ≤ meanE l ∧ meanE l ≤ hi := by
  have s := sumL_in h l.length (Nat.le_refl _)
  have n := near_in (m := (l.length : Int)) (by have := List.length_pos_iff.2 h0; omega) s.1 s.2
  unfold In8 at h1 h2
  unfold meanE
  rw [IntWalk.i8_in _ (by omega)]; exact n
/-! Windows are never empty. -/
theorem winJ_mem {T : Ten} (r : TRt T) {y x c : Int} (c0 : 0 ≤ c) (c1 : c < T.c) {A : List Int} (hA : ∀ v ∈ A, v ∈ T.d) : ∀ j, ∀ v ∈ winJ T y x c A j, v ∈ T.d
  | 0 => hA
  | j + 1 => by
    intro v hv
    rw [winJ, List.mem_append] at hv
    rcases hv with hv | hv
    · exact winJ_mem r c0 c1 hA j v hv
    · split at hv
      · rename_i hi
        have p := r.place hi c0 c1
        rw [List.mem_singleton] at hv
        subst hv
        rw [List.getD_eq_getElem?_getD, List.getElem?_eq_getElem (by omega)]; exact List.getElem_mem _
      · cases hv
theorem winI_mem {T : Ten} (r : TRt T) (k : Nat) {y x c : Int} (c0 : 0 ≤ c) (c1 : c < T.c) : ∀ i, ∀ v ∈ winI T k y x c i, v ∈ T.d
  | 0 => by simp [winI]
  | i + 1 => by rw [winI]; exact winJ_mem r c0 c1 (winI_mem r k c0 c1 i) k
theorem winJ_grow {T : Ten} {y x c : Int} (A : List Int) : ∀ j, A.length ≤ (winJ T y x c A j).length
  | 0 => Nat.le_refl _
  | j + 1 => by have := winJ_grow (T := T) (y := y) (x := x) (c := c) A j; rw [winJ, List.length_append]; omega
theorem winJ_one {T : Ten} {y x c : Int} (A : List Int) {k : Nat} : ∀ m, k < m → inT T y (x + k) → 0 < (winJ T y x c A m).length
  | 0, h, _ => by omega
  | m + 1, h, hi => by
    rw [winJ, List.length_append]
    by_cases e : k = m
    · subst e; rw [if_pos hi]; simp
    · have := winJ_one (c := c) A m (by omega) hi; omega
theorem winI_one {T : Ten} {n : Nat} {y x c : Int} {i j : Nat} (hj : j < n) : ∀ m, i < m → inT T (y + i) (x + j) → 0 < (winI T n y x c m).length
  | 0, h, _ => by omega
  | m + 1, h, hi => by
    rw [winI]
    by_cases e : i = m
    · subst e; exact winJ_one _ n hj hi
    · have := winI_one (c := c) hj m (by omega) hi
      have := winJ_grow (T := T) (y := y + m) (x := x) (c := c) (winI T n y x c m) n
      omega
theorem win_ne {T : Ten} {n : Nod} (p : PlN T n) {h w c : Int} (h0 : 0 ≤ h) (h1 : h < (plS T n).h) (w0 : 0 ≤ w) (w1 : w < (plS T n).x) : winL T n h w c ≠ [] := by
  obtain ⟨r, k1, k5, s1, s4, p0, p4, pk, hk', xk, sh, sx, sc, _, _, _, _, _, _⟩ := p
  have r1 := r.h1; have r2 := r.x1
  rw [sh] at h1; rw [sx] at w1
  have b1 := Int.mul_le_of_le_ediv (a := h) (b := T.h + 2 * n.np - n.nk) (c := n.ns) (by omega) (by omega)
  have b2 := Int.mul_le_of_le_ediv (a := w) (b := T.x + 2 * n.np - n.nk) (c := n.ns) (by omega) (by omega)
  have b3 := Int.mul_nonneg h0 (show 0 ≤ n.ns by omega)
  have b4 := Int.mul_nonneg w0 (show 0 ≤ n.ns by omega)
  have one : ∀ t H : Int, 1 ≤ H → 0 ≤ t → t ≤ H + 2 * n.np - n.nk → ∃ i : Nat, i < n.nk.toNat ∧ 0 ≤ t - n.np + i ∧ t - n.np + i < H := by
    intro t H hH t0 t1
    by_cases c : n.np ≤ t
    · exact ⟨0, by omega, by omega, by omega⟩
    · exact ⟨(n.np - t).toNat, by omega, by omega, by omega⟩
  obtain ⟨i, i1, i2, i3⟩ := one (h * n.ns) T.h r1 b3 b1
  obtain ⟨j, j1, j2, j3⟩ := one (w * n.ns) T.x r2 b4 b2
  have := winI_one (T := T) (n := n.nk.toNat) (y := h * n.ns - n.np) (x := w * n.ns - n.np) (c := c) (i := i) (j := j) j1 n.nk.toNat i1 ⟨i2, i3, j2, j3⟩
  exact List.length_pos_iff.1 this
theorem pool_in {A : Ten} {n : Nod} {a : Rng} {m : Bool} (ok : A.Ok) (okn : n.Ok) (r : tenRight A = true) (he : (poolOf A n m).2 = 0) (ha : a.In8) (hr : InR a A.d) : InR a (poolOf A n m).1.d := by
  unfold poolOf at he ⊢
  rw [if_pos r] at he ⊢
  by_cases c : (slideE ⟨A.h, A.x, A.c⟩ n.nk n.ns n.np A.c).2 = 0
  · rw [if_pos c]
    have p := PlOk.n ⟨ok, okn, r, c⟩
    intro v hv
    dsimp only at hv
    unfold poolL at hv
    obtain ⟨i, hi, rfl⟩ := List.mem_map.1 hv
    rw [List.mem_range] at hi
    have x1 := p.x1; have sc := p.sc; have c1 := p.r.c1; have en := p.en
    have at' := num_at (k := i) (h := (plS A n).h) (x := (plS A n).x) (c := (plS A n).c) (by omega) x1 (by omega)
    obtain ⟨b1, b2, b3, b4, b5, b6⟩ := at'
    have ne := win_ne p (c := (i : Int) % (plS A n).c) b1 b2 b3 b4
    have mem : ∀ v ∈ winL A n ((i : Int) / (plS A n).c / (plS A n).x) ((i : Int) / (plS A n).c % (plS A n).x) ((i : Int) % (plS A n).c), a.lo ≤ v ∧ v ≤ a.hi := fun v hv => hr v (winI_mem p.r _ b5 (by omega) _ v hv)
    unfold poolF
    split
    · have := reach_up ne mem _ (Nat.le_refl _); exact ⟨this.2.2.1, this.2.2.2⟩
    · exact mean_in ne mem ha.1 ha.2
  · rw [if_neg c] at he; exact absurd he c
theorem pix_in {T : Ten} (r : TRt T) {a : Rng} (hr : InR a T.d) {h w c z : Int} (c0 : 0 ≤ c) (c1 : c < T.c) : (inT T h w ∧ a.lo ≤ pixE T h w c z ∧ pixE T h w c z ≤ a.hi) ∨ (¬ inT T h w ∧ pixE T h w c z = z) := by
  unfold pixE
  by_cases hi : inT T h w
  · left
    rw [if_pos hi]
    have p := r.place hi c0 c1
    exact ⟨hi, inr_at hr (by omega)⟩
  · right; exact ⟨hi, if_neg hi⟩
theorem gH_mem {f : Nat → Nat → Nat → Int} {m x Y : Nat} {p : Int → Prop} (h : ∀ y w c, y < Y → w < x → c < m → p (f y w c)) : ∀ v ∈ gH f m x Y, p v := by
  have gw : ∀ y, y < Y → ∀ w, w ≤ x → ∀ v ∈ gW f m y w, p v := by
    intro y hy w
    induction w with
    | zero => intro _ v hv; cases hv
    | succ w ih =>
      intro hw v hv
      rw [gW, List.mem_append] at hv
      rcases hv with hv | hv
      · exact ih (by omega) v hv
      · unfold gO at hv
        obtain ⟨c, hc, rfl⟩ := List.mem_map.1 hv
        exact h y w c hy (by omega) (List.mem_range.1 hc)
  have go : ∀ Y', Y' ≤ Y → ∀ v ∈ gH f m x Y', p v := by
    intro Y'
    induction Y' with
    | zero => intro _ v hv; cases hv
    | succ y ih =>
      intro hy v hv
      rw [gH, List.mem_append] at hv
      rcases hv with hv | hv
      · exact ih (by omega) v hv
      · exact gw y (by omega) x (Nat.le_refl _) v hv
  exact go Y (Nat.le_refl _)
/-- What a node makes lies within what was told. -/
theorem node_in {n : Nod} {A B : Ten} {a b : Rng} (ok : A.Ok) (okn : n.Ok) (r : tenRight A = true) (he : (nodeOf n A B).2 = 0) (hg : (nodeR n a b).2 = 0) (ha : a.In8) (hr : InR a A.d) (hb : n.kd = 6 → InR b B.d) : InR (nodeR n a b).1 (nodeOf n A B).1.d := by
  have hc : checkE n = 0 := by
    apply Classical.byContradiction; intro c
    unfold nodeOf at he; rw [if_pos c] at he; exact c he
  unfold nodeR at hg ⊢
  rw [if_neg (show ¬ checkE n ≠ 0 by omega)] at hg ⊢
  by_cases hu : a.lo > a.hi ∨ (n.kd = 6 ∧ b.lo > b.hi)
  · rw [if_pos hu] at hg; exact absurd hg (by decide)
  · rw [if_neg hu] at hg ⊢
    unfold nodeOf at he ⊢
    rw [if_neg (show ¬ checkE n ≠ 0 by omega), if_neg (show ¬ tenRight A = false by simp [r])] at he ⊢
    have rt := tenRight.rt r
    by_cases k123 : n.kd = 1 ∨ n.kd = 2 ∨ n.kd = 3
    · rw [if_pos k123] at hg ⊢
      rw [if_neg (show ¬ n.kd = 4 by omega), if_neg (show ¬ n.kd = 5 by omega), if_neg (show ¬ n.kd = 6 by omega), if_neg (show ¬ n.kd = 7 by omega), if_neg (show ¬ n.kd = 8 by omega), if_neg (show ¬ n.kd = 9 by omega)] at he ⊢
      have es : (sumOf A n).2 = 0 := by
        apply Classical.byContradiction; intro c
        rw [if_pos c] at he; exact c he
      rw [if_neg (by omega)] at he ⊢
      have s := sum_sumIn ok okn r k123 es hr
      have hall : (spansN n a).all holdB = true := by
        apply Classical.byContradiction; intro c
        unfold sumG at hg; rw [if_neg c] at hg; exact absurd hg (by decide)
      have ex := sum_exact s hall
      unfold sumG
      rw [if_pos hall]
      have lim := check_lim hc (by omega)
      unfold putOf at he ⊢
      split
      · rename_i c; rw [if_pos c] at he; exact absurd he (by decide)
      · rename_i c; rw [if_neg c] at he
        split
        · rename_i c; rw [if_pos c] at he; exact absurd he (by decide)
        · intro v hv
          dsimp only at hv
          obtain ⟨u, hu', rfl⟩ := List.mem_map.1 hv
          obtain ⟨k, hk, rfl⟩ := List.mem_iff_getElem.1 hu'
          have q := ex k hk
          rw [List.getD_eq_getElem?_getD, List.getElem?_eq_getElem hk] at q
          simp only [Option.getD_some] at q
          have w1 : held32 (bothR (spansN n a) (spansN n a).length).lo ≤ (sumOf A n).1.d[k] := by have := q.2.2.2; unfold In32 at this; unfold held32; omega
          have w2 : (sumOf A n).1.d[k] ≤ held32 (bothR (spansN n a) (spansN n a).length).hi := by have := q.2.2.2; unfold In32 at this; unfold held32; omega
          have m1 := heldQ_up (m := n.qm) (s := n.qs) (z := n.qz) w1 lim
          have m2 := heldQ_up (m := n.qm) (s := n.qs) (z := n.qz) w2 lim
          unfold afterE heldN
          dsimp only
          omega
    · rw [if_neg k123] at hg ⊢
      by_cases k4 : n.kd = 4
      · rw [if_pos k4] at he ⊢
        rw [if_neg (by omega), if_neg (by omega), if_neg (by omega)]
        exact pool_in ok okn r he ha hr
      · rw [if_neg k4] at he ⊢
        by_cases k5 : n.kd = 5
        · rw [if_pos k5] at he ⊢
          rw [if_neg (by omega), if_neg (by omega), if_neg (by omega)]
          exact pool_in ok okn r he ha hr
        · rw [if_neg k5] at he ⊢
          by_cases k6 : n.kd = 6
          · rw [if_pos k6] at he ⊢
            rw [if_pos k6]
            have lim := check_lim hc (by omega)
            unfold joinOf at he ⊢
            split
            · rename_i c; rw [if_pos c] at he; exact absurd he (by decide)
            · rename_i c; rw [if_neg c] at he
              split
              · rename_i c; rw [if_pos c] at he; exact absurd he (by decide)
              · have c : (tenRight A && tenRight B && decide (A.h = B.h ∧ A.x = B.x ∧ A.c = B.c)) = true := by
                  cases e : (tenRight A && tenRight B && decide (A.h = B.h ∧ A.x = B.x ∧ A.c = B.c)) with
                  | true => rfl
                  | false => exact absurd e c
                simp only [Bool.and_eq_true, decide_eq_true_eq] at c
                have rb := tenRight.rt c.1.2
                have dl : B.d.length = A.d.length := by
                  have h1 := rt.dl; have h2 := rb.dl
                  rw [← c.2.1, ← c.2.2.1, ← c.2.2.2] at h2; omega
                intro v hv
                dsimp only at hv
                obtain ⟨i, hi, rfl⟩ := List.mem_map.1 hv
                rw [List.mem_range] at hi
                have x1 := inr_at hr hi
                have x2 := inr_at (hb k6) (i := i) (by omega)
                exact ⟨joinE_up x1.1 x2.1 lim, joinE_up x1.2 x2.2 lim⟩
          · rw [if_neg k6] at he ⊢
            rw [if_neg k6]
            by_cases k7 : n.kd = 7
            · rw [if_pos k7] at he ⊢
              rw [if_pos k7]
              have lim := check_lim hc (by omega)
              unfold actOf at he ⊢
              rw [if_neg (show ¬ tenRight A = false by simp [r])] at he ⊢
              split
              · rename_i c; rw [if_pos c] at he; exact absurd he (by decide)
              · intro v hv
                dsimp only at hv
                obtain ⟨u, hu', rfl⟩ := List.mem_map.1 hv
                have q := hr u hu'
                unfold oneN
                exact ⟨heldQ_up (by omega) lim, heldQ_up (by omega) lim⟩
            · rw [if_neg k7] at he ⊢
              rw [if_neg k7]
              by_cases k8 : n.kd = 8
              · rw [if_pos k8] at he ⊢
                have hm : mayE A n.np = 0 := by
                  apply Classical.byContradiction; intro c
                  rw [if_pos c] at he; exact c he
                rw [if_neg (show ¬ mayE A n.np ≠ 0 by omega)] at he
                rw [if_neg (show ¬ mayE A n.np ≠ 0 by omega)]
                have np : 0 ≤ n.np ∧ n.np ≤ 4 := by
                  unfold mayE at hm; rw [if_pos r] at hm
                  apply Classical.byContradiction; intro c
                  rw [if_neg c] at hm; exact absurd hm (by decide)
                have e0 := (padOf_right r he).1
                have eb := elems_bd (A.h + 2 * n.np) (A.x + 2 * n.np) A.c
                have eo := elems_ok (h := A.h + 2 * n.np) (x := A.x + 2 * n.np) (c := A.c) (by omega)
                unfold padOf
                rw [if_neg e0]
                dsimp only
                refine gH_mem (p := fun v => (if n.kd = 8 ∧ n.np > 0 then ((⟨min a.lo n.za, max a.hi n.za⟩ : Rng), (0 : Int)) else (a, 0)).1.lo ≤ v ∧ v ≤ (if n.kd = 8 ∧ n.np > 0 then ((⟨min a.lo n.za, max a.hi n.za⟩ : Rng), (0 : Int)) else (a, 0)).1.hi) fun y w c hy hw hc' => ?_
                have q := pix_in rt hr (h := (y : Int) - n.np) (w := (w : Int) - n.np) (c := (c : Int)) (z := n.za) (by omega) (by omega)
                generalize hX : pixE A ((y : Int) - n.np) ((w : Int) - n.np) (c : Int) n.za = X at q
                have eX : movF A n.np n.np n.za y w c = X := hX
                rw [eX]
                by_cases hp : n.kd = 8 ∧ n.np > 0
                · rw [if_pos hp]; dsimp only
                  rcases q with ⟨_, q⟩ | ⟨_, q⟩ <;> omega
                · rw [if_neg hp]; dsimp only
                  rcases q with ⟨_, q⟩ | ⟨q, _⟩
                  · omega
                  · exfalso; apply q
                    have : n.np = 0 := by omega
                    unfold inT; omega
              · rw [if_neg k8] at he ⊢
                rw [if_neg (fun q => k8 q.1)]
                by_cases k9 : n.kd = 9
                · rw [if_pos k9]; exact hr
                · exfalso
                  unfold checkE at hc
                  rw [if_pos (by omega)] at hc; exact absurd hc (by decide)
end Go.Proofs.Ytgecmooedhnenaa

/- Which nodes are gone through. No condition. -/
namespace Go.Proofs.Ytgecmooedhnenaa
open Go.RowKit
set_option linter.unusedSimpArgs false
set_option linter.unusedVariables false
set_option linter.unnecessarySimpa false

def smallB (n : Nod) : Bool := decide (n.w.length ≤ 1000) && decide (n.b.length ≤ 100)
def fewB (l : List Nod) (d : Nat) : Bool := decide (l.length ≤ 12) && decide (d ≤ 300) && l.all smallB
noncomputable def few_ly_I (l : List Nod) (k : Nat) : VS := stt 37 [(0, .sl 19 (l.map nodC)), (5, i64 k)] []
noncomputable def few_ly_Z (l : List Nod) : VS := few_ly_I l (l.length)
set_option maxRecDepth 100000 in
set_option maxHeartbeats 2000000 in
theorem few_ly_s (l : List Nod) (hl : l.length ≤ 12) (h : ∀ k, k < l.length → smallB (l.getD k default) = true) (k : Nat) (hk : k < l.length) : VT Try.prog (fnC Try.f13 [1, 1, 0, 1, 0, 0]) (few_ly_I l k) .normal (few_ly_I l (k + 1)) := by
  have q := h k hk
  simp only [smallB, Bool.and_eq_true, decide_eq_true_eq] at q
  obtain ⟨q1, q2⟩ := q
  have oz1 := (show 0 ≤ (↑k : Int) by omega)
  have oz2 := (map_at (nodC) (default) (l := l) (i := k) hk)
  exact VT.run (W := [.r [] [], .br true, .r [] [.row (sO oz2), .op false, .op false, .op false, .row (sO oz2), .op false, .op false, .op false, .op false, .sel 1], .br false, .r [] [.n ((↑k : Int) + 1)]]) (G := [.any (rg [(15, 14), (36, 1)]), .weak 5 (i64 (↑(k + 1) : Int)), .sort]) (by kernel_rfl) (.c (show decide ((↑k : Int) < (↑(List.map nodC l).length : Int)) = true by (simp; omega)) <| .c oz1 <| .c oz2 <| .c oz1 <| .c oz2 <| .c (show (decide ((↑(List.map (row1 IntKind.i8) (l.getD k default).w).length : Int) > 1000) || decide ((↑(List.map (row1 IntKind.i32) (l.getD k default).b).length : Int) > 100)) = false by (simp at *; omega)) <| .c (IntWalk.i64_in ((↑k : Int) + 1) (by omega)) <| .c (Weak.int (k := .i64) (show (((↑k : Int) + 1) : Int) = ((↑(k + 1) : Int)) from (by omega))) <| .n)
set_option maxRecDepth 100000 in
set_option maxHeartbeats 2000000 in
theorem few_ly_e (l : List Nod) (hl : l.length ≤ 12) (h : ∀ k, k < l.length → smallB (l.getD k default) = true) : VT Try.prog (fnC Try.f13 [1, 1, 0, 1, 0, 0]) (few_ly_I l (l.length)) (.exit 0) (few_ly_Z l) := by
  exact VT.run (W := [.r [] [], .br false]) (G := [.any (rg [(15, 4)]), .sort]) (by kernel_rfl) (.c (show decide ((↑l.length : Int) < (↑(List.map nodC l).length : Int)) = false by (simp; done)) <| .n)
theorem few_ly (l : List Nod) (hl : l.length ≤ 12) (h : ∀ k, k < l.length → smallB (l.getD k default) = true) : VT Try.prog (fnC Try.f13 [1, 1, 0, 1, 0]) (few_ly_I l 0) (.exit 0) (few_ly_Z l) :=
  VT.loop (fun k => few_ly_I l k) (l.length) (fun k hk => few_ly_s l hl h k hk) (few_ly_e l hl h) (by intro h; cases h)

noncomputable def few_ln_I (l : List Nod) (m : Nat) (k : Nat) : VS := stt 37 [(0, .sl 19 (l.map nodC)), (5, i64 k)] []
noncomputable def few_ln_Z (l : List Nod) (m : Nat) : VS := stt 37 [(4, bv false)] []
set_option maxRecDepth 100000 in
set_option maxHeartbeats 2000000 in
theorem few_ln_s (l : List Nod) (m : Nat) (hl : l.length ≤ 12) (hm : m < l.length) (hf : smallB (l.getD m default) = false) (h : ∀ k, k < m → smallB (l.getD k default) = true) (k : Nat) (hk : k < m) : VT Try.prog (fnC Try.f13 [1, 1, 0, 1, 0, 0]) (few_ln_I l m k) .normal (few_ln_I l m (k + 1)) := by
  have q := h k hk
  simp only [smallB, Bool.and_eq_true, decide_eq_true_eq] at q
  obtain ⟨q1, q2⟩ := q
  have oz1 := (show 0 ≤ (↑k : Int) by omega)
  have oz2 := (map_at (nodC) (default) (l := l) (i := k) (by omega))
  exact VT.run (W := [.r [] [], .br true, .r [] [.row (sO oz2), .op false, .op false, .op false, .row (sO oz2), .op false, .op false, .op false, .op false, .sel 1], .br false, .r [] [.n ((↑k : Int) + 1)]]) (G := [.any (rg [(15, 14), (36, 1)]), .weak 5 (i64 (↑(k + 1) : Int)), .sort]) (by kernel_rfl) (.c (show decide ((↑k : Int) < (↑(List.map nodC l).length : Int)) = true by (simp; omega)) <| .c oz1 <| .c oz2 <| .c oz1 <| .c oz2 <| .c (show (decide ((↑(List.map (row1 IntKind.i8) (l.getD k default).w).length : Int) > 1000) || decide ((↑(List.map (row1 IntKind.i32) (l.getD k default).b).length : Int) > 100)) = false by (simp at *; omega)) <| .c (IntWalk.i64_in ((↑k : Int) + 1) (by omega)) <| .c (Weak.int (k := .i64) (show (((↑k : Int) + 1) : Int) = ((↑(k + 1) : Int)) from (by omega))) <| .n)
set_option maxRecDepth 100000 in
set_option maxHeartbeats 2000000 in
theorem few_ln_e (l : List Nod) (m : Nat) (hl : l.length ≤ 12) (hm : m < l.length) (hf : smallB (l.getD m default) = false) (h : ∀ k, k < m → smallB (l.getD k default) = true) : VT Try.prog (fnC Try.f13 [1, 1, 0, 1, 0, 0]) (few_ln_I l m (m)) (.ret) (few_ln_Z l m) := by
  simp only [smallB, Bool.and_eq_false_iff, decide_eq_false_iff_not] at hf
  have oz1 := (show 0 ≤ (↑m : Int) by omega)
  have oz2 := (map_at (nodC) (default) (l := l) (i := m) hm)
  exact VT.run (W := [.r [] [], .br true, .r [] [.row (sO oz2), .op false, .op false, .op false, .row (sO oz2), .op false, .op false, .op false, .op false, .sel 1], .br true, .r [] []]) (G := [.any (rg [(0, 1), (5, 1), (15, 4), (21, 8), (36, 1)]), .sort]) (by kernel_rfl) (.c (show decide ((↑m : Int) < (↑(List.map nodC l).length : Int)) = true by (simp; omega)) <| .c oz1 <| .c oz2 <| .c oz1 <| .c oz2 <| .c (show (decide ((↑(List.map (row1 IntKind.i8) (l.getD m default).w).length : Int) > 1000) || decide ((↑(List.map (row1 IntKind.i32) (l.getD m default).b).length : Int) > 100)) = true by (simp at *; omega)) <| .n)
theorem few_ln (l : List Nod) (m : Nat) (hl : l.length ≤ 12) (hm : m < l.length) (hf : smallB (l.getD m default) = false) (h : ∀ k, k < m → smallB (l.getD k default) = true) : VT Try.prog (fnC Try.f13 [1, 1, 0, 1, 0]) (few_ln_I l m 0) (.ret) (few_ln_Z l m) :=
  VT.loop (fun k => few_ln_I l m k) (m) (fun k hk => few_ln_s l m hl hm hf h k hk) (few_ln_e l m hl hm hf h) (by intro h; cases h)

set_option maxRecDepth 100000 in
set_option maxHeartbeats 2000000 in
theorem few_a (l : List Nod) (T : Ten) (h : 12 < l.length ∨ 300 < T.d.length) : VC Try.prog 13 ([.sl 19 (l.map nodC), ten .i8 T]) (bv false) := by
  exact VC.run (fn := Try.f13) (W := [.r [] [], .r [] [.op false, .op false, .op false, .op false, .sel 1], .br true, .r [] []]) Try.func13 (by kernel_rfl) (.c (show (decide ((↑(List.map nodC l).length : Int) > 12) || decide ((↑(List.map (row1 IntKind.i8) T.d).length : Int) > 300)) = true by (simp; omega)) <| .n)

set_option maxRecDepth 100000 in
set_option maxHeartbeats 2000000 in
theorem few_y (l : List Nod) (T : Ten) (hl : l.length ≤ 12) (hd : T.d.length ≤ 300) (h : ∀ k, k < l.length → smallB (l.getD k default) = true) : VC Try.prog 13 ([.sl 19 (l.map nodC), ten .i8 T]) (bv true) := by
  have oz2 := @few_ly (l) hl h
  exact VC.run (fn := Try.f13) (W := [.r [] [], .r [] [.op false, .op false, .op false, .op false, .sel 1], .br false, .r [] [], .code [.any [1, 3, 4, 6, 7, 8, 9, 14], .drop [3], .weak 5 (i64 (↑0 : Int)), .sort] (Exit.exit 0) (zO oz2), .r [] []]) Try.func13 (by kernel_rfl) (.c (show (decide ((↑(List.map nodC l).length : Int) > 12) || decide ((↑(List.map (row1 IntKind.i8) T.d).length : Int) > 300)) = false by (simp; omega)) <| .c (Weak.int (k := .i64) (show ((0) : Int) = ((↑0 : Int)) from (by omega))) <| .c oz2 <| .n)

set_option maxRecDepth 100000 in
set_option maxHeartbeats 2000000 in
theorem few_n (l : List Nod) (T : Ten) (m : Nat) (hl : l.length ≤ 12) (hd : T.d.length ≤ 300) (hm : m < l.length) (hf : smallB (l.getD m default) = false) (h : ∀ k, k < m → smallB (l.getD k default) = true) : VC Try.prog 13 ([.sl 19 (l.map nodC), ten .i8 T]) (bv false) := by
  have oz2 := @few_ln (l) (m) hl hm hf h
  exact VC.run (fn := Try.f13) (W := [.r [] [], .r [] [.op false, .op false, .op false, .op false, .sel 1], .br false, .r [] [], .code [.any [1, 3, 4, 6, 7, 8, 9, 14], .drop [3], .weak 5 (i64 (↑0 : Int)), .sort] (Exit.ret) (zO oz2)]) Try.func13 (by kernel_rfl) (.c (show (decide ((↑(List.map nodC l).length : Int) > 12) || decide ((↑(List.map (row1 IntKind.i8) T.d).length : Int) > 300)) = false by (simp; omega)) <| .c (Weak.int (k := .i64) (show ((0) : Int) = ((↑0 : Int)) from (by omega))) <| .c oz2 <| .n)
theorem few_v (l : List Nod) (T : Ten) : VC Try.prog 13 [.sl 19 (l.map nodC), ten .i8 T] (bv (fewB l T.d.length)) := by
  unfold fewB
  by_cases h1 : l.length ≤ 12
  · by_cases h2 : T.d.length ≤ 300
    · rw [decide_eq_true h1, decide_eq_true h2]
      rcases all_or (fun k => smallB (l.getD k default)) l.length with h | ⟨m, g1, g2, g3⟩
      · rw [all_getD.2 h]; exact few_y l T h1 h2 h
      · have : l.all smallB = false := by
          cases e : l.all smallB with
          | false => rfl
          | true => have := all_getD.1 e m g1; exact absurd (this.symm.trans g2) (by simp)
        rw [this]; exact few_n l T m h1 h2 g1 g2 g3
    · rw [decide_eq_false h2, Bool.and_false, Bool.false_and]; exact few_a l T (.inr (by omega))
  · rw [decide_eq_false h1, Bool.false_and, Bool.false_and]; exact few_a l T (.inl (by omega))
theorem few_facts {l : List Nod} {d : Nat} (h : fewB l d = true) : l.length ≤ 12 ∧ d ≤ 300 ∧ ∀ n ∈ l, n.w.length ≤ 1000 ∧ n.b.length ≤ 100 := by
  simp only [fewB, Bool.and_eq_true, decide_eq_true_eq, List.all_eq_true, smallB] at h
  exact ⟨h.1.1, h.1.2, fun n hn => h.2 n hn⟩
theorem few_wide {l : List Nod} {d : Nat} (h : fewB l d = true) : ∀ n ∈ l, n.w.length ≤ 100000 ∧ n.b.length ≤ 100000 := fun n hn => by
  have := (few_facts h).2.2 n hn; omega
end Go.Proofs.Ytgecmooedhnenaa

/- Nothing leaves its reach, and no sum leaves 32 bits: the law. No condition. -/
namespace Go.Proofs.Ytgecmooedhnenaa
open Go.RowKit
set_option linter.unusedSimpArgs false
set_option linter.unusedVariables false
set_option linter.unnecessarySimpa false

/-- What a node makes of a tensor is what it is over whole numbers. -/
structure ExOk (n : Nod) (T S : Ten) : Prop where
  okT : T.Ok
  okn : n.Ok
  c1 : 1 ≤ S.c
  c3 : S.c ≤ 1024
  x1 : 1 ≤ S.x
  x2 : S.x ≤ 16
  ln : (S.d.length : Int) = S.h * S.x * S.c
  h2 : S.h ≤ 16
  l2 : S.d.length ≤ 1024
  k1 : n.kd = 1 → CvOk T n ∧ S.c = n.no
  k2 : n.kd = 2 → DpOk T n ∧ S.c = T.c
  k3 : n.kd = 3 → DnOk T n ∧ S.c = n.b.length
  i32 : ∀ k : Nat, k < S.d.length → In32 (S.d.getD k 0)
  at_ : ∀ k : Nat, k < S.d.length → S.d.getD k 0 = wholeE T n ((k : Int) / S.c / S.x) ((k : Int) / S.c % S.x) ((k : Int) % S.c)
noncomputable def exact_l_I (n : Nod) (T S : Ten) (k : Nat) : VS := stt 107 [(2, .ptr 2 0 0), (3, .ptr 3 0 0), (5, .ptr 5 0 0), (7, .ptr 7 0 0), (8, i64 k)] [(2, .var (nodC n)), (3, .var (tnC T)), (5, .var [i64 S.h, i64 S.x, i64 S.c, ints .i32 S.d]), (7, .var [i64 S.h, i64 S.x, i64 S.c])]
noncomputable def exact_l_Z (n : Nod) (T S : Ten) : VS := exact_l_I n T S (S.d.length)
set_option maxRecDepth 100000 in
set_option maxHeartbeats 2000000 in
theorem exact_l_s (n : Nod) (T S : Ten) (ok : ExOk n T S) (kk : n.kd = 1 ∨ n.kd = 2 ∨ n.kd = 3) (k : Nat) (hk : k < S.d.length) : VT Try.prog (fnC Try.f18 [1, 1, 1, 1, 1, 0, 1, 0, 0]) (exact_l_I n T S k) .normal (exact_l_I n T S (k + 1)) := by
  obtain ⟨okT, okn, c1, c3, x1, x2, ln, h2, l2, k1, k2, k3, hb32, at_⟩ := id ok
  have q := at_ k hk
  obtain ⟨b9, b10⟩ := hb32 k hk
  obtain ⟨b1, b2, b3, b4, b5, b6⟩ := num_at (k := k) (h := S.h) (x := S.x) (c := S.c) (by omega) x1 c1
  have b7 := Int.ediv_nonneg (show 0 ≤ (k : Int) by omega) (show 0 ≤ S.c by omega)
  have b8 := Int.ediv_le_self (a := (k : Int)) S.c (by omega)
  have q1 : n.kd = 1 → S.d.getD k 0 = sumE T n ((k : Int) / S.c / S.x) ((k : Int) / S.c % S.x) ((k : Int) % S.c) := fun h => by unfold wholeE at q; rw [if_pos h] at q; exact q
  have q2 : n.kd = 2 → S.d.getD k 0 = dE T n ((k : Int) / S.c / S.x) ((k : Int) / S.c % S.x) ((k : Int) % S.c) := fun h => by unfold wholeE at q; rw [if_neg (by omega), if_pos h] at q; exact q
  have q3 : n.kd = 3 → S.d.getD k 0 = dnS T.d n.w n.b n.za ((k : Int) % S.c) := fun h => by unfold wholeE at q; rw [if_neg (by omega), if_neg (by omega), if_pos h] at q; exact q
  have oz0 := (show decide ((↑k : Int) < (↑(List.map (row1 IntKind.i32) S.d).length : Int)) = true by (simp; omega))
  have oz1 := (show S.c ≠ 0 by omega)
  have oz2 := (show IntKind.i64.wrap ((↑k : Int).tdiv S.c) = (↑k : Int) / S.c from (Eq.trans (congrArg _ (Int.tdiv_eq_ediv_of_nonneg (by omega))) (by exact IntWalk.i64_in _ (by omega))))
  have oz3 := (show S.x ≠ 0 by omega)
  have oz4 := (show IntKind.i64.wrap (((↑k : Int) / S.c).tdiv S.x) = (↑k : Int) / S.c / S.x from (Eq.trans (congrArg _ (Int.tdiv_eq_ediv_of_nonneg b7)) (by exact IntWalk.i64_in _ (by omega))))
  have oz8 := (show ((↑k : Int) / S.c).tmod S.x = (↑k : Int) / S.c % S.x from (Int.tmod_eq_emod_of_nonneg b7))
  have oz10 := (show (↑k : Int).tmod S.c = (↑k : Int) % S.c from (Int.tmod_eq_emod_of_nonneg (by omega)))
  rcases Bool.eq_false_or_eq_true (n.kd == 1) with hc0 | hc0
  · have gc0 : n.kd = 1 := bet hc0
    have oz12 := @rcSum_v (T) (n) ((↑k : Int) / S.c / S.x) ((↑k : Int) / S.c % S.x) ((↑k : Int) % S.c) (by (exact (k1 (by omega)).1)) b5 (by omega) b1 (by omega) b3 (by omega)
    exact VT.run (W := [.r [] [], .br true, .r [] [.n ((↑k : Int) / S.c), .n ((↑k : Int) / S.c / S.x), .n ((↑k : Int) / S.c), .n ((↑k : Int) / S.c % S.x), .n ((↑k : Int) % S.c)], .r [] [], .r [] [], .r [] [], .br true, .r [] [.callr (rO oz12)], .r [] [.row [i32 (S.d.getD k 0)], .n (S.d.getD k 0)], .br false, .r [] [.n ((↑k : Int) + 1)]]) (G := [.any (rg [(9, 4), (44, 35), (99, 8)]), .weak 8 (i64 (↑(k + 1) : Int)), .sort]) (by kernel_rfl) (.c oz0 <| .c oz1 <| .c oz2 <| .c oz3 <| .c oz4 <| .c oz1 <| .c oz2 <| .c oz3 <| .c oz8 <| .c oz1 <| .c oz10 <| .c hc0 <| .c oz12 <| .c (show 0 ≤ (↑k : Int) by omega) <| .c (map_at (row1 IntKind.i32) (0) (l := S.d) (i := k) hk) <| .c (IntWalk.i64_in (S.d.getD k 0) (by omega)) <| .c (show (S.d.getD k 0 != sumE T n ((↑k : Int) / S.c / S.x) ((↑k : Int) / S.c % S.x) ((↑k : Int) % S.c)) = false by (rw [q1 (by omega)]; exact bne_self_eq_false _)) <| .c (IntWalk.i64_in ((↑k : Int) + 1) (by omega)) <| .c (Weak.int (k := .i64) (show (((↑k : Int) + 1) : Int) = ((↑(k + 1) : Int)) from (by omega))) <| .n)
  · have gc0 : ¬n.kd = 1 := bef hc0
    rcases Bool.eq_false_or_eq_true (n.kd == 2) with hc1 | hc1
    · have gc1 : n.kd = 2 := bet hc1
      have oz13 := @rdSum_v (T) (n) ((↑k : Int) / S.c / S.x) ((↑k : Int) / S.c % S.x) ((↑k : Int) % S.c) (by (exact (k2 (by omega)).1)) b1 (by omega) b3 (by omega) b5 (by omega)
      exact VT.run (W := [.r [] [], .br true, .r [] [.n ((↑k : Int) / S.c), .n ((↑k : Int) / S.c / S.x), .n ((↑k : Int) / S.c), .n ((↑k : Int) / S.c % S.x), .n ((↑k : Int) % S.c)], .r [] [], .r [] [], .r [] [], .br false, .r [] [], .br true, .r [] [.callr (rO oz13)], .r [] [.row [i32 (S.d.getD k 0)], .n (S.d.getD k 0)], .br false, .r [] [.n ((↑k : Int) + 1)]]) (G := [.any (rg [(9, 4), (44, 29), (79, 8), (99, 8)]), .weak 8 (i64 (↑(k + 1) : Int)), .sort]) (by kernel_rfl) (.c oz0 <| .c oz1 <| .c oz2 <| .c oz3 <| .c oz4 <| .c oz1 <| .c oz2 <| .c oz3 <| .c oz8 <| .c oz1 <| .c oz10 <| .c hc0 <| .c hc1 <| .c oz13 <| .c (show 0 ≤ (↑k : Int) by omega) <| .c (map_at (row1 IntKind.i32) (0) (l := S.d) (i := k) hk) <| .c (IntWalk.i64_in (S.d.getD k 0) (by omega)) <| .c (show (S.d.getD k 0 != dE T n ((↑k : Int) / S.c / S.x) ((↑k : Int) / S.c % S.x) ((↑k : Int) % S.c)) = false by (rw [q2 (by omega)]; exact bne_self_eq_false _)) <| .c (IntWalk.i64_in ((↑k : Int) + 1) (by omega)) <| .c (Weak.int (k := .i64) (show (((↑k : Int) + 1) : Int) = ((↑(k + 1) : Int)) from (by omega))) <| .n)
    · have gc1 : ¬n.kd = 2 := bef hc1
      have oz14 := @denseS_v (T.d) (n.w) (n.b) (n.za) ((↑k : Int) % S.c) (by (exact okT.d)) (by (exact okn.w)) (by (exact okn.b)) (by (exact okn.za)) b5 (by omega) (by (exact (DnOk.n (k3 (by omega)).1).2.2.1)) (by (exact (DnOk.n (k3 (by omega)).1).2.2.2.1)) (by (exact (DnOk.n (k3 (by omega)).1).2.2.2.2.1))
      exact VT.run (W := [.r [] [], .br true, .r [] [.n ((↑k : Int) / S.c), .n ((↑k : Int) / S.c / S.x), .n ((↑k : Int) / S.c), .n ((↑k : Int) / S.c % S.x), .n ((↑k : Int) % S.c)], .r [] [], .r [] [], .r [] [], .br false, .r [] [], .br false, .r [] [], .br true, .r [] [.callr (rO oz14)], .r [] [.row [i32 (S.d.getD k 0)], .n (S.d.getD k 0)], .br false, .r [] [.n ((↑k : Int) + 1)]]) (G := [.any (rg [(9, 4), (44, 29), (79, 2), (87, 20)]), .weak 8 (i64 (↑(k + 1) : Int)), .sort]) (by kernel_rfl) (.c oz0 <| .c oz1 <| .c oz2 <| .c oz3 <| .c oz4 <| .c oz1 <| .c oz2 <| .c oz3 <| .c oz8 <| .c oz1 <| .c oz10 <| .c hc0 <| .c hc1 <| .c (show (n.kd == 3) = true by (refine decide_eq_true ?_; omega)) <| .c oz14 <| .c (show 0 ≤ (↑k : Int) by omega) <| .c (map_at (row1 IntKind.i32) (0) (l := S.d) (i := k) hk) <| .c (IntWalk.i64_in (S.d.getD k 0) (by omega)) <| .c (show (S.d.getD k 0 != dnS T.d n.w n.b n.za ((↑k : Int) % S.c)) = false by (rw [q3 (by omega)]; exact bne_self_eq_false _)) <| .c (IntWalk.i64_in ((↑k : Int) + 1) (by omega)) <| .c (Weak.int (k := .i64) (show (((↑k : Int) + 1) : Int) = ((↑(k + 1) : Int)) from (by omega))) <| .n)
set_option maxRecDepth 100000 in
set_option maxHeartbeats 2000000 in
theorem exact_l_e (n : Nod) (T S : Ten) (ok : ExOk n T S) (kk : n.kd = 1 ∨ n.kd = 2 ∨ n.kd = 3) : VT Try.prog (fnC Try.f18 [1, 1, 1, 1, 1, 0, 1, 0, 0]) (exact_l_I n T S (S.d.length)) (.exit 1) (exact_l_Z n T S) := by
  exact VT.run (W := [.r [] [], .br false]) (G := [.any (rg [(44, 5)]), .sort]) (by kernel_rfl) (.c (show decide ((↑S.d.length : Int) < (↑(List.map (row1 IntKind.i32) S.d).length : Int)) = false by (simp; done)) <| .n)
theorem exact_l (n : Nod) (T S : Ten) (ok : ExOk n T S) (kk : n.kd = 1 ∨ n.kd = 2 ∨ n.kd = 3) : VT Try.prog (fnC Try.f18 [1, 1, 1, 1, 1, 0, 1, 0]) (exact_l_I n T S 0) (.exit 1) (exact_l_Z n T S) :=
  VT.loop (fun k => exact_l_I n T S k) (S.d.length) (fun k hk => exact_l_s n T S ok kk k hk) (exact_l_e n T S ok kk) (by intro h; cases h)

set_option maxRecDepth 100000 in
set_option maxHeartbeats 2000000 in
theorem exact_1 (n : Nod) (T : Ten) (hk : n.kd = 1) (he : (convOf T n).2 = 0) (ok : ExOk n T (convOf T n).1) : VC Try.prog 18 ([nod n, ten .i8 T]) (bv true) := by
  have o1 := ok.okT
  have o2 := ok.okn
  have oz1 := @rcOf_v (T) (n) o1 o2
  have oz4 := @exact_l (n) (T) ((convOf T n).fst) ok (by omega)
  exact VC.run (fn := Try.f18) (W := [.r [] [], .r [] [], .r [] [], .r [] [], .br true, .r [] [.callr (rO oz1)], .r [] [], .br false, .r [] [], .r [] [], .code [.any (rg [(0, 2), (4, 1), (6, 1), (13, 11), (40, 4)]), .weak 8 (i64 (↑0 : Int)), .sort] (Exit.exit 1) (zO oz4), .r [] []]) Try.func18 (by kernel_rfl) (.c (show (n.kd == 1) = true by (refine decide_eq_true ?_; omega)) <| .c oz1 <| .c (show ((convOf T n).snd != 0) = false by (simp; omega)) <| .c (Weak.int (k := .i64) (show ((0) : Int) = ((↑0 : Int)) from (by omega))) <| .c oz4 <| .n)

set_option maxRecDepth 100000 in
set_option maxHeartbeats 2000000 in
theorem exact_2 (n : Nod) (T : Ten) (hk : n.kd = 2) (he : (depthOf T n).2 = 0) (ok : ExOk n T (depthOf T n).1) : VC Try.prog 18 ([nod n, ten .i8 T]) (bv true) := by
  have o1 := ok.okT
  have o2 := ok.okn
  have oz2 := @rdOf_v (T) (n) o1 o2
  have oz5 := @exact_l (n) (T) ((depthOf T n).fst) ok (by omega)
  exact VC.run (fn := Try.f18) (W := [.r [] [], .r [] [], .r [] [], .r [] [], .br false, .r [] [], .br true, .r [] [.callr (rO oz2)], .r [] [], .br false, .r [] [], .r [] [], .code [.any (rg [(0, 2), (4, 1), (6, 1), (13, 5), (24, 8), (40, 4)]), .weak 8 (i64 (↑0 : Int)), .sort] (Exit.exit 1) (zO oz5), .r [] []]) Try.func18 (by kernel_rfl) (.c (show (n.kd == 1) = false by (refine decide_eq_false ?_; omega)) <| .c (show (n.kd == 2) = true by (refine decide_eq_true ?_; omega)) <| .c oz2 <| .c (show ((depthOf T n).snd != 0) = false by (simp; omega)) <| .c (Weak.int (k := .i64) (show ((0) : Int) = ((↑0 : Int)) from (by omega))) <| .c oz5 <| .n)

set_option maxRecDepth 100000 in
set_option maxHeartbeats 2000000 in
theorem exact_3 (n : Nod) (T : Ten) (hk : n.kd = 3) (he : (denseOf T n).2 = 0) (ok : ExOk n T (denseOf T n).1) : VC Try.prog 18 ([nod n, ten .i8 T]) (bv true) := by
  have o1 := ok.okT
  have o2 := ok.okn
  have oz3 := @dense_v (T) (n) o1 o2
  have oz6 := @exact_l (n) (T) ((denseOf T n).fst) ok (by omega)
  exact VC.run (fn := Try.f18) (W := [.r [] [], .r [] [], .r [] [], .r [] [], .br false, .r [] [], .br false, .r [] [], .br true, .r [] [.callr (rO oz3)], .r [] [], .br false, .r [] [], .r [] [], .code [.any (rg [(0, 2), (4, 1), (6, 1), (13, 5), (24, 2), (32, 12)]), .weak 8 (i64 (↑0 : Int)), .sort] (Exit.exit 1) (zO oz6), .r [] []]) Try.func18 (by kernel_rfl) (.c (show (n.kd == 1) = false by (refine decide_eq_false ?_; omega)) <| .c (show (n.kd == 2) = false by (refine decide_eq_false ?_; omega)) <| .c (show (n.kd == 3) = true by (refine decide_eq_true ?_; omega)) <| .c oz3 <| .c (show ((denseOf T n).snd != 0) = false by (simp; omega)) <| .c (Weak.int (k := .i64) (show ((0) : Int) = ((↑0 : Int)) from (by omega))) <| .c oz6 <| .n)

noncomputable def exact_0l_I (n : Nod) (T : Ten) (k : Nat) : VS := stt 107 [(2, .ptr 2 0 0), (3, .ptr 3 0 0), (5, .ptr 5 0 0), (7, .ptr 7 0 0), (8, i64 0)] [(2, .var (nodC n)), (3, .var (tnC T)), (5, .var [i64 0, i64 0, i64 0, nilv]), (7, .var [i64 0, i64 0, i64 0])]
noncomputable def exact_0l_Z (n : Nod) (T : Ten) : VS := exact_0l_I n T (0)
set_option maxRecDepth 100000 in
set_option maxHeartbeats 2000000 in
theorem exact_0l_e (n : Nod) (T : Ten)  : VT Try.prog (fnC Try.f18 [1, 1, 1, 1, 1, 0, 1, 0, 0]) (exact_0l_I n T (0)) (.exit 1) (exact_0l_Z n T) := by
  exact VT.run (W := [.r [] [], .br false]) (G := [.any (rg [(44, 5)]), .sort]) (by kernel_rfl) (.c (show false = false by with_reducible rfl) <| .n)
theorem exact_0l (n : Nod) (T : Ten)  : VT Try.prog (fnC Try.f18 [1, 1, 1, 1, 1, 0, 1, 0]) (exact_0l_I n T 0) (.exit 1) (exact_0l_Z n T) :=
  VT.loop (fun k => exact_0l_I n T k) (0) (fun k hk => absurd hk (Nat.not_lt_zero k)) (exact_0l_e n T ) (by intro h; cases h)

set_option maxRecDepth 100000 in
set_option maxHeartbeats 2000000 in
theorem exact_0 (n : Nod) (T : Ten) (h1 : n.kd ≠ 1) (h2 : n.kd ≠ 2) (h3 : n.kd ≠ 3) : VC Try.prog 18 ([nod n, ten .i8 T]) (bv true) := by
  have oz4 := @exact_0l (n) (T)
  exact VC.run (fn := Try.f18) (W := [.r [] [], .r [] [], .r [] [], .r [] [], .br false, .r [] [], .br false, .r [] [], .br false, .r [] [], .br false, .r [] [], .r [] [], .code [.any [0, 1, 4, 6, 13, 14, 15, 16, 17, 24, 25, 32, 33, 40, 41, 42, 43], .sort] (Exit.exit 1) (zO oz4), .r [] []]) Try.func18 (by kernel_rfl) (.c (show (n.kd == 1) = false by (refine decide_eq_false ?_; omega)) <| .c (show (n.kd == 2) = false by (refine decide_eq_false ?_; omega)) <| .c (show (n.kd == 3) = false by (refine decide_eq_false ?_; omega)) <| .c (show false = false by with_reducible rfl) <| .c oz4 <| .n)
end Go.Proofs.Ytgecmooedhnenaa

/- Nothing leaves its reach, and no sum leaves 32 bits: the law, put together. No condition. -/
namespace Go.Proofs.Ytgecmooedhnenaa
open Go.RowKit
set_option linter.unusedSimpArgs false
set_option linter.unusedVariables false
set_option linter.unnecessarySimpa false

/-- What a node makes is what it is over whole numbers. -/
def ExactT (n : Nod) (T : Ten) : Prop := VC Try.prog 18 [nod n, ten .i8 T] (bv true)
structure HdOk (l : List Nod) (x : Ten) (a : Rng) : Prop where
  f8 : l.length ≤ 8
  e : 0 < l.length
  dl : ∀ k, k ≤ l.length → ((growL valE l x l.length).getD k default).d.length ≤ 1024
  lo : ∀ k, k ≤ l.length → ((growL stepR l a l.length).getD k default).lo ≤ reachLo ((growL valE l x l.length).getD k default).d ((growL valE l x l.length).getD k default).d.length
  hi : ∀ k, k ≤ l.length → reachHi ((growL valE l x l.length).getD k default).d ((growL valE l x l.length).getD k default).d.length ≤ ((growL stepR l a l.length).getD k default).hi
  na : ∀ k, k < l.length → 0 ≤ (l.getD k default).na ∧ (l.getD k default).na ≤ k
  ex : ∀ k, k < l.length → ExactT (l.getD k default) ((growL valE l x l.length).getD (l.getD k default).na.toNat default)
noncomputable def gholds_l_I (l : List Nod) (x : Ten) (a : Rng) (k : Nat) : VS := stt 116 [(0, .sl 19 (l.map nodC)), (7, .sl 2 ((growL stepR l a l.length).map rchC)), (10, .sl 4 ((growL valE l x l.length).map tnC)), (13, i64 k)] []
noncomputable def gholds_l_Z (l : List Nod) (x : Ten) (a : Rng) : VS := gholds_l_I l x a (l.length + 1)
set_option maxRecDepth 100000 in
set_option maxHeartbeats 2000000 in
theorem gholds_l_s (l : List Nod) (x : Ten) (a : Rng) (g : HdOk l x a) (k : Nat) (hk : k < l.length + 1) : VT Try.prog (fnC Try.f3 [1, 1, 1, 1, 1, 1, 1, 0, 1, 0, 0]) (gholds_l_I l x a k) .normal (gholds_l_I l x a (k + 1)) := by
  have q1 := g.lo k (by omega)
  have q2 := g.hi k (by omega)
  have q3 := g.dl k (by omega)
  have q4 := g.f8
  have q5 := g.e
  have q6 := g.na ((k : Int) - 1).toNat (by omega)
  have ex : VC Try.prog 18 [nod (l.getD ((k : Int) - 1).toNat default), ten .i8 ((growL valE l x l.length).getD (l.getD ((k : Int) - 1).toNat default).na.toNat default)] (bv true) := g.ex ((k : Int) - 1).toNat (by omega)
  have q7 : (List.map rchC (growL stepR l a l.length)).length = l.length + 1 := by rw [List.length_map, growL_len]
  have q8 : (List.map tnC (growL valE l x l.length)).length = l.length + 1 := by rw [List.length_map, growL_len]
  have oz1 := (show 0 ≤ (↑k : Int) by omega)
  have oz2 := (map_at (tnC) (default) (l := growL valE l x l.length) (i := k) (by (simp only [List.length_map] at *; omega)))
  have oz3 := @reach_v (((growL valE l x l.length).getD k default).d) (by omega)
  have oz5 := (map_at (rchC) (default) (l := growL stepR l a l.length) (i := k) (by (simp only [List.length_map] at *; omega)))
  have oz6 := (decide_eq_false (p := (reachLo ((growL valE l x l.length).getD k default).d ((growL valE l x l.length).getD k default).d.length < ((growL stepR l a l.length).getD k default).lo)) (by omega))
  have oz17 := (IntWalk.i64_in ((↑k : Int) - 1) (by omega))
  have oz18 := (show decide ((↑k : Int) > 0) = true → 0 ≤ (↑k : Int) - 1 from (fun hc0 => have gc0 : (↑k : Int) > 0 := (by first | exact hc0 | exact of_decide_eq_true hc0 | exact of_decide_eq_false hc0 | simpa [eqNums] using hc0 | (simp [eqNums] at hc0 ⊢; first | done | assumption | omega)); (by omega)))
  have oz19 := (show decide ((↑k : Int) > 0) = true → (List.map nodC l)[((↑k : Int) - 1).toNat]? = some [i64 (l.getD ((↑k : Int) - 1).toNat default).kd, i64 (l.getD ((↑k : Int) - 1).toNat default).na, i64 (l.getD ((↑k : Int) - 1).toNat default).nb, i64 (l.getD ((↑k : Int) - 1).toNat default).nk, i64 (l.getD ((↑k : Int) - 1).toNat default).ns, i64 (l.getD ((↑k : Int) - 1).toNat default).np, i64 (l.getD ((↑k : Int) - 1).toNat default).no, i8 (l.getD ((↑k : Int) - 1).toNat default).za, i8 (l.getD ((↑k : Int) - 1).toNat default).zb, AV.sl 1 (List.map (row1 IntKind.i8) (l.getD ((↑k : Int) - 1).toNat default).w), AV.sl 1 (List.map (row1 IntKind.i32) (l.getD ((↑k : Int) - 1).toNat default).b), i32 (l.getD ((↑k : Int) - 1).toNat default).qm, i64 (l.getD ((↑k : Int) - 1).toNat default).qs, i8 (l.getD ((↑k : Int) - 1).toNat default).qz, i32 (l.getD ((↑k : Int) - 1).toNat default).rm, i64 (l.getD ((↑k : Int) - 1).toNat default).rs, i8 (l.getD ((↑k : Int) - 1).toNat default).rz, i8 (l.getD ((↑k : Int) - 1).toNat default).lo, i8 (l.getD ((↑k : Int) - 1).toNat default).hi] from (fun hc0 => have gc0 : (↑k : Int) > 0 := (by first | exact hc0 | exact of_decide_eq_true hc0 | exact of_decide_eq_false hc0 | simpa [eqNums] using hc0 | (simp [eqNums] at hc0 ⊢; first | done | assumption | omega)); (map_at (nodC) (default) (l := l) (i := ((↑k : Int) - 1).toNat) (by omega))))
  have oz24 := (map_at (tnC) (default) (l := growL valE l x l.length) (i := (l.getD ((↑k : Int) - 1).toNat default).na.toNat) (by (simp only [List.length_map] at *; omega)))
  have oz25 := @ex
  exact VT.run (W := [.r [] [], .br true, .r [] [.row (sO oz2), .callr (rO oz3)], .r [] [.row (sO oz5), .br true, .br true, .br true, .br true, .row (sO oz5), .br true, .br true, .br true, .br false], .br false, .r [] [.op false, .op false, .op false, .n (nO oz17), .op true, .row [i64 (l.getD ((↑k : Int) - 1).toNat default).kd, i64 (l.getD ((↑k : Int) - 1).toNat default).na, i64 (l.getD ((↑k : Int) - 1).toNat default).nb, i64 (l.getD ((↑k : Int) - 1).toNat default).nk, i64 (l.getD ((↑k : Int) - 1).toNat default).ns, i64 (l.getD ((↑k : Int) - 1).toNat default).np, i64 (l.getD ((↑k : Int) - 1).toNat default).no, i8 (l.getD ((↑k : Int) - 1).toNat default).za, i8 (l.getD ((↑k : Int) - 1).toNat default).zb, AV.sl 1 (List.map (row1 IntKind.i8) (l.getD ((↑k : Int) - 1).toNat default).w), AV.sl 1 (List.map (row1 IntKind.i32) (l.getD ((↑k : Int) - 1).toNat default).b), i32 (l.getD ((↑k : Int) - 1).toNat default).qm, i64 (l.getD ((↑k : Int) - 1).toNat default).qs, i8 (l.getD ((↑k : Int) - 1).toNat default).qz, i32 (l.getD ((↑k : Int) - 1).toNat default).rm, i64 (l.getD ((↑k : Int) - 1).toNat default).rs, i8 (l.getD ((↑k : Int) - 1).toNat default).rz, i8 (l.getD ((↑k : Int) - 1).toNat default).lo, i8 (l.getD ((↑k : Int) - 1).toNat default).hi], .op false, .op false, .op false, .op false, .op false, .n (nO oz17), .op true, .row [i64 (l.getD ((↑k : Int) - 1).toNat default).kd, i64 (l.getD ((↑k : Int) - 1).toNat default).na, i64 (l.getD ((↑k : Int) - 1).toNat default).nb, i64 (l.getD ((↑k : Int) - 1).toNat default).nk, i64 (l.getD ((↑k : Int) - 1).toNat default).ns, i64 (l.getD ((↑k : Int) - 1).toNat default).np, i64 (l.getD ((↑k : Int) - 1).toNat default).no, i8 (l.getD ((↑k : Int) - 1).toNat default).za, i8 (l.getD ((↑k : Int) - 1).toNat default).zb, AV.sl 1 (List.map (row1 IntKind.i8) (l.getD ((↑k : Int) - 1).toNat default).w), AV.sl 1 (List.map (row1 IntKind.i32) (l.getD ((↑k : Int) - 1).toNat default).b), i32 (l.getD ((↑k : Int) - 1).toNat default).qm, i64 (l.getD ((↑k : Int) - 1).toNat default).qs, i8 (l.getD ((↑k : Int) - 1).toNat default).qz, i32 (l.getD ((↑k : Int) - 1).toNat default).rm, i64 (l.getD ((↑k : Int) - 1).toNat default).rs, i8 (l.getD ((↑k : Int) - 1).toNat default).rz, i8 (l.getD ((↑k : Int) - 1).toNat default).lo, i8 (l.getD ((↑k : Int) - 1).toNat default).hi], .op false, .op false, .op false, .row (sO oz24), .op false, .op false, .callr (rO oz25), .op false, .sel 2], .br false, .r [] [.n ((↑k : Int) + 1)]]) (G := [.any (rg [(14, 2), (64, 34), (114, 1)]), .weak 13 (i64 (↑(k + 1) : Int)), .sort]) (by kernel_rfl) (.c (decide_eq_true (p := ((↑k : Int) < (↑(List.map tnC (growL valE l x l.length)).length : Int))) (by omega)) <| .c oz1 <| .c oz2 <| .c oz3 <| .c oz1 <| .c oz5 <| .c oz6 <| .c oz6 <| .c oz6 <| .c oz6 <| .c oz1 <| .c oz5 <| .c oz6 <| .c oz6 <| .c oz6 <| .c oz6 <| .c (decide_eq_false (p := (reachHi ((growL valE l x l.length).getD k default).d ((growL valE l x l.length).getD k default).d.length > ((growL stepR l a l.length).getD k default).hi)) (by omega)) <| .c oz17 <| .c oz18 <| .c oz19 <| .c oz17 <| .c oz18 <| .c oz19 <| .c (show 0 ≤ (l.getD ((↑k : Int) - 1).toNat default).na by omega) <| .c oz24 <| .c oz25 <| .c (show (decide ((↑k : Int) > 0) && false) = false by (simp; done)) <| .c (IntWalk.i64_in ((↑k : Int) + 1) (by omega)) <| .c (Weak.int (k := .i64) (show (((↑k : Int) + 1) : Int) = ((↑(k + 1) : Int)) from (by omega))) <| .n)
set_option maxRecDepth 100000 in
set_option maxHeartbeats 2000000 in
theorem gholds_l_e (l : List Nod) (x : Ten) (a : Rng) (g : HdOk l x a) : VT Try.prog (fnC Try.f3 [1, 1, 1, 1, 1, 1, 1, 0, 1, 0, 0]) (gholds_l_I l x a (l.length + 1)) (.exit 0) (gholds_l_Z l x a) := by
  have q4 := g.f8
  have q7 : (List.map rchC (growL stepR l a l.length)).length = l.length + 1 := by rw [List.length_map, growL_len]
  have q8 : (List.map tnC (growL valE l x l.length)).length = l.length + 1 := by rw [List.length_map, growL_len]
  exact VT.run (W := [.r [] [], .br false]) (G := [.any (rg [(64, 4)]), .sort]) (by kernel_rfl) (.c (decide_eq_false (p := ((↑(l.length + 1) : Int) < (↑(List.map tnC (growL valE l x l.length)).length : Int))) (by omega)) <| .n)
theorem gholds_l (l : List Nod) (x : Ten) (a : Rng) (g : HdOk l x a) : VT Try.prog (fnC Try.f3 [1, 1, 1, 1, 1, 1, 1, 0, 1, 0]) (gholds_l_I l x a 0) (.exit 0) (gholds_l_Z l x a) :=
  VT.loop (fun k => gholds_l_I l x a k) (l.length + 1) (fun k hk => gholds_l_s l x a g k hk) (gholds_l_e l x a g) (by intro h; cases h)

set_option maxRecDepth 100000 in
set_option maxHeartbeats 2000000 in
theorem gholds_y (l : List Nod) (x : Ten) (h : fewB l x.d.length = true) (v : Vals l x) (fo : FOK l ⟨reachLo x.d x.d.length, reachHi x.d x.d.length⟩) (g : HdOk l x ⟨reachLo x.d x.d.length, reachHi x.d x.d.length⟩) : VC Try.prog 3 ([.sl 19 (l.map nodC), ten .i8 x]) (bv true) := by
  have q := few_facts h
  obtain ⟨q1, q2, q3⟩ := q
  have v1 := v.v.okl
  have v2 := v.v.wl
  have v5 := v.v
  have v6 := v.r
  have v7 := v.e
  have v8 : (⟨reachLo x.d x.d.length, reachHi x.d x.d.length⟩ : Rng).In8 := reach8 v.v.ok.d _
  have q7 : (List.map rchC (growL stepR l ⟨reachLo x.d x.d.length, reachHi x.d x.d.length⟩ l.length)).length = l.length + 1 := by rw [List.length_map, growL_len]
  have q8 : (List.map tnC (growL valE l x l.length)).length = l.length + 1 := by rw [List.length_map, growL_len]
  have oz0 := @few_v (l) (x)
  have oz2 := @reach_v (x.d) (by omega)
  have oz3 := @flow_y (l) (Rng.mk (reachLo x.d x.d.length) (reachHi x.d x.d.length)) v1 v2 v8 fo
  have oz4 := @rvals_y (l) (x) v5 v6 v7
  have oz5 := (show false = false by with_reducible rfl)
  have oz11 := @gholds_l (l) (x) (Rng.mk (reachLo x.d x.d.length) (reachHi x.d x.d.length)) g
  have oz12 := @known32_v
  exact VC.run (fn := Try.f3) (W := [.r [] [], .r [] [.callr (rO oz0)], .br false, .r [] [.callr (rO oz2)], .r [] [.callr (rO oz3)], .r [] [.callr (rO oz4)], .r [] [.br true, .br true, .br false], .br false, .r [] [], .br false, .r [] [], .code [.any (rg [(1, 1), (3, 4), (8, 2), (11, 2), (16, 4), (21, 28), (59, 5)]), .drop [3], .weak 13 (i64 (↑0 : Int)), .sort] (Exit.exit 0) (zO oz11), .r [] [.callr (rO oz12)]]) Try.func3 (by kernel_rfl) (.c oz0 <| .c (show (!fewB l x.d.length) = false by (simp; omega)) <| .c oz2 <| .c oz3 <| .c oz4 <| .c oz5 <| .c oz5 <| .c oz5 <| .c oz5 <| .c (show ((↑(List.map rchC (growL stepR l (Rng.mk (reachLo x.d x.d.length) (reachHi x.d x.d.length)) l.length)).length : Int) != (↑(List.map tnC (growL valE l x l.length)).length : Int)) = false by (simp at *; omega)) <| .c (Weak.int (k := .i64) (show ((0) : Int) = ((↑0 : Int)) from (by omega))) <| .c oz11 <| .c oz12 <| .n)

set_option maxRecDepth 100000 in
set_option maxHeartbeats 2000000 in
theorem gholds_1 (l : List Nod) (x : Ten) (h : fewB l x.d.length = true) (v : Vals l x) (hn : ¬ FOK l ⟨reachLo x.d x.d.length, reachHi x.d x.d.length⟩) : VC Try.prog 3 ([.sl 19 (l.map nodC), ten .i8 x]) (bv true) := by
  have q := few_facts h
  obtain ⟨q1, q2, q3⟩ := q
  have v1 := v.v.okl
  have v2 := v.v.wl
  have v5 := v.v
  have v6 := v.r
  have v7 := v.e
  have v8 : (⟨reachLo x.d x.d.length, reachHi x.d x.d.length⟩ : Rng).In8 := reach8 v.v.ok.d _
  have v9 := flowE_n hn
  have va : ((flowE l ⟨reachLo x.d x.d.length, reachHi x.d x.d.length⟩).2 != 0) = true := by simpa using v9
  have vb : ((flowE l ⟨reachLo x.d x.d.length, reachHi x.d x.d.length⟩).2 == 0) = false := by simpa using v9
  have oz0 := @few_v (l) (x)
  have oz2 := @reach_v (x.d) (by omega)
  have oz3 := @flow_n (l) (Rng.mk (reachLo x.d x.d.length) (reachHi x.d x.d.length)) v1 v2 v8 (by omega) hn
  have oz4 := @rvals_y (l) (x) v5 v6 v7
  have oz5 := (show ((flowE l (Rng.mk (reachLo x.d x.d.length) (reachHi x.d x.d.length))).snd != 0) = !false by (simp; omega))
  have oz8 := (show true = true by with_reducible rfl)
  have oz14 := @known32_v
  exact VC.run (fn := Try.f3) (W := [.r [] [], .r [] [.callr (rO oz0)], .br false, .r [] [.callr (rO oz2)], .r [] [.callr (rO oz3)], .r [] [.callr (rO oz4)], .r [] [.br false, .br false, .br true], .br true, .r [] [.br true, .br true, .br true, .br false, .br true, .callr (rO oz14), .br true]]) Try.func3 (by kernel_rfl) (.c oz0 <| .c (show (!fewB l x.d.length) = false by (simp; omega)) <| .c oz2 <| .c oz3 <| .c oz4 <| .c oz5 <| .c oz5 <| .c va <| .c oz8 <| .c vb <| .c vb <| .c vb <| .c vb <| .c oz8 <| .c oz14 <| .c oz8 <| .n)

set_option maxRecDepth 100000 in
set_option maxHeartbeats 2000000 in
theorem gholds_2 (l : List Nod) (x : Ten) (p c : Int) (h : fewB l x.d.length = true) (okl : ∀ n ∈ l, n.Ok) (ok : x.Ok) (hc : (c != 0) = true) (hv : VC Try.prog 17 [.sl 19 (l.map nodC), ten .i8 x] (.tup [nilv, i64 p, i64 c])) (hn : ¬ FOK l ⟨reachLo x.d x.d.length, reachHi x.d x.d.length⟩) : VC Try.prog 3 ([.sl 19 (l.map nodC), ten .i8 x]) (bv true) := by
  have q := few_facts h
  obtain ⟨q1, q2, q3⟩ := q
  have v2 := few_wide h
  have v8 : (⟨reachLo x.d x.d.length, reachHi x.d x.d.length⟩ : Rng).In8 := reach8 ok.d _
  have v9 := flowE_n hn
  have va : ((flowE l ⟨reachLo x.d x.d.length, reachHi x.d x.d.length⟩).2 != 0) = true := by simpa using v9
  have vb : ((flowE l ⟨reachLo x.d x.d.length, reachHi x.d x.d.length⟩).2 == 0) = false := by simpa using v9
  have oz0 := @few_v (l) (x)
  have oz2 := @reach_v (x.d) (by omega)
  have oz3 := @flow_n (l) (Rng.mk (reachLo x.d x.d.length) (reachHi x.d x.d.length)) okl v2 v8 (by omega) hn
  have oz4 := @hv
  have oz5 := (show ((flowE l (Rng.mk (reachLo x.d x.d.length) (reachHi x.d x.d.length))).snd != 0) = !false by (simp; omega))
  have oz8 := (show true = true by with_reducible rfl)
  have oz14 := @known32_v
  exact VC.run (fn := Try.f3) (W := [.r [] [], .r [] [.callr (rO oz0)], .br false, .r [] [.callr (rO oz2)], .r [] [.callr (rO oz3)], .r [] [.callr (rO oz4)], .r [] [.br false, .br false, .br true], .br true, .r [] [.br true, .br true, .br true, .br false, .br true, .callr (rO oz14), .br true]]) Try.func3 (by kernel_rfl) (.c oz0 <| .c (show (!fewB l x.d.length) = false by (simp; omega)) <| .c oz2 <| .c oz3 <| .c oz4 <| .c oz5 <| .c oz5 <| .c va <| .c oz8 <| .c vb <| .c vb <| .c vb <| .c vb <| .c oz8 <| .c oz14 <| .c oz8 <| .n)

set_option maxRecDepth 100000 in
set_option maxHeartbeats 2000000 in
theorem gholds_3 (l : List Nod) (x : Ten) (p c : Int) (h : fewB l x.d.length = true) (okl : ∀ n ∈ l, n.Ok) (ok : x.Ok) (hc : (c != 0) = true) (hv : VC Try.prog 17 [.sl 19 (l.map nodC), ten .i8 x] (.tup [nilv, i64 p, i64 c])) (fo : FOK l ⟨reachLo x.d x.d.length, reachHi x.d x.d.length⟩) : VC Try.prog 3 ([.sl 19 (l.map nodC), ten .i8 x]) (bv true) := by
  have q := few_facts h
  obtain ⟨q1, q2, q3⟩ := q
  have v2 := few_wide h
  have v8 : (⟨reachLo x.d x.d.length, reachHi x.d x.d.length⟩ : Rng).In8 := reach8 ok.d _
  have oz0 := @few_v (l) (x)
  have oz2 := @reach_v (x.d) (by omega)
  have oz3 := @flow_y (l) (Rng.mk (reachLo x.d x.d.length) (reachHi x.d x.d.length)) okl v2 v8 fo
  have oz4 := @hv
  have oz5 := (show false = false by with_reducible rfl)
  have oz9 := (show true = !false by (simp; done))
  have oz12 := (show true = true by with_reducible rfl)
  have oz14 := @known32_v
  exact VC.run (fn := Try.f3) (W := [.r [] [], .r [] [.callr (rO oz0)], .br false, .r [] [.callr (rO oz2)], .r [] [.callr (rO oz3)], .r [] [.callr (rO oz4)], .r [] [.br true, .br true, .br false], .br true, .r [] [.br false, .br false, .br false, .br true, .br true, .callr (rO oz14), .br true]]) Try.func3 (by kernel_rfl) (.c oz0 <| .c (show (!fewB l x.d.length) = false by (simp; omega)) <| .c oz2 <| .c oz3 <| .c oz4 <| .c oz5 <| .c oz5 <| .c oz5 <| .c hc <| .c oz9 <| .c oz9 <| .c oz9 <| .c oz12 <| .c oz12 <| .c oz14 <| .c oz12 <| .n)

set_option maxRecDepth 100000 in
set_option maxHeartbeats 2000000 in
theorem gholds_n (l : List Nod) (x : Ten) (h : fewB l x.d.length = false) : VC Try.prog 3 ([.sl 19 (l.map nodC), ten .i8 x]) (bv true) := by
  have oz0 := @few_v (l) (x)
  have oz2 := @known32_v
  exact VC.run (fn := Try.f3) (W := [.r [] [], .r [] [.callr (rO oz0)], .br true, .r [] [.callr (rO oz2)]]) Try.func3 (by kernel_rfl) (.c oz0 <| .c (show (!fewB l x.d.length) = true by (simp; omega)) <| .c oz2 <| .n)
theorem exact_v {n : Nod} {T B : Ten} {a b : Rng} (ok : T.Ok) (okn : n.Ok) (r : tenRight T = true) (he : (nodeOf n T B).2 = 0) (hg : (nodeR n a b).2 = 0) (hr : InR a T.d) : VC Try.prog 18 [nod n, ten .i8 T] (bv true) := by
  by_cases k : n.kd = 1 ∨ n.kd = 2 ∨ n.kd = 3
  · have hc : checkE n = 0 := by
      apply Classical.byContradiction; intro c
      unfold nodeOf at he; rw [if_pos c] at he; exact c he
    have es : (sumOf T n).2 = 0 := by
      apply Classical.byContradiction; intro c
      unfold nodeOf at he
      rw [if_neg (show ¬ checkE n ≠ 0 by omega), if_neg (show ¬ tenRight T = false by simp [r]), if_neg (show ¬ n.kd = 4 by omega), if_neg (show ¬ n.kd = 5 by omega), if_neg (show ¬ n.kd = 6 by omega), if_neg (show ¬ n.kd = 7 by omega), if_neg (show ¬ n.kd = 8 by omega), if_neg (show ¬ n.kd = 9 by omega), if_pos c] at he
      exact c he
    have hall : (spansN n a).all holdB = true := by
      apply Classical.byContradiction; intro c
      unfold nodeR at hg
      rw [if_neg (show ¬ checkE n ≠ 0 by omega)] at hg
      by_cases hu : a.lo > a.hi ∨ (n.kd = 6 ∧ b.lo > b.hi)
      · rw [if_pos hu] at hg; exact absurd hg (by decide)
      · rw [if_neg hu, if_pos k] at hg
        unfold sumG at hg; rw [if_neg c] at hg; exact absurd hg (by decide)
    have s := sum_sumIn ok okn r k es hr
    have ex := sum_exact s hall
    rcases k with k | k | k
    · have e : sumOf T n = convOf T n := if_pos k
      rw [e] at es s ex
      have cv := convOf_e ok okn es
      have nn := cv.n
      have ec : (convOf T n).1.c = n.no := by rw [convOf_d cv]; exact nn.sc
      exact exact_1 n T k es ⟨ok, okn, s.c1, by have := nn.o2; omega, s.x1, s.hx.2, s.ln, s.hx.1, s.l2, fun _ => ⟨cv, ec⟩, fun h => by omega, fun h => by omega, fun k hk => (ex k hk).2.2.2, fun k hk => (ex k hk).1⟩
    · have e : sumOf T n = depthOf T n := by unfold sumOf; rw [if_neg (by omega), if_pos k]
      rw [e] at es s ex
      have hd : (depthE ⟨T.h, T.x, T.c⟩ n).2 = 0 := by
        unfold depthOf at es
        rw [if_neg (by simp [r])] at es
        apply Classical.byContradiction; intro c
        rw [if_pos c] at es; exact c es
      have dk : DpOk T n := ⟨ok, okn, r, hd⟩
      have rt := tenRight.rt r
      have bl : (n.b.length : Int) = T.c := (depthE_ok hd).2.2.2.1
      have ec : (depthOf T n).1.c = T.c := by rw [s.c2]; exact bl
      exact exact_2 n T k es ⟨ok, okn, s.c1, by have := rt.c2; omega, s.x1, s.hx.2, s.ln, s.hx.1, s.l2, fun h => by omega, fun _ => ⟨dk, ec⟩, fun h => by omega, fun k hk => (ex k hk).2.2.2, fun k hk => (ex k hk).1⟩
    · have e : sumOf T n = denseOf T n := by unfold sumOf; rw [if_neg (by omega), if_neg (by omega), if_pos k]
      rw [e] at es s ex
      have hd : (denseE ⟨T.h, T.x, T.c⟩ n).2 = 0 := by
        unfold denseOf at es
        rw [if_neg (by simp [r])] at es
        apply Classical.byContradiction; intro c
        rw [if_pos c] at es; exact c es
      have dk : DnOk T n := ⟨ok, okn, r, hd⟩
      have dn := dk.n
      exact exact_3 n T k es ⟨ok, okn, s.c1, by have := s.c2; omega, s.x1, s.hx.2, s.ln, s.hx.1, s.l2, fun h => by omega, fun h => by omega, fun _ => ⟨dk, s.c2⟩, fun k hk => (ex k hk).2.2.2, fun k hk => (ex k hk).1⟩
  · exact exact_0 n T (by omega) (by omega) (by omega)
theorem flow_step {l : List Nod} {a : Rng} {k : Nat} (o : orderedB l = true) (hk : k < l.length) (e : errL stepR l a k = 0) : (nodeR (l.getD k default) (gv stepR l a (l.getD k default).na.toNat) (gv stepR l a (secN (l.getD k default)).toNat)).2 = 0 := by
  rw [← errL_step stepR_loc (ordered_there o hk)]; exact e
theorem hdOk {l : List Nod} {x : Ten} (v : Vals l x) (fo : FOK l ⟨reachLo x.d x.d.length, reachHi x.d x.d.length⟩) : HdOk l x ⟨reachLo x.d x.d.length, reachHi x.d x.d.length⟩ := by
  have o := v.v.o
  have a8 : (⟨reachLo x.d x.d.length, reachHi x.d x.d.length⟩ : Rng).In8 := reach8 v.v.ok.d _
  have r8 : ∀ k, k ≤ l.length → (gv stepR l ⟨reachLo x.d x.d.length, reachHi x.d x.d.length⟩ k).In8 := fun k hk => by
    have := flow_in (l := l) v.v.okl a8 hk
    have q := getD_in this (i := k) (by rw [growL_len]; omega)
    exact q
  have inn : ∀ d k, k = d → k ≤ l.length → InR (gv stepR l ⟨reachLo x.d x.d.length, reachHi x.d x.d.length⟩ k) (gv valE l x k).d := by
    intro d
    induction d using Nat.strongRecOn with
    | _ d ih =>
      intro k hd hk
      subst hd
      cases k with
      | zero =>
        intro u hu
        obtain ⟨i, hi, rfl⟩ := List.mem_iff_getElem.1 hu
        have hi : i < x.d.length := hi
        have := reach_in x.d x.d.length i hi
        rw [List.getD_eq_getElem?_getD, List.getElem?_eq_getElem hi] at this
        exact this
      | succ k =>
        have t := there_iff.1 (ordered_there o (k := k) hk)
        rw [gv_succ stepR_loc (ordered_there o (k := k) hk), gv_succ valE_loc (ordered_there o (k := k) hk)]
        have e1 := v.e k hk
        rw [errL_step valE_loc (ordered_there o (k := k) hk)] at e1
        have dv := v.d (v := (l.getD k default).na.toNat) (by omega)
        exact node_in dv.1 (getD_in v.v.okl hk) dv.2 e1 (flow_step o hk (fo.2.2.2 k hk)) (r8 _ (by omega)) (ih _ (by omega) _ rfl (by omega)) fun h6 => ih _ (by omega) _ rfl (by omega)
  have ne : ∀ k, k ≤ l.length → (gv valE l x k).d ≠ [] ∧ (gv valE l x k).d.length ≤ 1024 := fun k hk => by
    have rt := tenRight.rt (v.d hk).2
    have h1 := rt.h1; have x1 := rt.x1; have c1 := rt.c1; have dl := rt.dl; have el := rt.el
    have m : 1 * 1 * 1 ≤ (gv valE l x k).h * (gv valE l x k).x * (gv valE l x k).c := Int.mul_le_mul (Int.mul_le_mul h1 x1 (by omega) (by omega)) c1 (by omega) (Int.mul_nonneg (by omega) (by omega))
    exact ⟨List.length_pos_iff.1 (by omega), by omega⟩
  have eV : ∀ k, k ≤ l.length → (growL valE l x l.length).getD k default = gv valE l x k := fun k hk => growL_at l.length hk
  have eR : ∀ k, k ≤ l.length → (growL stepR l ⟨reachLo x.d x.d.length, reachHi x.d x.d.length⟩ l.length).getD k default = gv stepR l ⟨reachLo x.d x.d.length, reachHi x.d x.d.length⟩ k := fun k hk => growL_at l.length hk
  refine ⟨v.v.s.f, v.v.s.e, fun k hk => ?_, fun k hk => ?_, fun k hk => ?_, fun k hk => ?_, fun k hk => ?_⟩
  · rw [eV k hk]; exact (ne k hk).2
  · rw [eV k hk, eR k hk]; exact (reach_up (ne k hk).1 (inn k k rfl hk) _ (Nat.le_refl _)).1
  · rw [eV k hk, eR k hk]; exact (reach_up (ne k hk).1 (inn k k rfl hk) _ (Nat.le_refl _)).2.2.2
  · have t := there_iff.1 (ordered_there o hk); omega
  · have t := there_iff.1 (ordered_there o hk)
    rw [eV _ (by omega)]
    have e1 := v.e k hk
    rw [errL_step valE_loc (ordered_there o hk)] at e1
    have dv := v.d (v := (l.getD k default).na.toNat) (by omega)
    exact exact_v dv.1 (getD_in v.v.okl hk) dv.2 e1 (flow_step o hk (fo.2.2.2 k hk)) (inn _ _ rfl (by omega))
theorem guardHolds_v (l : List Nod) (x : Ten) (okl : ∀ n ∈ l, n.Ok) (ok : x.Ok) : VC Try.prog 3 [.sl 19 (l.map nodC), ten .i8 x] (bv true) := by
  cases h : fewB l x.d.length with
  | false => exact gholds_n l x h
  | true =>
    by_cases fo : FOK l ⟨reachLo x.d x.d.length, reachHi x.d x.d.length⟩
    · rcases rvals_cases l x okl (few_wide h) ok (by have := (few_facts h).1; omega) with v | ⟨p, c, h1, _, h2⟩
      · exact gholds_y l x h v fo (hdOk v fo)
      · exact gholds_3 l x p c h okl ok h1 h2 fo
    · rcases rvals_cases l x okl (few_wide h) ok (by have := (few_facts h).1; omega) with v | ⟨p, c, h1, _, h2⟩
      · exact gholds_1 l x h v fo
      · exact gholds_2 l x p c h okl ok h1 h2 fo
end Go.Proofs.Ytgecmooedhnenaa

