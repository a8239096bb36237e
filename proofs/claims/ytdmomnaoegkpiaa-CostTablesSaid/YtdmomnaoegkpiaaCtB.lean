/- What each block of a bundle costs, by the program and by the document. No condition. -/
import Derived.Test.YtdmomnaoegkpiaaCtA
import Derived.Test.YtdmomnaoegkpiaaVaM
namespace Go.Proofs.Ytdmomnaoegkpiaa
open Go.RowKit
set_option linter.unusedSimpArgs false
set_option linter.unusedVariables false
set_option linter.unnecessarySimpa false

abbrev intsC (l : List Int) : List AV := [ints .i64 l]
/-- What the blocks of a model cost, one behind the other. -/
def rowK (l : List Blc) (a : Shp) (cl : Int) : Nat → List Int
  | 0 => []
  | k + 1 => rowK l a cl k ++ [blockC (l.getD k default) (inS l a k) cl]
def tabK (u : Bun) : Nat → List (List Int)
  | 0 => []
  | k + 1 => tabK u k ++ [rowK (u.m.getD k default).l u.inp u.cl (u.m.getD k default).l.length]
theorem rowK_len (l : List Blc) (a : Shp) (cl : Int) : ∀ k, (rowK l a cl k).length = k
  | 0 => rfl
  | k + 1 => by rw [rowK, List.length_append, rowK_len l a cl k]; rfl
theorem tabK_len (u : Bun) : ∀ k, (tabK u k).length = k
  | 0 => rfl
  | k + 1 => by rw [tabK, List.length_append, tabK_len u k]; rfl
def MOK (l : List Blc) (a : Shp) : Prop := ∀ k, k < l.length → SOK (l.getD k default).n (inS l a k)
noncomputable def ctab_iy_I (u : Bun) (i : Nat) (l : List Blc) (a : Shp) (k : Nat) : VS := stt 52 [(1, .ptr 1 0 0), (4, .own 900), (7, .clo 154 [.ptr 901 0 0, .ptr 902 0 0]), (8, .own 903), (14, .sl 1 (u.m.map mdlC)), (15, i64 u.m.length), (16, i64 i), (26, .sl 5 (l.map blcC)), (27, i64 l.length), (28, i64 k)] [(1, .var (bunC u)), (900, .slc 85 1 ((tabK u i).map intsC)), (901, .var (shpC (inS l a k))), (902, .var [i64 u.cl]), (903, .slc 3 1 ((rowK l a u.cl k).map (row1 .i64)))]
noncomputable def ctab_iy_Z (u : Bun) (i : Nat) (l : List Blc) (a : Shp) : VS := ctab_iy_I u i l a (l.length)
set_option maxRecDepth 100000 in
set_option maxHeartbeats 2000000 in
theorem ctab_iy_s (u : Bun) (i : Nat) (l : List Blc) (a : Shp) (ok : ∀ d ∈ l, d.Ok) (sm : ∀ d ∈ l, d.Sm) (oka : a.Ok) (hl : l.length ≤ 8) (h : MOK l a) (k : Nat) (hk : k < l.length) : VT Try.prog (fnC Try.f33 [1, 1, 0, 1, 0, 0, 1, 1, 0, 0, 1, 1, 1, 0, 1, 0, 0]) (ctab_iy_I u i l a k) .normal (ctab_iy_I u i l a (k + 1)) := by
  have q := h k hk
  have q2 := getD_in ok hk
  have q3 := (getD_in sm hk).s
  have q4 := inS_ok (l := l) oka k
  have q5 := rowK_len l a u.cl k
  have oz2 := (map_at (blcC) (default) (l := l) (i := k) hk)
  have oz3 := @metered_y (l.getD k default) (inS l a k) (u.cl) q2 q3 q
  exact VT.run (W := [.r [] [], .br true, .r [] [.row (sO oz2)], .r [] [.callm [(901, 100000), (902, 100001)] [] (rM oz3) (oM oz3)], .r [] [], .br false, .r [] [], .r [] [.n ((↑k : Int) + 1)]]) (G := [.any (rg [(10, 3), (29, 11), (41, 5)]), .drop [10, 43], .ren 44 903, .weak 28 (i64 (↑(k + 1) : Int)), .blk 901 (Blk.var [i64 (inS l a (k + 1)).h, i64 (inS l a (k + 1)).x, i64 (inS l a (k + 1)).c]), .blk 903 (Blk.slc 3 1 (List.map (row1 IntKind.i64) (rowK l a u.cl (k + 1)))), .sort]) (by kernel_rfl) (.c (decide_eq_true (p := ((↑k : Int) < (↑l.length : Int))) (by omega)) <| .c (show 0 ≤ (↑k : Int) by omega) <| .c oz2 <| .c oz3 <| .c (show false = false by with_reducible rfl) <| .c (show ((List.map (row1 IntKind.i64) (rowK l a u.cl k)).length + 1) * 8 ≤ 140737488355328 by (simp; omega)) <| .c (show (List.map (row1 IntKind.i64) (rowK l a u.cl k)).length + 1 ≤ 9223372036854775807 by (simp; omega)) <| .c (IntWalk.i64_in ((↑k : Int) + 1) (by omega)) <| .c (Weak.int (k := .i64) (show (((↑k : Int) + 1) : Int) = ((↑(k + 1) : Int)) from (by omega))) <| .c (show BlkW (Blk.var [i64 (lastS (l.getD k default).n (inS l a k)).h, i64 (lastS (l.getD k default).n (inS l a k)).x, i64 (lastS (l.getD k default).n (inS l a k)).c]) (Blk.var [i64 (inS l a (k + 1)).h, i64 (inS l a (k + 1)).x, i64 (inS l a (k + 1)).c]) from (BlkW.var (.cons (Weak.int (show (((lastS (l.getD k default).n (inS l a k)).h) : Int) = ((inS l a (k + 1)).h) from (by rfl))) (.cons (Weak.int (show (((lastS (l.getD k default).n (inS l a k)).x) : Int) = ((inS l a (k + 1)).x) from (by rfl))) (.cons (Weak.int (show (((lastS (l.getD k default).n (inS l a k)).c) : Int) = ((inS l a (k + 1)).c) from (by rfl))) .nil))))) <| .c (show BlkW (Blk.slc 3 1 (List.map (row1 IntKind.i64) (rowK l a u.cl k) ++ [[i64 (blockC (l.getD k default) (inS l a k) u.cl)]])) (Blk.slc 3 1 (List.map (row1 IntKind.i64) (rowK l a u.cl (k + 1)))) from (BlkW.rows (rows_to (row1 IntKind.i64) (r := List.map (row1 IntKind.i64) (rowK l a u.cl k) ++ [[i64 (blockC (l.getD k default) (inS l a k) u.cl)]]) (l := rowK l a u.cl k ++ [blockC (l.getD k default) (inS l a k) u.cl]) (m := rowK l a u.cl (k + 1)) (by first | (simp only [List.map_append, List.map_cons, List.map_nil, List.map_set, List.map_replicate, List.map_take, List.map_drop]; done) | rfl | (simp only [List.map_append, List.map_cons, List.map_nil, List.map_set, List.map_replicate, List.map_take, List.map_drop]; rfl)) (show (rowK l a u.cl k ++ [blockC (l.getD k default) (inS l a k) u.cl]) = (rowK l a u.cl (k + 1)) from (by rfl))))) <| .n)
set_option maxRecDepth 100000 in
set_option maxHeartbeats 2000000 in
theorem ctab_iy_e (u : Bun) (i : Nat) (l : List Blc) (a : Shp) (ok : ∀ d ∈ l, d.Ok) (sm : ∀ d ∈ l, d.Sm) (oka : a.Ok) (hl : l.length ≤ 8) (h : MOK l a) : VT Try.prog (fnC Try.f33 [1, 1, 0, 1, 0, 0, 1, 1, 0, 0, 1, 1, 1, 0, 1, 0, 0]) (ctab_iy_I u i l a (l.length)) (.exit 2) (ctab_iy_Z u i l a) := by
  exact VT.run (W := [.r [] [], .br false]) (G := [.any [29], .sort]) (by kernel_rfl) (.c (decide_eq_false (p := ((↑l.length : Int) < (↑l.length : Int))) (by omega)) <| .n)
theorem ctab_iy (u : Bun) (i : Nat) (l : List Blc) (a : Shp) (ok : ∀ d ∈ l, d.Ok) (sm : ∀ d ∈ l, d.Sm) (oka : a.Ok) (hl : l.length ≤ 8) (h : MOK l a) : VT Try.prog (fnC Try.f33 [1, 1, 0, 1, 0, 0, 1, 1, 0, 0, 1, 1, 1, 0, 1, 0]) (ctab_iy_I u i l a 0) (.exit 2) (ctab_iy_Z u i l a) :=
  VT.loop (fun k => ctab_iy_I u i l a k) (l.length) (fun k hk => ctab_iy_s u i l a ok sm oka hl h k hk) (ctab_iy_e u i l a ok sm oka hl h) (by intro h; cases h)

noncomputable def ctab_in_I (u : Bun) (i : Nat) (l : List Blc) (a : Shp) (m : Nat) (k : Nat) : VS := stt 52 [(1, .ptr 1 0 0), (4, .own 900), (7, .clo 154 [.ptr 901 0 0, .ptr 902 0 0]), (8, .own 903), (14, .sl 1 (u.m.map mdlC)), (15, i64 u.m.length), (16, i64 i), (26, .sl 5 (l.map blcC)), (27, i64 l.length), (28, i64 k)] [(1, .var (bunC u)), (900, .slc 85 1 ((tabK u i).map intsC)), (901, .var (shpC (inS l a k))), (902, .var [i64 u.cl]), (903, .slc 3 1 ((rowK l a u.cl k).map (row1 .i64)))]
noncomputable def ctab_in_Z (u : Bun) (i : Nat) (l : List Blc) (a : Shp) (m : Nat) : VS := stt 52 [(2, nilv), (3, i64 (shapesE (l.getD m default).n (inS l a m)).2)] []
set_option maxRecDepth 100000 in
set_option maxHeartbeats 2000000 in
theorem ctab_in_s (u : Bun) (i : Nat) (l : List Blc) (a : Shp) (m : Nat) (ok : ∀ d ∈ l, d.Ok) (sm : ∀ d ∈ l, d.Sm) (oka : a.Ok) (hl : l.length ≤ 8) (hm : m < l.length) (hf : ¬ SOK (l.getD m default).n (inS l a m)) (h : ∀ k, k < m → SOK (l.getD k default).n (inS l a k)) (k : Nat) (hk : k < m) : VT Try.prog (fnC Try.f33 [1, 1, 0, 1, 0, 0, 1, 1, 0, 0, 1, 1, 1, 0, 1, 0, 0]) (ctab_in_I u i l a m k) .normal (ctab_in_I u i l a m (k + 1)) := by
  have q := h k hk
  have q2 := getD_in ok (show k < l.length by omega)
  have q3 := (getD_in sm (show k < l.length by omega)).s
  have q4 := inS_ok (l := l) oka k
  have q5 := rowK_len l a u.cl k
  have oz2 := (map_at (blcC) (default) (l := l) (i := k) (by omega))
  have oz3 := @metered_y (l.getD k default) (inS l a k) (u.cl) q2 q3 q
  exact VT.run (W := [.r [] [], .br true, .r [] [.row (sO oz2)], .r [] [.callm [(901, 100000), (902, 100001)] [] (rM oz3) (oM oz3)], .r [] [], .br false, .r [] [], .r [] [.n ((↑k : Int) + 1)]]) (G := [.any (rg [(10, 3), (29, 11), (41, 5)]), .drop [10, 43], .ren 44 903, .weak 28 (i64 (↑(k + 1) : Int)), .blk 901 (Blk.var [i64 (inS l a (k + 1)).h, i64 (inS l a (k + 1)).x, i64 (inS l a (k + 1)).c]), .blk 903 (Blk.slc 3 1 (List.map (row1 IntKind.i64) (rowK l a u.cl (k + 1)))), .sort]) (by kernel_rfl) (.c (decide_eq_true (p := ((↑k : Int) < (↑l.length : Int))) (by omega)) <| .c (show 0 ≤ (↑k : Int) by omega) <| .c oz2 <| .c oz3 <| .c (show false = false by with_reducible rfl) <| .c (show ((List.map (row1 IntKind.i64) (rowK l a u.cl k)).length + 1) * 8 ≤ 140737488355328 by (simp; omega)) <| .c (show (List.map (row1 IntKind.i64) (rowK l a u.cl k)).length + 1 ≤ 9223372036854775807 by (simp; omega)) <| .c (IntWalk.i64_in ((↑k : Int) + 1) (by omega)) <| .c (Weak.int (k := .i64) (show (((↑k : Int) + 1) : Int) = ((↑(k + 1) : Int)) from (by omega))) <| .c (show BlkW (Blk.var [i64 (lastS (l.getD k default).n (inS l a k)).h, i64 (lastS (l.getD k default).n (inS l a k)).x, i64 (lastS (l.getD k default).n (inS l a k)).c]) (Blk.var [i64 (inS l a (k + 1)).h, i64 (inS l a (k + 1)).x, i64 (inS l a (k + 1)).c]) from (BlkW.var (.cons (Weak.int (show (((lastS (l.getD k default).n (inS l a k)).h) : Int) = ((inS l a (k + 1)).h) from (by rfl))) (.cons (Weak.int (show (((lastS (l.getD k default).n (inS l a k)).x) : Int) = ((inS l a (k + 1)).x) from (by rfl))) (.cons (Weak.int (show (((lastS (l.getD k default).n (inS l a k)).c) : Int) = ((inS l a (k + 1)).c) from (by rfl))) .nil))))) <| .c (show BlkW (Blk.slc 3 1 (List.map (row1 IntKind.i64) (rowK l a u.cl k) ++ [[i64 (blockC (l.getD k default) (inS l a k) u.cl)]])) (Blk.slc 3 1 (List.map (row1 IntKind.i64) (rowK l a u.cl (k + 1)))) from (BlkW.rows (rows_to (row1 IntKind.i64) (r := List.map (row1 IntKind.i64) (rowK l a u.cl k) ++ [[i64 (blockC (l.getD k default) (inS l a k) u.cl)]]) (l := rowK l a u.cl k ++ [blockC (l.getD k default) (inS l a k) u.cl]) (m := rowK l a u.cl (k + 1)) (by first | (simp only [List.map_append, List.map_cons, List.map_nil, List.map_set, List.map_replicate, List.map_take, List.map_drop]; done) | rfl | (simp only [List.map_append, List.map_cons, List.map_nil, List.map_set, List.map_replicate, List.map_take, List.map_drop]; rfl)) (show (rowK l a u.cl k ++ [blockC (l.getD k default) (inS l a k) u.cl]) = (rowK l a u.cl (k + 1)) from (by rfl))))) <| .n)
set_option maxRecDepth 100000 in
set_option maxHeartbeats 2000000 in
theorem ctab_in_e (u : Bun) (i : Nat) (l : List Blc) (a : Shp) (m : Nat) (ok : ∀ d ∈ l, d.Ok) (sm : ∀ d ∈ l, d.Sm) (oka : a.Ok) (hl : l.length ≤ 8) (hm : m < l.length) (hf : ¬ SOK (l.getD m default).n (inS l a m)) (h : ∀ k, k < m → SOK (l.getD k default).n (inS l a k)) : VT Try.prog (fnC Try.f33 [1, 1, 0, 1, 0, 0, 1, 1, 0, 0, 1, 1, 1, 0, 1, 0, 0]) (ctab_in_I u i l a m (m)) (.ret) (ctab_in_Z u i l a m) := by
  have q2 := getD_in ok hm
  have q3 := (getD_in sm hm).s
  have q9 := (getD_in sm hm).l
  have q4 := inS_ok (l := l) oka m
  have q6 := shapesE_n hf
  have oz2 := (map_at (blcC) (default) (l := l) (i := m) hm)
  have oz3 := @metered_n (l.getD m default) (inS l a m) (u.cl) q2 q4 q9 q3 hf
  exact VT.run (W := [.r [] [], .br true, .r [] [.row (sO oz2)], .r [] [.callm [(901, 100000), (902, 100001)] [] (rM oz3) (oM oz3)], .r [] [], .br true, .r [] []]) (G := [.any (rg [(1, 1), (4, 1), (7, 2), (10, 3), (14, 3), (26, 15)]), .drop [1, 900, 903, 10, 901, 902], .sort]) (by kernel_rfl) (.c (decide_eq_true (p := ((↑m : Int) < (↑l.length : Int))) (by omega)) <| .c (show 0 ≤ (↑m : Int) by omega) <| .c oz2 <| .c oz3 <| .c (show ((shapesE (l.getD m default).n (inS l a m)).snd != 0) = true by (simp at *; omega)) <| .n)
theorem ctab_in (u : Bun) (i : Nat) (l : List Blc) (a : Shp) (m : Nat) (ok : ∀ d ∈ l, d.Ok) (sm : ∀ d ∈ l, d.Sm) (oka : a.Ok) (hl : l.length ≤ 8) (hm : m < l.length) (hf : ¬ SOK (l.getD m default).n (inS l a m)) (h : ∀ k, k < m → SOK (l.getD k default).n (inS l a k)) : VT Try.prog (fnC Try.f33 [1, 1, 0, 1, 0, 0, 1, 1, 0, 0, 1, 1, 1, 0, 1, 0]) (ctab_in_I u i l a m 0) (.ret) (ctab_in_Z u i l a m) :=
  VT.loop (fun k => ctab_in_I u i l a m k) (m) (fun k hk => ctab_in_s u i l a m ok sm oka hl hm hf h k hk) (ctab_in_e u i l a m ok sm oka hl hm hf h) (by intro h; cases h)

noncomputable def ctab_oy_I (u : Bun) (k : Nat) : VS := stt 52 [(1, .ptr 1 0 0), (4, .own 900), (14, .sl 1 (u.m.map mdlC)), (15, i64 u.m.length), (16, i64 k)] [(1, .var (bunC u)), (900, .slc 85 1 ((tabK u k).map intsC))]
noncomputable def ctab_oy_Z (u : Bun) : VS := ctab_oy_I u (u.m.length)
set_option maxRecDepth 100000 in
set_option maxHeartbeats 2000000 in
theorem ctab_oy_s (u : Bun) (ok : u.Ok) (sm : u.Sm) (h : ∀ j, j < u.m.length → MOK (u.m.getD j default).l u.inp) (k : Nat) (hk : k < u.m.length) : VT Try.prog (fnC Try.f33 [1, 1, 0, 1, 0, 0]) (ctab_oy_I u k) .normal (ctab_oy_I u (k + 1)) := by
  have q1 := h k hk
  have q2 := (getD_in ok.m hk).l
  have q3 := (getD_in sm.m hk).2
  have q4 := (getD_in sm.m hk).1
  have q5 := sm.l
  have q6 : u.inp.Ok := ⟨ok.h, ok.x, ok.c⟩
  have q7 := tabK_len u k
  have oz2 := (map_at (mdlC) (default) (l := u.m) (i := k) hk)
  have oz3 := @meter_v (Shp.mk u.h u.x u.c) (u.cl)
  have oz4 := (Weak.int (k := .i64) (show (((↑(List.map blcC (u.m.getD k default).l).length : Int)) : Int) = ((↑(u.m.getD k default).l.length : Int)) from (by (simp; done))))
  have oz6 := @ctab_iy (u) (k) ((u.m.getD k default).l) (Shp.mk u.1 u.2 u.3) q2 q3 q6 q4 q1
  exact VT.run (W := [.r [] [], .br true, .r [] [.row (sO oz2)], .r [] [.callm [] [(950, 20000), (951, 20001)] (rM oz3) (oM oz3)], .r [] [], .r [] [], .code [.any (rg [(6, 1), (17, 9)]), .drop [6], .ren 20001 902, .ren 20000 901, .weak 27 (wO oz4), .weak 28 (i64 (↑0 : Int)), .nils 8 903 3 1, .sort] (Exit.exit 2) (zO oz6), .r [.frz 903] [], .r [] [.n ((↑k : Int) + 1)]]) (G := [.any (rg [(7, 2), (26, 3), (46, 5)]), .drop [901, 902, 48], .ren 49 900, .weak 16 (i64 (↑(k + 1) : Int)), .blk 900 (Blk.slc 85 1 (List.map intsC (tabK u (k + 1)))), .sort]) (by kernel_rfl) (.c (decide_eq_true (p := ((↑k : Int) < (↑u.m.length : Int))) (by omega)) <| .c (show 0 ≤ (↑k : Int) by omega) <| .c oz2 <| .c oz3 <| .c oz4 <| .c (Weak.int (k := .i64) (show ((0) : Int) = ((↑0 : Int)) from (by omega))) <| .c oz6 <| .c (show ((List.map intsC (tabK u k)).length + 1) * 24 ≤ 140737488355328 by (simp; omega)) <| .c (show (List.map intsC (tabK u k)).length + 1 ≤ 9223372036854775807 by (simp; omega)) <| .c (IntWalk.i64_in ((↑k : Int) + 1) (by omega)) <| .c (Weak.int (k := .i64) (show (((↑k : Int) + 1) : Int) = ((↑(k + 1) : Int)) from (by omega))) <| .c (show BlkW (Blk.slc 85 1 (List.map intsC (tabK u k) ++ [[AV.sl 1 (List.map (row1 IntKind.i64) (rowK (u.m.getD k default).l (Shp.mk u.1 u.2 u.3) u.cl (u.m.getD k default).l.length))]])) (Blk.slc 85 1 (List.map intsC (tabK u (k + 1)))) from (BlkW.rows (rows_to (intsC) (r := List.map intsC (tabK u k) ++ [[AV.sl 1 (List.map (row1 IntKind.i64) (rowK (u.m.getD k default).l (Shp.mk u.1 u.2 u.3) u.cl (u.m.getD k default).l.length))]]) (l := tabK u k ++ [rowK (u.m.getD k default).l (Shp.mk u.1 u.2 u.3) u.cl (u.m.getD k default).l.length]) (m := tabK u (k + 1)) (by first | (simp only [List.map_append, List.map_cons, List.map_nil, List.map_set, List.map_replicate, List.map_take, List.map_drop]; done) | rfl | (simp only [List.map_append, List.map_cons, List.map_nil, List.map_set, List.map_replicate, List.map_take, List.map_drop]; rfl) | (simp only [List.map_append, List.map_cons, List.map_nil, List.map_set, List.map_replicate, List.map_take, List.map_drop, intsC]; done)) (show (tabK u k ++ [rowK (u.m.getD k default).l (Shp.mk u.1 u.2 u.3) u.cl (u.m.getD k default).l.length]) = (tabK u (k + 1)) from (by rfl))))) <| .n)
set_option maxRecDepth 100000 in
set_option maxHeartbeats 2000000 in
theorem ctab_oy_e (u : Bun) (ok : u.Ok) (sm : u.Sm) (h : ∀ j, j < u.m.length → MOK (u.m.getD j default).l u.inp) : VT Try.prog (fnC Try.f33 [1, 1, 0, 1, 0, 0]) (ctab_oy_I u (u.m.length)) (.exit 0) (ctab_oy_Z u) := by
  exact VT.run (W := [.r [] [], .br false]) (G := [.any [17], .sort]) (by kernel_rfl) (.c (decide_eq_false (p := ((↑u.m.length : Int) < (↑u.m.length : Int))) (by omega)) <| .n)
theorem ctab_oy (u : Bun) (ok : u.Ok) (sm : u.Sm) (h : ∀ j, j < u.m.length → MOK (u.m.getD j default).l u.inp) : VT Try.prog (fnC Try.f33 [1, 1, 0, 1, 0]) (ctab_oy_I u 0) (.exit 0) (ctab_oy_Z u) :=
  VT.loop (fun k => ctab_oy_I u k) (u.m.length) (fun k hk => ctab_oy_s u ok sm h k hk) (ctab_oy_e u ok sm h) (by intro h; cases h)

noncomputable def ctab_on_I (u : Bun) (m i : Nat) (k : Nat) : VS := stt 52 [(1, .ptr 1 0 0), (4, .own 900), (14, .sl 1 (u.m.map mdlC)), (15, i64 u.m.length), (16, i64 k)] [(1, .var (bunC u)), (900, .slc 85 1 ((tabK u k).map intsC))]
noncomputable def ctab_on_Z (u : Bun) (m i : Nat) : VS := stt 52 [(2, nilv), (3, i64 (shapesE ((u.m.getD m default).l.getD i default).n (inS (u.m.getD m default).l u.inp i)).2)] []
set_option maxRecDepth 100000 in
set_option maxHeartbeats 2000000 in
theorem ctab_on_s (u : Bun) (m i : Nat) (ok : u.Ok) (sm : u.Sm) (hm : m < u.m.length) (hi : i < (u.m.getD m default).l.length) (hf : ¬ SOK ((u.m.getD m default).l.getD i default).n (inS (u.m.getD m default).l u.inp i)) (hb : ∀ k, k < i → SOK ((u.m.getD m default).l.getD k default).n (inS (u.m.getD m default).l u.inp k)) (h : ∀ j, j < m → MOK (u.m.getD j default).l u.inp) (k : Nat) (hk : k < m) : VT Try.prog (fnC Try.f33 [1, 1, 0, 1, 0, 0]) (ctab_on_I u m i k) .normal (ctab_on_I u m i (k + 1)) := by
  have q1 := h k hk
  have q2 := (getD_in ok.m (show k < u.m.length by omega)).l
  have q3 := (getD_in sm.m (show k < u.m.length by omega)).2
  have q4 := (getD_in sm.m (show k < u.m.length by omega)).1
  have q5 := sm.l
  have q6 : u.inp.Ok := ⟨ok.h, ok.x, ok.c⟩
  have q7 := tabK_len u k
  have oz2 := (map_at (mdlC) (default) (l := u.m) (i := k) (by omega))
  have oz3 := @meter_v (Shp.mk u.h u.x u.c) (u.cl)
  have oz4 := (Weak.int (k := .i64) (show (((↑(List.map blcC (u.m.getD k default).l).length : Int)) : Int) = ((↑(u.m.getD k default).l.length : Int)) from (by (simp; done))))
  have oz6 := @ctab_iy (u) (k) ((u.m.getD k default).l) (Shp.mk u.1 u.2 u.3) q2 q3 q6 q4 q1
  exact VT.run (W := [.r [] [], .br true, .r [] [.row (sO oz2)], .r [] [.callm [] [(950, 20000), (951, 20001)] (rM oz3) (oM oz3)], .r [] [], .r [] [], .code [.any (rg [(6, 1), (17, 9)]), .drop [6], .ren 20001 902, .ren 20000 901, .weak 27 (wO oz4), .weak 28 (i64 (↑0 : Int)), .nils 8 903 3 1, .sort] (Exit.exit 2) (zO oz6), .r [.frz 903] [], .r [] [.n ((↑k : Int) + 1)]]) (G := [.any (rg [(7, 2), (26, 3), (46, 5)]), .drop [901, 902, 48], .ren 49 900, .weak 16 (i64 (↑(k + 1) : Int)), .blk 900 (Blk.slc 85 1 (List.map intsC (tabK u (k + 1)))), .sort]) (by kernel_rfl) (.c (decide_eq_true (p := ((↑k : Int) < (↑u.m.length : Int))) (by omega)) <| .c (show 0 ≤ (↑k : Int) by omega) <| .c oz2 <| .c oz3 <| .c oz4 <| .c (Weak.int (k := .i64) (show ((0) : Int) = ((↑0 : Int)) from (by omega))) <| .c oz6 <| .c (show ((List.map intsC (tabK u k)).length + 1) * 24 ≤ 140737488355328 by (simp; omega)) <| .c (show (List.map intsC (tabK u k)).length + 1 ≤ 9223372036854775807 by (simp; omega)) <| .c (IntWalk.i64_in ((↑k : Int) + 1) (by omega)) <| .c (Weak.int (k := .i64) (show (((↑k : Int) + 1) : Int) = ((↑(k + 1) : Int)) from (by omega))) <| .c (show BlkW (Blk.slc 85 1 (List.map intsC (tabK u k) ++ [[AV.sl 1 (List.map (row1 IntKind.i64) (rowK (u.m.getD k default).l (Shp.mk u.1 u.2 u.3) u.cl (u.m.getD k default).l.length))]])) (Blk.slc 85 1 (List.map intsC (tabK u (k + 1)))) from (BlkW.rows (rows_to (intsC) (r := List.map intsC (tabK u k) ++ [[AV.sl 1 (List.map (row1 IntKind.i64) (rowK (u.m.getD k default).l (Shp.mk u.1 u.2 u.3) u.cl (u.m.getD k default).l.length))]]) (l := tabK u k ++ [rowK (u.m.getD k default).l (Shp.mk u.1 u.2 u.3) u.cl (u.m.getD k default).l.length]) (m := tabK u (k + 1)) (by first | (simp only [List.map_append, List.map_cons, List.map_nil, List.map_set, List.map_replicate, List.map_take, List.map_drop]; done) | rfl | (simp only [List.map_append, List.map_cons, List.map_nil, List.map_set, List.map_replicate, List.map_take, List.map_drop]; rfl) | (simp only [List.map_append, List.map_cons, List.map_nil, List.map_set, List.map_replicate, List.map_take, List.map_drop, intsC]; done)) (show (tabK u k ++ [rowK (u.m.getD k default).l (Shp.mk u.1 u.2 u.3) u.cl (u.m.getD k default).l.length]) = (tabK u (k + 1)) from (by rfl))))) <| .n)
set_option maxRecDepth 100000 in
set_option maxHeartbeats 2000000 in
theorem ctab_on_e (u : Bun) (m i : Nat) (ok : u.Ok) (sm : u.Sm) (hm : m < u.m.length) (hi : i < (u.m.getD m default).l.length) (hf : ¬ SOK ((u.m.getD m default).l.getD i default).n (inS (u.m.getD m default).l u.inp i)) (hb : ∀ k, k < i → SOK ((u.m.getD m default).l.getD k default).n (inS (u.m.getD m default).l u.inp k)) (h : ∀ j, j < m → MOK (u.m.getD j default).l u.inp) : VT Try.prog (fnC Try.f33 [1, 1, 0, 1, 0, 0]) (ctab_on_I u m i (m)) (.ret) (ctab_on_Z u m i) := by
  have q2 := (getD_in ok.m hm).l
  have q3 := (getD_in sm.m hm).2
  have q4 := (getD_in sm.m hm).1
  have q5 := sm.l
  have q6 : u.inp.Ok := ⟨ok.h, ok.x, ok.c⟩
  have oz2 := (map_at (mdlC) (default) (l := u.m) (i := m) hm)
  have oz3 := @meter_v (Shp.mk u.h u.x u.c) (u.cl)
  have oz4 := (Weak.int (k := .i64) (show (((↑(List.map blcC (u.m.getD m default).l).length : Int)) : Int) = ((↑(u.m.getD m default).l.length : Int)) from (by (simp; done))))
  have oz6 := @ctab_in (u) (m) ((u.m.getD m default).l) (Shp.mk u.1 u.2 u.3) (i) q2 q3 q6 q4 hi hf hb
  exact VT.run (W := [.r [] [], .br true, .r [] [.row (sO oz2)], .r [] [.callm [] [(950, 20000), (951, 20001)] (rM oz3) (oM oz3)], .r [] [], .r [] [], .code [.any (rg [(6, 1), (17, 9)]), .drop [6], .ren 20001 902, .ren 20000 901, .weak 27 (wO oz4), .weak 28 (i64 (↑0 : Int)), .nils 8 903 3 1, .sort] (Exit.ret) (zO oz6)]) (G := [.sort]) (by kernel_rfl) (.c (decide_eq_true (p := ((↑m : Int) < (↑u.m.length : Int))) (by omega)) <| .c (show 0 ≤ (↑m : Int) by omega) <| .c oz2 <| .c oz3 <| .c oz4 <| .c (Weak.int (k := .i64) (show ((0) : Int) = ((↑0 : Int)) from (by omega))) <| .c oz6 <| .n)
theorem ctab_on (u : Bun) (m i : Nat) (ok : u.Ok) (sm : u.Sm) (hm : m < u.m.length) (hi : i < (u.m.getD m default).l.length) (hf : ¬ SOK ((u.m.getD m default).l.getD i default).n (inS (u.m.getD m default).l u.inp i)) (hb : ∀ k, k < i → SOK ((u.m.getD m default).l.getD k default).n (inS (u.m.getD m default).l u.inp k)) (h : ∀ j, j < m → MOK (u.m.getD j default).l u.inp) : VT Try.prog (fnC Try.f33 [1, 1, 0, 1, 0]) (ctab_on_I u m i 0) (.ret) (ctab_on_Z u m i) :=
  VT.loop (fun k => ctab_on_I u m i k) (m) (fun k hk => ctab_on_s u m i ok sm hm hi hf hb h k hk) (ctab_on_e u m i ok sm hm hi hf hb h) (by intro h; cases h)

set_option maxRecDepth 100000 in
set_option maxHeartbeats 2000000 in
theorem ctab_y (u : Bun) (ok : u.Ok) (sm : u.Sm) (h : ∀ j, j < u.m.length → MOK (u.m.getD j default).l u.inp) : VC Try.prog 33 ([bun u]) (.tup [.sl 1 ((tabK u u.m.length).map intsC), i64 0]) := by
  have q5 := sm.l
  have oz2 := @ctab_oy (u) ok sm h
  exact VC.run (fn := Try.f33) (W := [.r [] [], .r [] [], .r [] [], .code [.any [0, 2, 3, 13], .weak 15 (i64 (↑u.m.length : Int)), .weak 16 (i64 (↑0 : Int)), .nils 4 900 85 1, .sort] (Exit.exit 0) (zO oz2), .r [] []]) Try.func33 (by kernel_rfl) (.c (Weak.int (k := .i64) (show (((↑(List.map mdlC u.m).length : Int)) : Int) = ((↑u.m.length : Int)) from (by (simp; done)))) <| .c (Weak.int (k := .i64) (show ((0) : Int) = ((↑0 : Int)) from (by omega))) <| .c oz2 <| .n)

set_option maxRecDepth 100000 in
set_option maxHeartbeats 2000000 in
theorem ctab_n (u : Bun) (m i : Nat) (ok : u.Ok) (sm : u.Sm) (hm : m < u.m.length) (hi : i < (u.m.getD m default).l.length) (hf : ¬ SOK ((u.m.getD m default).l.getD i default).n (inS (u.m.getD m default).l u.inp i)) (hb : ∀ k, k < i → SOK ((u.m.getD m default).l.getD k default).n (inS (u.m.getD m default).l u.inp k)) (h : ∀ j, j < m → MOK (u.m.getD j default).l u.inp) : VC Try.prog 33 ([bun u]) (.tup [nilv, i64 (shapesE ((u.m.getD m default).l.getD i default).n (inS (u.m.getD m default).l u.inp i)).2]) := by
  have q5 := sm.l
  have oz2 := @ctab_on (u) (m) (i) ok sm hm hi hf hb h
  exact VC.run (fn := Try.f33) (W := [.r [] [], .r [] [], .r [] [], .code [.any [0, 2, 3, 13], .weak 15 (i64 (↑u.m.length : Int)), .weak 16 (i64 (↑0 : Int)), .nils 4 900 85 1, .sort] (Exit.ret) (zO oz2)]) Try.func33 (by kernel_rfl) (.c (Weak.int (k := .i64) (show (((↑(List.map mdlC u.m).length : Int)) : Int) = ((↑u.m.length : Int)) from (by (simp; done)))) <| .c (Weak.int (k := .i64) (show ((0) : Int) = ((↑0 : Int)) from (by omega))) <| .c oz2 <| .n)

noncomputable def rtab_iy_I (u : Bun) (i : Nat) (l : List Blc) (a : Shp) (k : Nat) : VS := stt 59 [(1, .ptr 1 0 0), (4, .own 900), (5, i64 i), (6, .own 903), (7, .ptr 7 0 0), (8, .sl 5 (l.map blcC)), (9, i64 k)] [(1, .var (bunC u)), (7, .var (shpC (inS l a k))), (900, .slc 85 1 ((tabK u i).map intsC)), (903, .slc 3 1 ((rowK l a u.cl k).map (row1 .i64)))]
noncomputable def rtab_iy_Z (u : Bun) (i : Nat) (l : List Blc) (a : Shp) : VS := rtab_iy_I u i l a (l.length)
set_option maxRecDepth 100000 in
set_option maxHeartbeats 2000000 in
theorem rtab_iy_s (u : Bun) (i : Nat) (l : List Blc) (a : Shp) (ok : ∀ d ∈ l, d.Ok) (sm : ∀ d ∈ l, d.Sm) (oka : a.Ok) (hl : l.length ≤ 8) (h : MOK l a) (k : Nat) (hk : k < l.length) : VT Try.prog (fnC Try.f34 [1, 1, 0, 1, 0, 0, 1, 0, 0, 1, 1, 1, 0, 1, 0, 0]) (rtab_iy_I u i l a k) .normal (rtab_iy_I u i l a (k + 1)) := by
  have q := h k hk
  have q2 := getD_in ok hk
  have q3 := (getD_in sm hk).s
  have q4 := inS_ok (l := l) oka k
  have q5 := rowK_len l a u.cl k
  have oz2 := (map_at (blcC) (default) (l := l) (i := k) hk)
  have oz3 := @rcblock_y (l.getD k default) (inS l a k) (u.cl) q2 q3 q
  exact VT.run (W := [.r [] [], .br true, .r [] [.row (sO oz2), .callr (rO oz3)], .r [] [], .br false, .r [] [], .r [] [], .r [] [.n ((↑k : Int) + 1)]]) (G := [.any (rg [(10, 3), (28, 20), (49, 5)]), .drop [11, 51], .ren 52 903, .weak 9 (i64 (↑(k + 1) : Int)), .blk 7 (Blk.var [i64 (inS l a (k + 1)).h, i64 (inS l a (k + 1)).x, i64 (inS l a (k + 1)).c]), .blk 903 (Blk.slc 3 1 (List.map (row1 IntKind.i64) (rowK l a u.cl (k + 1)))), .sort]) (by kernel_rfl) (.c (show decide ((↑k : Int) < (↑(List.map blcC l).length : Int)) = true by (simp; omega)) <| .c (show 0 ≤ (↑k : Int) by omega) <| .c oz2 <| .c oz3 <| .c (show false = false by with_reducible rfl) <| .c (show ((List.map (row1 IntKind.i64) (rowK l a u.cl k)).length + 1) * 8 ≤ 140737488355328 by (simp; omega)) <| .c (show (List.map (row1 IntKind.i64) (rowK l a u.cl k)).length + 1 ≤ 9223372036854775807 by (simp; omega)) <| .c (IntWalk.i64_in ((↑k : Int) + 1) (by omega)) <| .c (Weak.int (k := .i64) (show (((↑k : Int) + 1) : Int) = ((↑(k + 1) : Int)) from (by omega))) <| .c (show BlkW (Blk.var [i64 (lastS (l.getD k default).n (inS l a k)).h, i64 (lastS (l.getD k default).n (inS l a k)).x, i64 (lastS (l.getD k default).n (inS l a k)).c]) (Blk.var [i64 (inS l a (k + 1)).h, i64 (inS l a (k + 1)).x, i64 (inS l a (k + 1)).c]) from (BlkW.var (.cons (Weak.int (show (((lastS (l.getD k default).n (inS l a k)).h) : Int) = ((inS l a (k + 1)).h) from (by rfl))) (.cons (Weak.int (show (((lastS (l.getD k default).n (inS l a k)).x) : Int) = ((inS l a (k + 1)).x) from (by rfl))) (.cons (Weak.int (show (((lastS (l.getD k default).n (inS l a k)).c) : Int) = ((inS l a (k + 1)).c) from (by rfl))) .nil))))) <| .c (show BlkW (Blk.slc 3 1 (List.map (row1 IntKind.i64) (rowK l a u.cl k) ++ [[i64 (blockC (l.getD k default) (inS l a k) u.cl)]])) (Blk.slc 3 1 (List.map (row1 IntKind.i64) (rowK l a u.cl (k + 1)))) from (BlkW.rows (rows_to (row1 IntKind.i64) (r := List.map (row1 IntKind.i64) (rowK l a u.cl k) ++ [[i64 (blockC (l.getD k default) (inS l a k) u.cl)]]) (l := rowK l a u.cl k ++ [blockC (l.getD k default) (inS l a k) u.cl]) (m := rowK l a u.cl (k + 1)) (by first | (simp only [List.map_append, List.map_cons, List.map_nil, List.map_set, List.map_replicate, List.map_take, List.map_drop]; done) | rfl | (simp only [List.map_append, List.map_cons, List.map_nil, List.map_set, List.map_replicate, List.map_take, List.map_drop]; rfl)) (show (rowK l a u.cl k ++ [blockC (l.getD k default) (inS l a k) u.cl]) = (rowK l a u.cl (k + 1)) from (by rfl))))) <| .n)
set_option maxRecDepth 100000 in
set_option maxHeartbeats 2000000 in
theorem rtab_iy_e (u : Bun) (i : Nat) (l : List Blc) (a : Shp) (ok : ∀ d ∈ l, d.Ok) (sm : ∀ d ∈ l, d.Sm) (oka : a.Ok) (hl : l.length ≤ 8) (h : MOK l a) : VT Try.prog (fnC Try.f34 [1, 1, 0, 1, 0, 0, 1, 0, 0, 1, 1, 1, 0, 1, 0, 0]) (rtab_iy_I u i l a (l.length)) (.exit 2) (rtab_iy_Z u i l a) := by
  exact VT.run (W := [.r [] [], .br false]) (G := [.any (rg [(28, 4)]), .sort]) (by kernel_rfl) (.c (show decide ((↑l.length : Int) < (↑(List.map blcC l).length : Int)) = false by (simp; done)) <| .n)
theorem rtab_iy (u : Bun) (i : Nat) (l : List Blc) (a : Shp) (ok : ∀ d ∈ l, d.Ok) (sm : ∀ d ∈ l, d.Sm) (oka : a.Ok) (hl : l.length ≤ 8) (h : MOK l a) : VT Try.prog (fnC Try.f34 [1, 1, 0, 1, 0, 0, 1, 0, 0, 1, 1, 1, 0, 1, 0]) (rtab_iy_I u i l a 0) (.exit 2) (rtab_iy_Z u i l a) :=
  VT.loop (fun k => rtab_iy_I u i l a k) (l.length) (fun k hk => rtab_iy_s u i l a ok sm oka hl h k hk) (rtab_iy_e u i l a ok sm oka hl h) (by intro h; cases h)

noncomputable def rtab_in_I (u : Bun) (i : Nat) (l : List Blc) (a : Shp) (m : Nat) (k : Nat) : VS := stt 59 [(1, .ptr 1 0 0), (4, .own 900), (5, i64 i), (6, .own 903), (7, .ptr 7 0 0), (8, .sl 5 (l.map blcC)), (9, i64 k)] [(1, .var (bunC u)), (7, .var (shpC (inS l a k))), (900, .slc 85 1 ((tabK u i).map intsC)), (903, .slc 3 1 ((rowK l a u.cl k).map (row1 .i64)))]
noncomputable def rtab_in_Z (u : Bun) (i : Nat) (l : List Blc) (a : Shp) (m : Nat) : VS := stt 59 [(2, nilv), (3, i64 (shapesE (l.getD m default).n (inS l a m)).2)] []
set_option maxRecDepth 100000 in
set_option maxHeartbeats 2000000 in
theorem rtab_in_s (u : Bun) (i : Nat) (l : List Blc) (a : Shp) (m : Nat) (ok : ∀ d ∈ l, d.Ok) (sm : ∀ d ∈ l, d.Sm) (oka : a.Ok) (hl : l.length ≤ 8) (hm : m < l.length) (hf : ¬ SOK (l.getD m default).n (inS l a m)) (h : ∀ k, k < m → SOK (l.getD k default).n (inS l a k)) (k : Nat) (hk : k < m) : VT Try.prog (fnC Try.f34 [1, 1, 0, 1, 0, 0, 1, 0, 0, 1, 1, 1, 0, 1, 0, 0]) (rtab_in_I u i l a m k) .normal (rtab_in_I u i l a m (k + 1)) := by
  have q := h k hk
  have q2 := getD_in ok (show k < l.length by omega)
  have q3 := (getD_in sm (show k < l.length by omega)).s
  have q4 := inS_ok (l := l) oka k
  have q5 := rowK_len l a u.cl k
  have oz2 := (map_at (blcC) (default) (l := l) (i := k) (by omega))
  have oz3 := @rcblock_y (l.getD k default) (inS l a k) (u.cl) q2 q3 q
  exact VT.run (W := [.r [] [], .br true, .r [] [.row (sO oz2), .callr (rO oz3)], .r [] [], .br false, .r [] [], .r [] [], .r [] [.n ((↑k : Int) + 1)]]) (G := [.any (rg [(10, 3), (28, 20), (49, 5)]), .drop [11, 51], .ren 52 903, .weak 9 (i64 (↑(k + 1) : Int)), .blk 7 (Blk.var [i64 (inS l a (k + 1)).h, i64 (inS l a (k + 1)).x, i64 (inS l a (k + 1)).c]), .blk 903 (Blk.slc 3 1 (List.map (row1 IntKind.i64) (rowK l a u.cl (k + 1)))), .sort]) (by kernel_rfl) (.c (show decide ((↑k : Int) < (↑(List.map blcC l).length : Int)) = true by (simp; omega)) <| .c (show 0 ≤ (↑k : Int) by omega) <| .c oz2 <| .c oz3 <| .c (show false = false by with_reducible rfl) <| .c (show ((List.map (row1 IntKind.i64) (rowK l a u.cl k)).length + 1) * 8 ≤ 140737488355328 by (simp; omega)) <| .c (show (List.map (row1 IntKind.i64) (rowK l a u.cl k)).length + 1 ≤ 9223372036854775807 by (simp; omega)) <| .c (IntWalk.i64_in ((↑k : Int) + 1) (by omega)) <| .c (Weak.int (k := .i64) (show (((↑k : Int) + 1) : Int) = ((↑(k + 1) : Int)) from (by omega))) <| .c (show BlkW (Blk.var [i64 (lastS (l.getD k default).n (inS l a k)).h, i64 (lastS (l.getD k default).n (inS l a k)).x, i64 (lastS (l.getD k default).n (inS l a k)).c]) (Blk.var [i64 (inS l a (k + 1)).h, i64 (inS l a (k + 1)).x, i64 (inS l a (k + 1)).c]) from (BlkW.var (.cons (Weak.int (show (((lastS (l.getD k default).n (inS l a k)).h) : Int) = ((inS l a (k + 1)).h) from (by rfl))) (.cons (Weak.int (show (((lastS (l.getD k default).n (inS l a k)).x) : Int) = ((inS l a (k + 1)).x) from (by rfl))) (.cons (Weak.int (show (((lastS (l.getD k default).n (inS l a k)).c) : Int) = ((inS l a (k + 1)).c) from (by rfl))) .nil))))) <| .c (show BlkW (Blk.slc 3 1 (List.map (row1 IntKind.i64) (rowK l a u.cl k) ++ [[i64 (blockC (l.getD k default) (inS l a k) u.cl)]])) (Blk.slc 3 1 (List.map (row1 IntKind.i64) (rowK l a u.cl (k + 1)))) from (BlkW.rows (rows_to (row1 IntKind.i64) (r := List.map (row1 IntKind.i64) (rowK l a u.cl k) ++ [[i64 (blockC (l.getD k default) (inS l a k) u.cl)]]) (l := rowK l a u.cl k ++ [blockC (l.getD k default) (inS l a k) u.cl]) (m := rowK l a u.cl (k + 1)) (by first | (simp only [List.map_append, List.map_cons, List.map_nil, List.map_set, List.map_replicate, List.map_take, List.map_drop]; done) | rfl | (simp only [List.map_append, List.map_cons, List.map_nil, List.map_set, List.map_replicate, List.map_take, List.map_drop]; rfl)) (show (rowK l a u.cl k ++ [blockC (l.getD k default) (inS l a k) u.cl]) = (rowK l a u.cl (k + 1)) from (by rfl))))) <| .n)
set_option maxRecDepth 100000 in
set_option maxHeartbeats 2000000 in
theorem rtab_in_e (u : Bun) (i : Nat) (l : List Blc) (a : Shp) (m : Nat) (ok : ∀ d ∈ l, d.Ok) (sm : ∀ d ∈ l, d.Sm) (oka : a.Ok) (hl : l.length ≤ 8) (hm : m < l.length) (hf : ¬ SOK (l.getD m default).n (inS l a m)) (h : ∀ k, k < m → SOK (l.getD k default).n (inS l a k)) : VT Try.prog (fnC Try.f34 [1, 1, 0, 1, 0, 0, 1, 0, 0, 1, 1, 1, 0, 1, 0, 0]) (rtab_in_I u i l a m (m)) (.ret) (rtab_in_Z u i l a m) := by
  have q2 := getD_in ok hm
  have q3 := (getD_in sm hm).s
  have q9 := (getD_in sm hm).l
  have q4 := inS_ok (l := l) oka m
  have q6 := shapesE_n hf
  have oz2 := (map_at (blcC) (default) (l := l) (i := m) hm)
  have oz3 := @rcblock_n (l.getD m default) (inS l a m) (u.cl) q2 q4 q9 q3 hf
  exact VT.run (W := [.r [] [], .br true, .r [] [.row (sO oz2), .callr (rO oz3)], .r [] [], .br true, .r [] []]) (G := [.any (rg [(1, 1), (4, 9), (28, 4), (34, 15)]), .drop [1, 7, 900, 903, 11], .sort]) (by kernel_rfl) (.c (show decide ((↑m : Int) < (↑(List.map blcC l).length : Int)) = true by (simp; omega)) <| .c (show 0 ≤ (↑m : Int) by omega) <| .c oz2 <| .c oz3 <| .c (show ((shapesE (l.getD m default).n (inS l a m)).snd != 0) = true by (simp at *; omega)) <| .n)
theorem rtab_in (u : Bun) (i : Nat) (l : List Blc) (a : Shp) (m : Nat) (ok : ∀ d ∈ l, d.Ok) (sm : ∀ d ∈ l, d.Sm) (oka : a.Ok) (hl : l.length ≤ 8) (hm : m < l.length) (hf : ¬ SOK (l.getD m default).n (inS l a m)) (h : ∀ k, k < m → SOK (l.getD k default).n (inS l a k)) : VT Try.prog (fnC Try.f34 [1, 1, 0, 1, 0, 0, 1, 0, 0, 1, 1, 1, 0, 1, 0]) (rtab_in_I u i l a m 0) (.ret) (rtab_in_Z u i l a m) :=
  VT.loop (fun k => rtab_in_I u i l a m k) (m) (fun k hk => rtab_in_s u i l a m ok sm oka hl hm hf h k hk) (rtab_in_e u i l a m ok sm oka hl hm hf h) (by intro h; cases h)

noncomputable def rtab_oy_I (u : Bun) (k : Nat) : VS := stt 59 [(1, .ptr 1 0 0), (4, .own 900), (5, i64 k)] [(1, .var (bunC u)), (900, .slc 85 1 ((tabK u k).map intsC))]
noncomputable def rtab_oy_Z (u : Bun) : VS := rtab_oy_I u (u.m.length)
set_option maxRecDepth 100000 in
set_option maxHeartbeats 2000000 in
theorem rtab_oy_s (u : Bun) (ok : u.Ok) (sm : u.Sm) (h : ∀ j, j < u.m.length → MOK (u.m.getD j default).l u.inp) (k : Nat) (hk : k < u.m.length) : VT Try.prog (fnC Try.f34 [1, 1, 0, 1, 0, 0]) (rtab_oy_I u k) .normal (rtab_oy_I u (k + 1)) := by
  have q1 := h k hk
  have q2 := (getD_in ok.m hk).l
  have q3 := (getD_in sm.m hk).2
  have q4 := (getD_in sm.m hk).1
  have q5 := sm.l
  have q6 : u.inp.Ok := ⟨ok.h, ok.x, ok.c⟩
  have q7 := tabK_len u k
  have oz2 := (map_at (mdlC) (default) (l := u.m) (i := k) hk)
  have oz4 := @rtab_iy (u) (k) ((u.m.getD k default).l) (Shp.mk u.1 u.2 u.3) q2 q3 q6 q4 q1
  exact VT.run (W := [.r [] [], .br true, .r [] [], .r [] [], .r [] [.row (sO oz2)], .r [] [], .code [.any (rg [(13, 5), (20, 8)]), .weak 9 (i64 (↑0 : Int)), .nils 6 903 3 1, .sort] (Exit.exit 2) (zO oz4), .r [.frz 903] [], .r [] [.n ((↑k : Int) + 1)]]) (G := [.any (rg [(6, 4), (18, 2), (54, 4)]), .drop [7, 56], .ren 57 900, .weak 5 (i64 (↑(k + 1) : Int)), .blk 900 (Blk.slc 85 1 (List.map intsC (tabK u (k + 1)))), .sort]) (by kernel_rfl) (.c (show decide ((↑k : Int) < (↑(List.map mdlC u.m).length : Int)) = true by (simp; omega)) <| .c (show 0 ≤ (↑k : Int) by omega) <| .c oz2 <| .c (Weak.int (k := .i64) (show ((0) : Int) = ((↑0 : Int)) from (by omega))) <| .c oz4 <| .c (show ((List.map intsC (tabK u k)).length + 1) * 24 ≤ 140737488355328 by (simp; omega)) <| .c (show (List.map intsC (tabK u k)).length + 1 ≤ 9223372036854775807 by (simp; omega)) <| .c (IntWalk.i64_in ((↑k : Int) + 1) (by omega)) <| .c (Weak.int (k := .i64) (show (((↑k : Int) + 1) : Int) = ((↑(k + 1) : Int)) from (by omega))) <| .c (show BlkW (Blk.slc 85 1 (List.map intsC (tabK u k) ++ [[AV.sl 1 (List.map (row1 IntKind.i64) (rowK (u.m.getD k default).l (Shp.mk u.1 u.2 u.3) u.cl (u.m.getD k default).l.length))]])) (Blk.slc 85 1 (List.map intsC (tabK u (k + 1)))) from (BlkW.rows (rows_to (intsC) (r := List.map intsC (tabK u k) ++ [[AV.sl 1 (List.map (row1 IntKind.i64) (rowK (u.m.getD k default).l (Shp.mk u.1 u.2 u.3) u.cl (u.m.getD k default).l.length))]]) (l := tabK u k ++ [rowK (u.m.getD k default).l (Shp.mk u.1 u.2 u.3) u.cl (u.m.getD k default).l.length]) (m := tabK u (k + 1)) (by first | (simp only [List.map_append, List.map_cons, List.map_nil, List.map_set, List.map_replicate, List.map_take, List.map_drop]; done) | rfl | (simp only [List.map_append, List.map_cons, List.map_nil, List.map_set, List.map_replicate, List.map_take, List.map_drop]; rfl) | (simp only [List.map_append, List.map_cons, List.map_nil, List.map_set, List.map_replicate, List.map_take, List.map_drop, intsC]; done)) (show (tabK u k ++ [rowK (u.m.getD k default).l (Shp.mk u.1 u.2 u.3) u.cl (u.m.getD k default).l.length]) = (tabK u (k + 1)) from (by rfl))))) <| .n)
set_option maxRecDepth 100000 in
set_option maxHeartbeats 2000000 in
theorem rtab_oy_e (u : Bun) (ok : u.Ok) (sm : u.Sm) (h : ∀ j, j < u.m.length → MOK (u.m.getD j default).l u.inp) : VT Try.prog (fnC Try.f34 [1, 1, 0, 1, 0, 0]) (rtab_oy_I u (u.m.length)) (.exit 0) (rtab_oy_Z u) := by
  exact VT.run (W := [.r [] [], .br false]) (G := [.any (rg [(13, 5)]), .sort]) (by kernel_rfl) (.c (show decide ((↑u.m.length : Int) < (↑(List.map mdlC u.m).length : Int)) = false by (simp; done)) <| .n)
theorem rtab_oy (u : Bun) (ok : u.Ok) (sm : u.Sm) (h : ∀ j, j < u.m.length → MOK (u.m.getD j default).l u.inp) : VT Try.prog (fnC Try.f34 [1, 1, 0, 1, 0]) (rtab_oy_I u 0) (.exit 0) (rtab_oy_Z u) :=
  VT.loop (fun k => rtab_oy_I u k) (u.m.length) (fun k hk => rtab_oy_s u ok sm h k hk) (rtab_oy_e u ok sm h) (by intro h; cases h)

noncomputable def rtab_on_I (u : Bun) (m i : Nat) (k : Nat) : VS := stt 59 [(1, .ptr 1 0 0), (4, .own 900), (5, i64 k)] [(1, .var (bunC u)), (900, .slc 85 1 ((tabK u k).map intsC))]
noncomputable def rtab_on_Z (u : Bun) (m i : Nat) : VS := stt 59 [(2, nilv), (3, i64 (shapesE ((u.m.getD m default).l.getD i default).n (inS (u.m.getD m default).l u.inp i)).2)] []
set_option maxRecDepth 100000 in
set_option maxHeartbeats 2000000 in
theorem rtab_on_s (u : Bun) (m i : Nat) (ok : u.Ok) (sm : u.Sm) (hm : m < u.m.length) (hi : i < (u.m.getD m default).l.length) (hf : ¬ SOK ((u.m.getD m default).l.getD i default).n (inS (u.m.getD m default).l u.inp i)) (hb : ∀ k, k < i → SOK ((u.m.getD m default).l.getD k default).n (inS (u.m.getD m default).l u.inp k)) (h : ∀ j, j < m → MOK (u.m.getD j default).l u.inp) (k : Nat) (hk : k < m) : VT Try.prog (fnC Try.f34 [1, 1, 0, 1, 0, 0]) (rtab_on_I u m i k) .normal (rtab_on_I u m i (k + 1)) := by
  have q1 := h k hk
  have q2 := (getD_in ok.m (show k < u.m.length by omega)).l
  have q3 := (getD_in sm.m (show k < u.m.length by omega)).2
  have q4 := (getD_in sm.m (show k < u.m.length by omega)).1
  have q5 := sm.l
  have q6 : u.inp.Ok := ⟨ok.h, ok.x, ok.c⟩
  have q7 := tabK_len u k
  have oz2 := (map_at (mdlC) (default) (l := u.m) (i := k) (by omega))
  have oz4 := @rtab_iy (u) (k) ((u.m.getD k default).l) (Shp.mk u.1 u.2 u.3) q2 q3 q6 q4 q1
  exact VT.run (W := [.r [] [], .br true, .r [] [], .r [] [], .r [] [.row (sO oz2)], .r [] [], .code [.any (rg [(13, 5), (20, 8)]), .weak 9 (i64 (↑0 : Int)), .nils 6 903 3 1, .sort] (Exit.exit 2) (zO oz4), .r [.frz 903] [], .r [] [.n ((↑k : Int) + 1)]]) (G := [.any (rg [(6, 4), (18, 2), (54, 4)]), .drop [7, 56], .ren 57 900, .weak 5 (i64 (↑(k + 1) : Int)), .blk 900 (Blk.slc 85 1 (List.map intsC (tabK u (k + 1)))), .sort]) (by kernel_rfl) (.c (show decide ((↑k : Int) < (↑(List.map mdlC u.m).length : Int)) = true by (simp; omega)) <| .c (show 0 ≤ (↑k : Int) by omega) <| .c oz2 <| .c (Weak.int (k := .i64) (show ((0) : Int) = ((↑0 : Int)) from (by omega))) <| .c oz4 <| .c (show ((List.map intsC (tabK u k)).length + 1) * 24 ≤ 140737488355328 by (simp; omega)) <| .c (show (List.map intsC (tabK u k)).length + 1 ≤ 9223372036854775807 by (simp; omega)) <| .c (IntWalk.i64_in ((↑k : Int) + 1) (by omega)) <| .c (Weak.int (k := .i64) (show (((↑k : Int) + 1) : Int) = ((↑(k + 1) : Int)) from (by omega))) <| .c (show BlkW (Blk.slc 85 1 (List.map intsC (tabK u k) ++ [[AV.sl 1 (List.map (row1 IntKind.i64) (rowK (u.m.getD k default).l (Shp.mk u.1 u.2 u.3) u.cl (u.m.getD k default).l.length))]])) (Blk.slc 85 1 (List.map intsC (tabK u (k + 1)))) from (BlkW.rows (rows_to (intsC) (r := List.map intsC (tabK u k) ++ [[AV.sl 1 (List.map (row1 IntKind.i64) (rowK (u.m.getD k default).l (Shp.mk u.1 u.2 u.3) u.cl (u.m.getD k default).l.length))]]) (l := tabK u k ++ [rowK (u.m.getD k default).l (Shp.mk u.1 u.2 u.3) u.cl (u.m.getD k default).l.length]) (m := tabK u (k + 1)) (by first | (simp only [List.map_append, List.map_cons, List.map_nil, List.map_set, List.map_replicate, List.map_take, List.map_drop]; done) | rfl | (simp only [List.map_append, List.map_cons, List.map_nil, List.map_set, List.map_replicate, List.map_take, List.map_drop]; rfl) | (simp only [List.map_append, List.map_cons, List.map_nil, List.map_set, List.map_replicate, List.map_take, List.map_drop, intsC]; done)) (show (tabK u k ++ [rowK (u.m.getD k default).l (Shp.mk u.1 u.2 u.3) u.cl (u.m.getD k default).l.length]) = (tabK u (k + 1)) from (by rfl))))) <| .n)
set_option maxRecDepth 100000 in
set_option maxHeartbeats 2000000 in
theorem rtab_on_e (u : Bun) (m i : Nat) (ok : u.Ok) (sm : u.Sm) (hm : m < u.m.length) (hi : i < (u.m.getD m default).l.length) (hf : ¬ SOK ((u.m.getD m default).l.getD i default).n (inS (u.m.getD m default).l u.inp i)) (hb : ∀ k, k < i → SOK ((u.m.getD m default).l.getD k default).n (inS (u.m.getD m default).l u.inp k)) (h : ∀ j, j < m → MOK (u.m.getD j default).l u.inp) : VT Try.prog (fnC Try.f34 [1, 1, 0, 1, 0, 0]) (rtab_on_I u m i (m)) (.ret) (rtab_on_Z u m i) := by
  have q2 := (getD_in ok.m hm).l
  have q3 := (getD_in sm.m hm).2
  have q4 := (getD_in sm.m hm).1
  have q5 := sm.l
  have q6 : u.inp.Ok := ⟨ok.h, ok.x, ok.c⟩
  have oz2 := (map_at (mdlC) (default) (l := u.m) (i := m) hm)
  have oz4 := @rtab_in (u) (m) ((u.m.getD m default).l) (Shp.mk u.1 u.2 u.3) (i) q2 q3 q6 q4 hi hf hb
  exact VT.run (W := [.r [] [], .br true, .r [] [], .r [] [], .r [] [.row (sO oz2)], .r [] [], .code [.any (rg [(13, 5), (20, 8)]), .weak 9 (i64 (↑0 : Int)), .nils 6 903 3 1, .sort] (Exit.ret) (zO oz4)]) (G := [.sort]) (by kernel_rfl) (.c (show decide ((↑m : Int) < (↑(List.map mdlC u.m).length : Int)) = true by (simp; omega)) <| .c (show 0 ≤ (↑m : Int) by omega) <| .c oz2 <| .c (Weak.int (k := .i64) (show ((0) : Int) = ((↑0 : Int)) from (by omega))) <| .c oz4 <| .n)
theorem rtab_on (u : Bun) (m i : Nat) (ok : u.Ok) (sm : u.Sm) (hm : m < u.m.length) (hi : i < (u.m.getD m default).l.length) (hf : ¬ SOK ((u.m.getD m default).l.getD i default).n (inS (u.m.getD m default).l u.inp i)) (hb : ∀ k, k < i → SOK ((u.m.getD m default).l.getD k default).n (inS (u.m.getD m default).l u.inp k)) (h : ∀ j, j < m → MOK (u.m.getD j default).l u.inp) : VT Try.prog (fnC Try.f34 [1, 1, 0, 1, 0]) (rtab_on_I u m i 0) (.ret) (rtab_on_Z u m i) :=
  VT.loop (fun k => rtab_on_I u m i k) (m) (fun k hk => rtab_on_s u m i ok sm hm hi hf hb h k hk) (rtab_on_e u m i ok sm hm hi hf hb h) (by intro h; cases h)

set_option maxRecDepth 100000 in
set_option maxHeartbeats 2000000 in
theorem rtab_y (u : Bun) (ok : u.Ok) (sm : u.Sm) (h : ∀ j, j < u.m.length → MOK (u.m.getD j default).l u.inp) : VC Try.prog 34 ([bun u]) (.tup [.sl 1 ((tabK u u.m.length).map intsC), i64 0]) := by
  have q5 := sm.l
  have oz1 := @rtab_oy (u) ok sm h
  exact VC.run (fn := Try.f34) (W := [.r [] [], .r [] [], .r [] [], .code [.any [0, 2, 3], .weak 5 (i64 (↑0 : Int)), .nils 4 900 85 1, .sort] (Exit.exit 0) (zO oz1), .r [] []]) Try.func34 (by kernel_rfl) (.c (Weak.int (k := .i64) (show ((0) : Int) = ((↑0 : Int)) from (by omega))) <| .c oz1 <| .n)

set_option maxRecDepth 100000 in
set_option maxHeartbeats 2000000 in
theorem rtab_n (u : Bun) (m i : Nat) (ok : u.Ok) (sm : u.Sm) (hm : m < u.m.length) (hi : i < (u.m.getD m default).l.length) (hf : ¬ SOK ((u.m.getD m default).l.getD i default).n (inS (u.m.getD m default).l u.inp i)) (hb : ∀ k, k < i → SOK ((u.m.getD m default).l.getD k default).n (inS (u.m.getD m default).l u.inp k)) (h : ∀ j, j < m → MOK (u.m.getD j default).l u.inp) : VC Try.prog 34 ([bun u]) (.tup [nilv, i64 (shapesE ((u.m.getD m default).l.getD i default).n (inS (u.m.getD m default).l u.inp i)).2]) := by
  have q5 := sm.l
  have oz1 := @rtab_on (u) (m) (i) ok sm hm hi hf hb h
  exact VC.run (fn := Try.f34) (W := [.r [] [], .r [] [], .r [] [], .code [.any [0, 2, 3], .weak 5 (i64 (↑0 : Int)), .nils 4 900 85 1, .sort] (Exit.ret) (zO oz1)]) Try.func34 (by kernel_rfl) (.c (Weak.int (k := .i64) (show ((0) : Int) = ((↑0 : Int)) from (by omega))) <| .c oz1 <| .n)
end Go.Proofs.Ytdmomnaoegkpiaa

