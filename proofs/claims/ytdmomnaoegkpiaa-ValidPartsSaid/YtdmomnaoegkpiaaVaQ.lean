/- A bundle that may be may be with parts of it alone: the law. No condition. -/
import Derived.Test.YtdmomnaoegkpiaaVaP
namespace Go.Proofs.Ytdmomnaoegkpiaa
open Go.RowKit
set_option linter.unusedSimpArgs false
set_option linter.unusedVariables false
set_option linter.unnecessarySimpa false

theorem wholeE_1 {u : Bun} {m : Mdl} (h : wholeE u = 0) : wholeE ⟨u.h, u.x, u.c, u.cl, [m]⟩ = 0 := by
  obtain ⟨h1, h2, h3, h4, h5⟩ := wholeE_0 h
  unfold wholeE
  dsimp only
  rw [if_neg (by omega), if_neg (by omega), if_neg (by simp), if_neg (by simp)]
theorem bunE_1 {u : Bun} {m : Mdl} (h : wholeE u = 0) : bunE ⟨u.h, u.x, u.c, u.cl, [m]⟩ = modelE m.l u.inp u.cl 0 := by
  have w := wholeE_1 (m := m) h
  by_cases z : (modelE m.l u.inp u.cl 0).w = 0
  · rw [modelE_z z]
    refine bunE_y w fun j hj => ?_
    have : j = 0 := by simpa using hj
    subst this; exact modelE_z z
  · exact bunE_m w (m := 0) (by simp) z (fun j hj => by omega)
theorem modelE_j {l : List Blc} {a : Shp} {cl j i : Int} (h : modelE l a cl j = ⟨0, 0, 0, 0⟩) : modelE l a cl i = ⟨0, 0, 0, 0⟩ := by
  obtain ⟨h1, h2, h3⟩ := modelE_ok h
  exact modelE_y h1 h2 h3
theorem right_models {u : Bun} (h : (bunE u).w = 0) : wholeE u = 0 ∧ ∀ j, j < u.m.length → mE u j = ⟨0, 0, 0, 0⟩ := by
  rcases bunE_cases u with g | g | ⟨w, m, h1, h2, h3⟩
  · have e : bunE u = ⟨wholeE u, -1, -1, -1⟩ := if_pos g
    rw [e] at h; exact absurd h g
  · exact g
  · rw [bunE_m w h1 h2 h3] at h; exact absurd h h2
theorem inS_take {l : List Blc} {a : Shp} {n : Nat} : ∀ {k}, k < n → inS (l.take n) a k = inS l a k
  | 0, _ => rfl
  | k + 1, h => by
    rw [inS, inS, inS_take (show k < n by omega)]
    have : (l.take n).getD k default = l.getD k default := by
      rw [List.getD_eq_getElem?_getD, List.getD_eq_getElem?_getD, List.getElem?_take, if_pos (by omega)]
    rw [this]
theorem exitE_last {x : Blc} {out : Shp} {r : Rng} {cl : Int} {last : Bool} (h : exitE x out r cl last = 0) : exitE x out r cl true = if x.ex = true then 0 else 11 := by
  unfold exitE at h ⊢
  cases hx : x.ex with
  | false => rw [if_pos ⟨rfl, .inl rfl⟩]; simp
  | true =>
    rw [hx] at h
    rw [if_neg (by simp), if_neg (by simp)] at h ⊢
    rw [if_pos rfl]; exact h
theorem validE_last {x : Blc} {a : Shp} {cl : Int} {last : Bool} (h : (validE x a cl last).2 = 0) : (validE x a cl true).2 = if x.ex = true then 0 else 11 := by
  have hs := validE_ok h
  by_cases hf : FOK x.n fullR
  · rw [validE_y hs hf] at h ⊢
    by_cases c : exitE x (lastS x.n a) (lastR x.n) cl last = 0
    · have := exitE_last c
      by_cases hx : x.ex = true
      · rw [if_pos hx] at this ⊢
        rw [this]; simp
      · rw [if_neg hx] at this ⊢
        rw [this]; simp
    · rw [if_pos c] at h; exact absurd h c
  · rw [validE_f hs hf] at h; exact absurd h (flowE_n hf)
/-- A model's blocks up to the k-th may be alone if, and only if, that one has an exit. -/
theorem part_w {l : List Blc} {a : Shp} {cl j : Int} (h : modelE l a cl j = ⟨0, 0, 0, 0⟩) {k : Nat} (hk : k < l.length) : ((modelE (l.take (k + 1)) a cl 0).w == 0) = (l.getD k default).ex := by
  obtain ⟨h1, h2, h3⟩ := modelE_ok h
  have hlen : (l.take (k + 1)).length = k + 1 := by rw [List.length_take]; omega
  have get : ∀ i, i < k + 1 → (l.take (k + 1)).getD i default = l.getD i default := fun i hi => by
    rw [List.getD_eq_getElem?_getD, List.getD_eq_getElem?_getD, List.getElem?_take, if_pos hi]
  have fst : ∀ i, i < k → (vB (l.take (k + 1)) a cl i).2 = 0 := fun i hi => by
    have := h3 i (by omega)
    unfold vB at this ⊢
    rw [get i (by omega), inS_take (by omega)]
    have e1 : ((i : Int) == ((List.map blcC l).length : Int) - 1) = false := by rw [List.length_map]; simp; omega
    have e2 : ((i : Int) == ((List.map blcC (l.take (k + 1))).length : Int) - 1) = false := by rw [List.length_map, hlen]; simp; omega
    rw [e1] at this; rw [e2]; exact this
  have lst : (vB (l.take (k + 1)) a cl k).2 = if (l.getD k default).ex = true then 0 else 11 := by
    have := h3 k hk
    unfold vB at this ⊢
    rw [get k (by omega), inS_take (by omega)]
    have e2 : ((k : Int) == ((List.map blcC (l.take (k + 1))).length : Int) - 1) = true := by rw [List.length_map, hlen]; simp
    rw [e2]; exact validE_last this
  cases hx : (l.getD k default).ex with
  | true =>
    rw [hx, if_pos rfl] at lst
    rw [modelE_y (by omega) (by omega) fun i hi => by
      by_cases e : i = k
      · subst e; exact lst
      · exact fst i (by omega)]
    rfl
  | false =>
    rw [hx, if_neg (by simp)] at lst
    rw [modelE_m (m := k) (by omega) (by omega) (by rw [lst]; decide) fst, lst]
    rfl
theorem take_ok {l : List Blc} {n : Nat} (h : ∀ d ∈ l, d.Ok) : ∀ d ∈ l.take n, d.Ok := fun d hd => h d (List.mem_of_mem_take hd)
theorem take_sm {l : List Blc} {n : Nat} (h : ∀ d ∈ l, d.Sm) : ∀ d ∈ l.take n, d.Sm := fun d hd => h d (List.mem_of_mem_take hd)
theorem one1_ok {u : Bun} {l : List Blc} (ok : u.Ok) (h : ∀ d ∈ l, d.Ok) : Bun.Ok ⟨u.h, u.x, u.c, u.cl, [⟨l⟩]⟩ := ⟨ok.h, ok.x, ok.c, ok.cl, fun d hd => by
  have : d = ⟨l⟩ := by simpa using hd
  subst this; exact ⟨h⟩⟩
theorem one1_sm {u : Bun} {l : List Blc} (hl : l.length ≤ 8) (h : ∀ d ∈ l, d.Sm) : Bun.Sm ⟨u.h, u.x, u.c, u.cl, [⟨l⟩]⟩ := ⟨by simp, fun d hd => by
  have : d = ⟨l⟩ := by simpa using hd
  subst this; exact ⟨hl, h⟩⟩
noncomputable def parts_i_I (u : Bun) (l : List Blc) (i : Int) (k : Nat) : VS := stt 65 [(1, .ptr 1 0 0), (3, i64 i), (4, .ptr 4 0 0), (5, .sl 5 (l.map blcC)), (6, i64 k)] [(1, .var (bunC u)), (4, .var [i64 u.h, i64 u.x, i64 u.c, i64 u.cl, .any])]
noncomputable def parts_i_Z (u : Bun) (l : List Blc) (i : Int) : VS := parts_i_I u l i (l.length)
set_option maxRecDepth 100000 in
set_option maxHeartbeats 2000000 in
theorem parts_i_s (u : Bun) (l : List Blc) (i : Int) (ok : u.Ok) (okl : ∀ d ∈ l, d.Ok) (sml : ∀ d ∈ l, d.Sm) (w : wholeE u = 0) (h : modelE l u.inp u.cl 0 = ⟨0, 0, 0, 0⟩) (k : Nat) (hk : k < l.length) : VT Try.prog (fnC Try.f10 [1, 1, 0, 1, 0, 0, 1, 0, 0, 1, 1, 1, 1, 0, 0]) (parts_i_I u l i k) .normal (parts_i_I u l i (k + 1)) := by
  obtain ⟨h1, h2, h3⟩ := modelE_ok h
  have eT : List.take (((k : Int) + 1).toNat - 0) (List.drop 0 l) = l.take (k + 1) := by rw [List.drop_zero, show ((k : Int) + 1).toNat - 0 = k + 1 by omega]
  have g1 : (Bun.mk u.h u.x u.c u.cl [Mdl.mk (List.take (((k : Int) + 1).toNat - 0) (List.drop 0 l))]).Ok := by rw [eT]; exact one1_ok ok (take_ok okl)
  have g2 : (Bun.mk u.h u.x u.c u.cl [Mdl.mk (List.take (((k : Int) + 1).toNat - 0) (List.drop 0 l))]).Sm := by rw [eT]; exact one1_sm (by rw [List.length_take]; omega) (take_sm sml)
  have g3 : ((bunE (Bun.mk u.h u.x u.c u.cl [Mdl.mk (List.take (((k : Int) + 1).toNat - 0) (List.drop 0 l))])).w == 0) = (l.getD k default).ex := by rw [eT, bunE_1 (m := ⟨l.take (k + 1)⟩) w]; exact part_w h hk
  have oz1 := (IntWalk.i64_in ((↑k : Int) + 1) (by omega))
  have oz7 := @vright_v (Bun.mk u.h u.x u.c u.cl [Mdl.mk (List.take (((↑k : Int) + 1).toNat - 0) (List.drop 0 l))]) g1 g2
  have oz9 := (map_at (blcC) (default) (l := l) (i := k) hk)
  exact VT.run (W := [.r [] [], .br true, .r [] [.n (nO oz1), .nats 0 ((↑k : Int) + 1).toNat], .r [] [.call (aO oz7) (rO oz7), .row (sO oz9)], .br false, .r [] [.n (nO oz1)]]) (G := [.any (rg [(43, 21)]), .drop [54], .weak 6 (i64 (↑(k + 1) : Int)), .blk 4 (Blk.var [i64 u.h, i64 u.x, i64 u.c, i64 u.cl, AV.any]), .sort]) (by kernel_rfl) (.c (show decide ((↑k : Int) < (↑(List.map blcC l).length : Int)) = true by (simp; omega)) <| .c oz1 <| .c (show (0 : Nat) = (0 : Nat) by with_reducible rfl) <| .c (show (↑k : Int) + 1 = (↑((↑k : Int) + 1).toNat : Int) by omega) <| .c (show 0 ≤ ((↑k : Int) + 1).toNat by omega) <| .c (show ((↑k : Int) + 1).toNat ≤ (List.map blcC l).length by (simp; omega)) <| .c (show WeakL [AV.agg [i64 u.h, i64 u.x, i64 u.c, i64 u.cl, AV.sl 1 [[AV.sl 5 (List.take (((↑k : Int) + 1).toNat - 0) (List.drop 0 (List.map blcC l)))]]]] [AV.agg [i64 (Bun.mk u.h u.x u.c u.cl [Mdl.mk (List.take (((↑k : Int) + 1).toNat - 0) (List.drop 0 l))]).h, i64 (Bun.mk u.h u.x u.c u.cl [Mdl.mk (List.take (((↑k : Int) + 1).toNat - 0) (List.drop 0 l))]).x, i64 (Bun.mk u.h u.x u.c u.cl [Mdl.mk (List.take (((↑k : Int) + 1).toNat - 0) (List.drop 0 l))]).c, i64 (Bun.mk u.h u.x u.c u.cl [Mdl.mk (List.take (((↑k : Int) + 1).toNat - 0) (List.drop 0 l))]).cl, AV.sl 1 [[AV.sl 5 (List.map blcC (Mdl.mk (List.take (((↑k : Int) + 1).toNat - 0) (List.drop 0 l))).l)]]]] from (.cons (Weak.agg (.cons (.refl _) (.cons (.refl _) (.cons (.refl _) (.cons (.refl _) (.cons (Weak.rows (rows_to (mdlC) (r := [[AV.sl 5 (List.take (((↑k : Int) + 1).toNat - 0) (List.drop 0 (List.map blcC l)))]]) (l := [Mdl.mk (List.take (((↑k : Int) + 1).toNat - 0) (List.drop 0 l))]) (m := [Mdl.mk (List.take (((↑k : Int) + 1).toNat - 0) (List.drop 0 l))]) (by first | (simp only [List.map_append, List.map_cons, List.map_nil, List.map_set, List.map_replicate, List.map_take, List.map_drop]; done) | rfl | (simp only [List.map_append, List.map_cons, List.map_nil, List.map_set, List.map_replicate, List.map_take, List.map_drop]; rfl) | (simp only [List.map_append, List.map_cons, List.map_nil, List.map_set, List.map_replicate, List.map_take, List.map_drop, mdlC]; done)) rfl)) .nil)))))) .nil)) <| .c oz7 <| .c (show 0 ≤ (↑k : Int) by omega) <| .c oz9 <| .c (show (!((bunE (Bun.mk u.h u.x u.c u.cl [Mdl.mk (List.take (((↑k : Int) + 1).toNat - 0) (List.drop 0 l))])).w == 0) == (l.getD k default).ex) = false by (rw [g3]; simp; done)) <| .c oz1 <| .c (Weak.int (k := .i64) (show (((↑k : Int) + 1) : Int) = ((↑(k + 1) : Int)) from (by omega))) <| .c (show BlkW (Blk.var [i64 u.h, i64 u.x, i64 u.c, i64 u.cl, AV.any]) (Blk.var [i64 u.h, i64 u.x, i64 u.c, i64 u.cl, AV.any]) from (BlkW.var (.cons (.refl _) (.cons (.refl _) (.cons (.refl _) (.cons (.refl _) (.cons (Weak.any _) .nil))))))) <| .n)
set_option maxRecDepth 100000 in
set_option maxHeartbeats 2000000 in
theorem parts_i_e (u : Bun) (l : List Blc) (i : Int) (ok : u.Ok) (okl : ∀ d ∈ l, d.Ok) (sml : ∀ d ∈ l, d.Sm) (w : wholeE u = 0) (h : modelE l u.inp u.cl 0 = ⟨0, 0, 0, 0⟩) : VT Try.prog (fnC Try.f10 [1, 1, 0, 1, 0, 0, 1, 0, 0, 1, 1, 1, 1, 0, 0]) (parts_i_I u l i (l.length)) (.exit 2) (parts_i_Z u l i) := by
  exact VT.run (W := [.r [] [], .br false]) (G := [.any (rg [(43, 4)]), .sort]) (by kernel_rfl) (.c (show decide ((↑l.length : Int) < (↑(List.map blcC l).length : Int)) = false by (simp; done)) <| .n)
theorem parts_i (u : Bun) (l : List Blc) (i : Int) (ok : u.Ok) (okl : ∀ d ∈ l, d.Ok) (sml : ∀ d ∈ l, d.Sm) (w : wholeE u = 0) (h : modelE l u.inp u.cl 0 = ⟨0, 0, 0, 0⟩) : VT Try.prog (fnC Try.f10 [1, 1, 0, 1, 0, 0, 1, 0, 0, 1, 1, 1, 1, 0]) (parts_i_I u l i 0) (.exit 2) (parts_i_Z u l i) :=
  VT.loop (fun k => parts_i_I u l i k) (l.length) (fun k hk => parts_i_s u l i ok okl sml w h k hk) (parts_i_e u l i ok okl sml w h) (by intro h; cases h)

noncomputable def parts_o_I (u : Bun) (k : Nat) : VS := stt 65 [(1, .ptr 1 0 0), (3, i64 k)] [(1, .var (bunC u))]
noncomputable def parts_o_Z (u : Bun) : VS := parts_o_I u (u.m.length)
set_option maxRecDepth 100000 in
set_option maxHeartbeats 2000000 in
theorem parts_o_s (u : Bun) (ok : u.Ok) (sm : u.Sm) (w : wholeE u = 0) (h : ∀ j, j < u.m.length → mE u j = ⟨0, 0, 0, 0⟩) (k : Nat) (hk : k < u.m.length) : VT Try.prog (fnC Try.f10 [1, 1, 0, 1, 0, 0]) (parts_o_I u k) .normal (parts_o_I u (k + 1)) := by
  have q1 : modelE (u.m.getD k default).l u.inp u.cl 0 = ⟨0, 0, 0, 0⟩ := modelE_j (h k hk)
  have q2 := (getD_in ok.m hk).l
  have q3 := (getD_in sm.m hk).2
  have q4 := (getD_in sm.m hk).1
  have q5 := sm.l
  have q6 := one1_ok ok q2
  have q7 := one1_sm (u := u) q4 q3
  have q8 : (bunE (Bun.mk u.h u.x u.c u.cl [Mdl.mk (u.m.getD k default).l])).w = 0 := by rw [bunE_1 (m := ⟨(u.m.getD k default).l⟩) w]; dsimp only; rw [q1]
  have oz1 := (show 0 ≤ (↑k : Int) by omega)
  have oz2 := (map_at (mdlC) (default) (l := u.m) (i := k) hk)
  have oz4 := @vright_v (Bun.mk u.h u.x u.c u.cl [Mdl.mk (u.m.getD k default).l]) q6 q7
  have oz10 := @parts_i (u) ((u.m.getD k default).l) ((↑k : Int)) ok q2 q3 w q1
  exact VT.run (W := [.r [] [], .br true, .r [] [.row (sO oz2)], .r [] [.call (aO oz4) (rO oz4)], .br false, .r [] [.row (sO oz2)], .r [] [], .code [.any (rg [(16, 5), (23, 20)]), .drop [32], .weak 6 (i64 (↑0 : Int)), .blk 4 (Blk.var [i64 u.h, i64 u.x, i64 u.c, i64 u.cl, AV.any]), .sort] (Exit.exit 2) (zO oz10), .r [] [.n ((↑k : Int) + 1)]]) (G := [.any [4, 5, 6, 21, 22], .drop [4], .weak 3 (i64 (↑(k + 1) : Int)), .sort]) (by kernel_rfl) (.c (show decide ((↑k : Int) < (↑(List.map mdlC u.m).length : Int)) = true by (simp; omega)) <| .c oz1 <| .c oz2 <| .c (show WeakL [AV.agg [i64 u.h, i64 u.x, i64 u.c, i64 u.cl, AV.sl 1 [[AV.sl 5 (List.map blcC (u.m.getD k default).l)]]]] [AV.agg [i64 (Bun.mk u.h u.x u.c u.cl [Mdl.mk (u.m.getD k default).l]).h, i64 (Bun.mk u.h u.x u.c u.cl [Mdl.mk (u.m.getD k default).l]).x, i64 (Bun.mk u.h u.x u.c u.cl [Mdl.mk (u.m.getD k default).l]).c, i64 (Bun.mk u.h u.x u.c u.cl [Mdl.mk (u.m.getD k default).l]).cl, AV.sl 1 [[AV.sl 5 (List.map blcC (Mdl.mk (u.m.getD k default).l).l)]]]] from (.cons (Weak.agg (.cons (.refl _) (.cons (.refl _) (.cons (.refl _) (.cons (.refl _) (.cons (Weak.rows (rows_to (mdlC) (r := [[AV.sl 5 (List.map blcC (u.m.getD k default).l)]]) (l := [Mdl.mk (u.m.getD k default).l]) (m := [Mdl.mk (u.m.getD k default).l]) (by first | (simp only [List.map_append, List.map_cons, List.map_nil, List.map_set, List.map_replicate, List.map_take, List.map_drop]; done) | rfl | (simp only [List.map_append, List.map_cons, List.map_nil, List.map_set, List.map_replicate, List.map_take, List.map_drop]; rfl) | (simp only [List.map_append, List.map_cons, List.map_nil, List.map_set, List.map_replicate, List.map_take, List.map_drop, mdlC]; done)) rfl)) .nil)))))) .nil)) <| .c oz4 <| .c (show (!(bunE (Bun.mk u.h u.x u.c u.cl [Mdl.mk (u.m.getD k default).l])).w == 0) = false by (rw [q8]; rfl)) <| .c oz1 <| .c oz2 <| .c (Weak.int (k := .i64) (show ((0) : Int) = ((↑0 : Int)) from (by omega))) <| .c (show BlkW (Blk.var [i64 u.h, i64 u.x, i64 u.c, i64 u.cl, AV.any]) (Blk.var [i64 u.h, i64 u.x, i64 u.c, i64 u.cl, AV.any]) from (BlkW.var (.cons (.refl _) (.cons (.refl _) (.cons (.refl _) (.cons (.refl _) (.cons (Weak.any _) .nil))))))) <| .c oz10 <| .c (IntWalk.i64_in ((↑k : Int) + 1) (by omega)) <| .c (Weak.int (k := .i64) (show (((↑k : Int) + 1) : Int) = ((↑(k + 1) : Int)) from (by omega))) <| .n)
set_option maxRecDepth 100000 in
set_option maxHeartbeats 2000000 in
theorem parts_o_e (u : Bun) (ok : u.Ok) (sm : u.Sm) (w : wholeE u = 0) (h : ∀ j, j < u.m.length → mE u j = ⟨0, 0, 0, 0⟩) : VT Try.prog (fnC Try.f10 [1, 1, 0, 1, 0, 0]) (parts_o_I u (u.m.length)) (.exit 0) (parts_o_Z u) := by
  exact VT.run (W := [.r [] [], .br false]) (G := [.any (rg [(16, 5)]), .sort]) (by kernel_rfl) (.c (show decide ((↑u.m.length : Int) < (↑(List.map mdlC u.m).length : Int)) = false by (simp; done)) <| .n)
theorem parts_o (u : Bun) (ok : u.Ok) (sm : u.Sm) (w : wholeE u = 0) (h : ∀ j, j < u.m.length → mE u j = ⟨0, 0, 0, 0⟩) : VT Try.prog (fnC Try.f10 [1, 1, 0, 1, 0]) (parts_o_I u 0) (.exit 0) (parts_o_Z u) :=
  VT.loop (fun k => parts_o_I u k) (u.m.length) (fun k hk => parts_o_s u ok sm w h k hk) (parts_o_e u ok sm w h) (by intro h; cases h)

set_option maxRecDepth 100000 in
set_option maxHeartbeats 2000000 in
theorem validParts_x (u : Bun) (few : bunS u = false) : VC Try.prog 10 ([bun u]) (bv true) := by
  have oz0 := @few31_v (u)
  have oz1 := (show (!bunS u) = !false by (simp; omega))
  have oz5 := @known33_v
  exact VC.run (fn := Try.f10) (W := [.r [] [], .r [] [.callr (rO oz0), .op false, .br false, .br false, .br true], .br true, .r [] [.callr (rO oz5)]]) Try.func10 (by kernel_rfl) (.c oz0 <| .c oz1 <| .c oz1 <| .c (show (!bunS u) = true by (rw [few]; rfl)) <| .c (show true = true by with_reducible rfl) <| .c oz5 <| .n)

set_option maxRecDepth 100000 in
set_option maxHeartbeats 2000000 in
theorem validParts_n (u : Bun) (ok : u.Ok) (few : bunS u = true) (h : ¬ (bunE u).w = 0) : VC Try.prog 10 ([bun u]) (bv true) := by
  have sm := Bun.sm few
  have oz0 := @few31_v (u)
  have oz1 := @vright_v (u) ok sm
  have oz3 := @known33_v
  exact VC.run (fn := Try.f10) (W := [.r [] [], .r [] [.callr (rO oz0), .op false, .op false, .callr (rO oz1), .op false, .sel 1], .br true, .r [] [.callr (rO oz3)]]) Try.func10 (by kernel_rfl) (.c oz0 <| .c oz1 <| .c (show (!bunS u || !(bunE u).w == 0) = true by (rw [few, beq_eq_false_iff_ne.2 h]; rfl)) <| .c oz3 <| .n)

set_option maxRecDepth 100000 in
set_option maxHeartbeats 2000000 in
theorem validParts_y (u : Bun) (ok : u.Ok) (few : bunS u = true) (h : (bunE u).w = 0) : VC Try.prog 10 ([bun u]) (bv true) := by
  have sm := Bun.sm few
  obtain ⟨q1, q2⟩ := right_models h
  have oz0 := @few31_v (u)
  have oz1 := @vright_v (u) ok sm
  have oz4 := @parts_o (u) ok sm q1 q2
  have oz5 := @known33_v
  exact VC.run (fn := Try.f10) (W := [.r [] [], .r [] [.callr (rO oz0), .op false, .op false, .callr (rO oz1), .op false, .sel 1], .br false, .r [] [], .code [.any [0, 2, 7, 8, 9, 10, 14], .weak 3 (i64 (↑0 : Int)), .sort] (Exit.exit 0) (zO oz4), .r [] [.callr (rO oz5)]]) Try.func10 (by kernel_rfl) (.c oz0 <| .c oz1 <| .c (show (!bunS u || !(bunE u).w == 0) = false by (rw [few, h]; rfl)) <| .c (Weak.int (k := .i64) (show ((0) : Int) = ((↑0 : Int)) from (by omega))) <| .c oz4 <| .c oz5 <| .n)
theorem validParts_v (u : Bun) (ok : u.Ok) : VC Try.prog 10 [bun u] (bv true) := by
  cases few : bunS u with
  | false => exact validParts_x u few
  | true =>
    by_cases h : (bunE u).w = 0
    · exact validParts_y u ok few h
    · exact validParts_n u ok few h
end Go.Proofs.Ytdmomnaoegkpiaa

