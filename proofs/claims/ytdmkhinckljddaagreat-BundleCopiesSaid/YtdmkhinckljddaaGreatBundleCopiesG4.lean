/- Texts of this claim, put together: BcF, BcG. No condition. -/
import Derived.Test.YtdmkhinckljddaaGreatBundleCopiesG3
set_option linter.unusedVariables false
set_option linter.unusedSimpArgs false
set_option linter.unnecessarySimpa false
/- What is written into a copy: its numbers turn, and nothing else. No condition. -/
namespace Go.Proofs.YtdmkhinckljddaaGreat
open Go.RowKit
set_option linter.unusedSimpArgs false
set_option linter.unusedVariables false
set_option linter.unnecessarySimpa false

theorem all_map {α : Type} {P : AV → Prop} {g : α → List AV} {l : List α} (h : ∀ x, ∀ c ∈ g x, P c) : ∀ r ∈ l.map g, ∀ c ∈ r, P c := by
  intro r hr c hc
  obtain ⟨x, _, rfl⟩ := List.mem_map.1 hr
  exact h x c hc
theorem noP_ints (k : IntKind) (l : List Int) : NoP (ints k l) := .sl (all_map fun x => List.forall_mem_cons.2 ⟨.lit _, fun _ h => absurd h (List.not_mem_nil)⟩)
theorem fsP_ints (k : IntKind) (l : List Int) : FsP (intsF k l) := .fs (all_map fun x => List.forall_mem_cons.2 ⟨.lit _, fun _ h => absurd h (List.not_mem_nil)⟩)
theorem noP_nod (n : Nod) : ∀ c ∈ nodC n, NoP c := by
  repeat (first | exact fun _ h => absurd h (List.not_mem_nil) | refine List.forall_mem_cons.2 ⟨by first | exact NoP.lit _ | exact noP_ints _ _, ?_⟩)
theorem fsP_nod (n : Nod) : ∀ c ∈ nodCF n, FsP c := by
  repeat (first | exact fun _ h => absurd h (List.not_mem_nil) | refine List.forall_mem_cons.2 ⟨by first | exact FsP.lit _ | exact fsP_ints _ _, ?_⟩)
theorem noP_blc (x : Blc) : ∀ c ∈ blcC x, NoP c := by
  repeat (first | exact fun _ h => absurd h (List.not_mem_nil) | refine List.forall_mem_cons.2 ⟨by first | exact NoP.lit _ | exact noP_ints _ _ | exact NoP.sl (all_map noP_nod), ?_⟩)
theorem fsP_blc (x : Blc) : ∀ c ∈ blcCF x, FsP c := by
  repeat (first | exact fun _ h => absurd h (List.not_mem_nil) | refine List.forall_mem_cons.2 ⟨by first | exact FsP.lit _ | exact fsP_ints _ _ | exact FsP.fs (all_map fsP_nod), ?_⟩)
theorem noP_mdl (m : Mdl) : ∀ c ∈ mdlC m, NoP c := List.forall_mem_cons.2 ⟨NoP.sl (all_map noP_blc), fun _ h => absurd h (List.not_mem_nil)⟩
theorem fsP_mdl (m : Mdl) : ∀ c ∈ mdlCF m, FsP c := List.forall_mem_cons.2 ⟨FsP.fs (all_map fsP_blc), fun _ h => absurd h (List.not_mem_nil)⟩
theorem bun_no (u : Bun) : NoL [bun u] := List.forall_mem_cons.2 ⟨.agg (by
  repeat (first | exact fun _ h => absurd h (List.not_mem_nil) | refine List.forall_mem_cons.2 ⟨by first | exact NoF.lit _ | exact NoF.sl (all_map noP_mdl), ?_⟩)), fun _ h => absurd h (List.not_mem_nil)⟩
theorem bun_fs (u : Bun) : FsR (.agg (bunCF u)) := .agg (by
  repeat (first | exact fun _ h => absurd h (List.not_mem_nil) | refine List.forall_mem_cons.2 ⟨by first | exact FsR.lit _ | exact FsR.fs (all_map fsP_mdl), ?_⟩))
abbrev bunT (u : Bun) : List AV := [i64 u.h, i64 u.x, i64 u.c, i64 u.cl, .tr 1 (u.m.map mdlCF)]
noncomputable def bc_w_I (u : Bun) (I K : Int) (l : List Blc) (k : Nat) : VS := stt 160 [(1, .ptr 1 0 0), (3, .ptr 3 0 0), (4, .ptr 4 0 0), (5, i64 I), (6, i64 K), (7, .tr 5 (l.map blcCF)), (8, i64 k)] [(1, .var (bunC u)), (3, .var (bunT u)), (4, .var (bunCF u)), (200000, .reg true)]
noncomputable def bc_w_Z (u : Bun) (I K : Int) (l : List Blc) : VS := bc_w_I u I K l ((l.getD K.toNat default).w.length)
set_option maxRecDepth 100000 in
set_option maxHeartbeats 2000000 in
theorem bc_w_s (u : Bun) (I K : Int) (l : List Blc) (h0 : 0 ≤ K) (h1 : K < l.length) (hw : (l.getD K.toNat default).w.length ≤ 100000) (k : Nat) (hk : k < (l.getD K.toNat default).w.length) : VT Tryz.prog (fnC Tryz.f3 [1, 1, 1, 1, 1, 0, 1, 0, 0, 1, 0, 0, 1, 0, 0, 1, 0, 0, 1, 1, 0, 1, 0, 0]) (bc_w_I u I K l k) .normal (bc_w_I u I K l (k + 1)) := by
  have oz1 := (map_at (blcCF) (default) (l := l) (i := K.toNat) (by omega))
  have oz7 := (show 0 ≤ (↑k : Int) by omega)
  have oz8 := (map_at (row1 IntKind.i8) (0) (l := (l.getD K.toNat default).w) (i := k) hk)
  exact VT.run (W := [.r [] [.rg [AV.fs 19 (List.map nodCF (l.getD K.toNat default).n), bv (l.getD K.toNat default).ex, AV.fs 1 (List.map (row1 IntKind.i8) (l.getD K.toNat default).w), AV.fs 1 (List.map (row1 IntKind.i32) (l.getD K.toNat default).b), i32 (l.getD K.toNat default).nd], .rg [], .rg [], .rg [], .rg []], .br true, .r [] [.rg [AV.fs 19 (List.map nodCF (l.getD K.toNat default).n), bv (l.getD K.toNat default).ex, AV.fs 1 (List.map (row1 IntKind.i8) (l.getD K.toNat default).w), AV.fs 1 (List.map (row1 IntKind.i32) (l.getD K.toNat default).b), i32 (l.getD K.toNat default).nd], .rg [], .rg [], .rg [], .rg [AV.fs 19 (List.map nodCF (l.getD K.toNat default).n), bv (l.getD K.toNat default).ex, AV.fs 1 (List.map (row1 IntKind.i8) (l.getD K.toNat default).w), AV.fs 1 (List.map (row1 IntKind.i32) (l.getD K.toNat default).b), i32 (l.getD K.toNat default).nd], .rg [], .rg [], .rg [], .rg [i8 ((l.getD K.toNat default).w.getD k 0)], .rg [], .rg [], .rg [i8 ((l.getD K.toNat default).w.getD k 0)], .rg []], .r [] [.n ((↑k : Int) + 1)]]) (G := [.any (rg [(59, 29)]), .weak 8 (i64 (↑(k + 1) : Int)), .sort]) (by kernel_rfl) (.c h0 <| .c oz1 <| .c (show decide ((↑k : Int) < (↑(List.map (row1 IntKind.i8) (l.getD K.toNat default).w).length : Int)) = true by (simp at *; omega)) <| .c h0 <| .c oz1 <| .c h0 <| .c oz1 <| .c oz7 <| .c oz8 <| .c oz7 <| .c oz8 <| .c (IntWalk.i64_in ((↑k : Int) + 1) (by omega)) <| .c (Weak.int (k := .i64) (show (((↑k : Int) + 1) : Int) = ((↑(k + 1) : Int)) from (by omega))) <| .n)
set_option maxRecDepth 100000 in
set_option maxHeartbeats 2000000 in
theorem bc_w_e (u : Bun) (I K : Int) (l : List Blc) (h0 : 0 ≤ K) (h1 : K < l.length) (hw : (l.getD K.toNat default).w.length ≤ 100000) : VT Tryz.prog (fnC Tryz.f3 [1, 1, 1, 1, 1, 0, 1, 0, 0, 1, 0, 0, 1, 0, 0, 1, 0, 0, 1, 1, 0, 1, 0, 0]) (bc_w_I u I K l ((l.getD K.toNat default).w.length)) (.exit 4) (bc_w_Z u I K l) := by
  have oz1 := (map_at (blcCF) (default) (l := l) (i := K.toNat) (by omega))
  exact VT.run (W := [.r [] [.rg [AV.fs 19 (List.map nodCF (l.getD K.toNat default).n), bv (l.getD K.toNat default).ex, AV.fs 1 (List.map (row1 IntKind.i8) (l.getD K.toNat default).w), AV.fs 1 (List.map (row1 IntKind.i32) (l.getD K.toNat default).b), i32 (l.getD K.toNat default).nd], .rg [], .rg [], .rg [], .rg []], .br false]) (G := [.any (rg [(59, 9)]), .sort]) (by kernel_rfl) (.c h0 <| .c oz1 <| .c (show decide ((↑(l.getD K.toNat default).w.length : Int) < (↑(List.map (row1 IntKind.i8) (l.getD K.toNat default).w).length : Int)) = false by (simp; done)) <| .n)
theorem bc_w (u : Bun) (I K : Int) (l : List Blc) (h0 : 0 ≤ K) (h1 : K < l.length) (hw : (l.getD K.toNat default).w.length ≤ 100000) : VT Tryz.prog (fnC Tryz.f3 [1, 1, 1, 1, 1, 0, 1, 0, 0, 1, 0, 0, 1, 0, 0, 1, 0, 0, 1, 1, 0, 1, 0]) (bc_w_I u I K l 0) (.exit 4) (bc_w_Z u I K l) :=
  VT.loop (fun k => bc_w_I u I K l k) ((l.getD K.toNat default).w.length) (fun k hk => bc_w_s u I K l h0 h1 hw k hk) (bc_w_e u I K l h0 h1 hw) (by intro h; cases h)

noncomputable def bc_v_I (u : Bun) (I K J : Int) (l : List Blc) (k : Nat) : VS := stt 160 [(1, .ptr 1 0 0), (3, .ptr 3 0 0), (4, .ptr 4 0 0), (5, i64 I), (6, i64 K), (7, .tr 5 (l.map blcCF)), (9, i64 J), (10, i64 k)] [(1, .var (bunC u)), (3, .var (bunT u)), (4, .var (bunCF u)), (200000, .reg true)]
noncomputable def bc_v_Z (u : Bun) (I K J : Int) (l : List Blc) : VS := bc_v_I u I K J l (((l.getD K.toNat default).n.getD J.toNat default).w.length)
set_option maxRecDepth 100000 in
set_option maxHeartbeats 2000000 in
theorem bc_v_s (u : Bun) (I K J : Int) (l : List Blc) (h0 : 0 ≤ K) (h1 : K < l.length) (h2 : 0 ≤ J) (h3 : J < (l.getD K.toNat default).n.length) (hw : ((l.getD K.toNat default).n.getD J.toNat default).w.length ≤ 100000) (k : Nat) (hk : k < ((l.getD K.toNat default).n.getD J.toNat default).w.length) : VT Tryz.prog (fnC Tryz.f3 [1, 1, 1, 1, 1, 0, 1, 0, 0, 1, 0, 0, 1, 0, 0, 1, 0, 0, 1, 1, 1, 1, 0, 0, 1, 0, 0, 1, 1, 0, 0]) (bc_v_I u I K J l k) .normal (bc_v_I u I K J l (k + 1)) := by
  have oz1 := (map_at (blcCF) (default) (l := l) (i := K.toNat) (by omega))
  have oz3 := (map_at (nodCF) (default) (l := (l.getD K.toNat default).n) (i := J.toNat) (by omega))
  have oz13 := (show 0 ≤ (↑k : Int) by omega)
  have oz14 := (map_at (row1 IntKind.i8) (0) (l := ((l.getD K.toNat default).n.getD J.toNat default).w) (i := k) hk)
  exact VT.run (W := [.r [] [.rg [AV.fs 19 (List.map nodCF (l.getD K.toNat default).n), bv (l.getD K.toNat default).ex, AV.fs 1 (List.map (row1 IntKind.i8) (l.getD K.toNat default).w), AV.fs 1 (List.map (row1 IntKind.i32) (l.getD K.toNat default).b), i32 (l.getD K.toNat default).nd], .rg [], .rg [], .rg [i64 ((l.getD K.toNat default).n.getD J.toNat default).kd, i64 ((l.getD K.toNat default).n.getD J.toNat default).na, i64 ((l.getD K.toNat default).n.getD J.toNat default).nb, i64 ((l.getD K.toNat default).n.getD J.toNat default).nk, i64 ((l.getD K.toNat default).n.getD J.toNat default).ns, i64 ((l.getD K.toNat default).n.getD J.toNat default).np, i64 ((l.getD K.toNat default).n.getD J.toNat default).no, i8 ((l.getD K.toNat default).n.getD J.toNat default).za, i8 ((l.getD K.toNat default).n.getD J.toNat default).zb, AV.fs 1 (List.map (row1 IntKind.i8) ((l.getD K.toNat default).n.getD J.toNat default).w), AV.fs 1 (List.map (row1 IntKind.i32) ((l.getD K.toNat default).n.getD J.toNat default).b), i32 ((l.getD K.toNat default).n.getD J.toNat default).qm, i64 ((l.getD K.toNat default).n.getD J.toNat default).qs, i8 ((l.getD K.toNat default).n.getD J.toNat default).qz, i32 ((l.getD K.toNat default).n.getD J.toNat default).rm, i64 ((l.getD K.toNat default).n.getD J.toNat default).rs, i8 ((l.getD K.toNat default).n.getD J.toNat default).rz, i8 ((l.getD K.toNat default).n.getD J.toNat default).lo, i8 ((l.getD K.toNat default).n.getD J.toNat default).hi], .rg [], .rg [], .rg []], .br true, .r [] [.rg [AV.fs 19 (List.map nodCF (l.getD K.toNat default).n), bv (l.getD K.toNat default).ex, AV.fs 1 (List.map (row1 IntKind.i8) (l.getD K.toNat default).w), AV.fs 1 (List.map (row1 IntKind.i32) (l.getD K.toNat default).b), i32 (l.getD K.toNat default).nd], .rg [], .rg [], .rg [i64 ((l.getD K.toNat default).n.getD J.toNat default).kd, i64 ((l.getD K.toNat default).n.getD J.toNat default).na, i64 ((l.getD K.toNat default).n.getD J.toNat default).nb, i64 ((l.getD K.toNat default).n.getD J.toNat default).nk, i64 ((l.getD K.toNat default).n.getD J.toNat default).ns, i64 ((l.getD K.toNat default).n.getD J.toNat default).np, i64 ((l.getD K.toNat default).n.getD J.toNat default).no, i8 ((l.getD K.toNat default).n.getD J.toNat default).za, i8 ((l.getD K.toNat default).n.getD J.toNat default).zb, AV.fs 1 (List.map (row1 IntKind.i8) ((l.getD K.toNat default).n.getD J.toNat default).w), AV.fs 1 (List.map (row1 IntKind.i32) ((l.getD K.toNat default).n.getD J.toNat default).b), i32 ((l.getD K.toNat default).n.getD J.toNat default).qm, i64 ((l.getD K.toNat default).n.getD J.toNat default).qs, i8 ((l.getD K.toNat default).n.getD J.toNat default).qz, i32 ((l.getD K.toNat default).n.getD J.toNat default).rm, i64 ((l.getD K.toNat default).n.getD J.toNat default).rs, i8 ((l.getD K.toNat default).n.getD J.toNat default).rz, i8 ((l.getD K.toNat default).n.getD J.toNat default).lo, i8 ((l.getD K.toNat default).n.getD J.toNat default).hi], .rg [], .rg [], .rg [AV.fs 19 (List.map nodCF (l.getD K.toNat default).n), bv (l.getD K.toNat default).ex, AV.fs 1 (List.map (row1 IntKind.i8) (l.getD K.toNat default).w), AV.fs 1 (List.map (row1 IntKind.i32) (l.getD K.toNat default).b), i32 (l.getD K.toNat default).nd], .rg [], .rg [], .rg [i64 ((l.getD K.toNat default).n.getD J.toNat default).kd, i64 ((l.getD K.toNat default).n.getD J.toNat default).na, i64 ((l.getD K.toNat default).n.getD J.toNat default).nb, i64 ((l.getD K.toNat default).n.getD J.toNat default).nk, i64 ((l.getD K.toNat default).n.getD J.toNat default).ns, i64 ((l.getD K.toNat default).n.getD J.toNat default).np, i64 ((l.getD K.toNat default).n.getD J.toNat default).no, i8 ((l.getD K.toNat default).n.getD J.toNat default).za, i8 ((l.getD K.toNat default).n.getD J.toNat default).zb, AV.fs 1 (List.map (row1 IntKind.i8) ((l.getD K.toNat default).n.getD J.toNat default).w), AV.fs 1 (List.map (row1 IntKind.i32) ((l.getD K.toNat default).n.getD J.toNat default).b), i32 ((l.getD K.toNat default).n.getD J.toNat default).qm, i64 ((l.getD K.toNat default).n.getD J.toNat default).qs, i8 ((l.getD K.toNat default).n.getD J.toNat default).qz, i32 ((l.getD K.toNat default).n.getD J.toNat default).rm, i64 ((l.getD K.toNat default).n.getD J.toNat default).rs, i8 ((l.getD K.toNat default).n.getD J.toNat default).rz, i8 ((l.getD K.toNat default).n.getD J.toNat default).lo, i8 ((l.getD K.toNat default).n.getD J.toNat default).hi], .rg [], .rg [], .rg [i8 (((l.getD K.toNat default).n.getD J.toNat default).w.getD k 0)], .rg [], .rg [], .rg [i8 (((l.getD K.toNat default).n.getD J.toNat default).w.getD k 0)], .rg []], .r [] [.n ((↑k : Int) + 1)]]) (G := [.any (rg [(116, 38)]), .weak 10 (i64 (↑(k + 1) : Int)), .sort]) (by kernel_rfl) (.c h0 <| .c oz1 <| .c h2 <| .c oz3 <| .c (show decide ((↑k : Int) < (↑(List.map (row1 IntKind.i8) ((l.getD K.toNat default).n.getD J.toNat default).w).length : Int)) = true by (simp at *; omega)) <| .c h0 <| .c oz1 <| .c h2 <| .c oz3 <| .c h0 <| .c oz1 <| .c h2 <| .c oz3 <| .c oz13 <| .c oz14 <| .c oz13 <| .c oz14 <| .c (IntWalk.i64_in ((↑k : Int) + 1) (by omega)) <| .c (Weak.int (k := .i64) (show (((↑k : Int) + 1) : Int) = ((↑(k + 1) : Int)) from (by omega))) <| .n)
set_option maxRecDepth 100000 in
set_option maxHeartbeats 2000000 in
theorem bc_v_e (u : Bun) (I K J : Int) (l : List Blc) (h0 : 0 ≤ K) (h1 : K < l.length) (h2 : 0 ≤ J) (h3 : J < (l.getD K.toNat default).n.length) (hw : ((l.getD K.toNat default).n.getD J.toNat default).w.length ≤ 100000) : VT Tryz.prog (fnC Tryz.f3 [1, 1, 1, 1, 1, 0, 1, 0, 0, 1, 0, 0, 1, 0, 0, 1, 0, 0, 1, 1, 1, 1, 0, 0, 1, 0, 0, 1, 1, 0, 0]) (bc_v_I u I K J l (((l.getD K.toNat default).n.getD J.toNat default).w.length)) (.exit 8) (bc_v_Z u I K J l) := by
  have oz1 := (map_at (blcCF) (default) (l := l) (i := K.toNat) (by omega))
  have oz3 := (map_at (nodCF) (default) (l := (l.getD K.toNat default).n) (i := J.toNat) (by omega))
  exact VT.run (W := [.r [] [.rg [AV.fs 19 (List.map nodCF (l.getD K.toNat default).n), bv (l.getD K.toNat default).ex, AV.fs 1 (List.map (row1 IntKind.i8) (l.getD K.toNat default).w), AV.fs 1 (List.map (row1 IntKind.i32) (l.getD K.toNat default).b), i32 (l.getD K.toNat default).nd], .rg [], .rg [], .rg [i64 ((l.getD K.toNat default).n.getD J.toNat default).kd, i64 ((l.getD K.toNat default).n.getD J.toNat default).na, i64 ((l.getD K.toNat default).n.getD J.toNat default).nb, i64 ((l.getD K.toNat default).n.getD J.toNat default).nk, i64 ((l.getD K.toNat default).n.getD J.toNat default).ns, i64 ((l.getD K.toNat default).n.getD J.toNat default).np, i64 ((l.getD K.toNat default).n.getD J.toNat default).no, i8 ((l.getD K.toNat default).n.getD J.toNat default).za, i8 ((l.getD K.toNat default).n.getD J.toNat default).zb, AV.fs 1 (List.map (row1 IntKind.i8) ((l.getD K.toNat default).n.getD J.toNat default).w), AV.fs 1 (List.map (row1 IntKind.i32) ((l.getD K.toNat default).n.getD J.toNat default).b), i32 ((l.getD K.toNat default).n.getD J.toNat default).qm, i64 ((l.getD K.toNat default).n.getD J.toNat default).qs, i8 ((l.getD K.toNat default).n.getD J.toNat default).qz, i32 ((l.getD K.toNat default).n.getD J.toNat default).rm, i64 ((l.getD K.toNat default).n.getD J.toNat default).rs, i8 ((l.getD K.toNat default).n.getD J.toNat default).rz, i8 ((l.getD K.toNat default).n.getD J.toNat default).lo, i8 ((l.getD K.toNat default).n.getD J.toNat default).hi], .rg [], .rg [], .rg []], .br false]) (G := [.any (rg [(116, 12)]), .sort]) (by kernel_rfl) (.c h0 <| .c oz1 <| .c h2 <| .c oz3 <| .c (show decide ((↑((l.getD K.toNat default).n.getD J.toNat default).w.length : Int) < (↑(List.map (row1 IntKind.i8) ((l.getD K.toNat default).n.getD J.toNat default).w).length : Int)) = false by (simp; done)) <| .n)
theorem bc_v (u : Bun) (I K J : Int) (l : List Blc) (h0 : 0 ≤ K) (h1 : K < l.length) (h2 : 0 ≤ J) (h3 : J < (l.getD K.toNat default).n.length) (hw : ((l.getD K.toNat default).n.getD J.toNat default).w.length ≤ 100000) : VT Tryz.prog (fnC Tryz.f3 [1, 1, 1, 1, 1, 0, 1, 0, 0, 1, 0, 0, 1, 0, 0, 1, 0, 0, 1, 1, 1, 1, 0, 0, 1, 0, 0, 1, 1, 0]) (bc_v_I u I K J l 0) (.exit 8) (bc_v_Z u I K J l) :=
  VT.loop (fun k => bc_v_I u I K J l k) (((l.getD K.toNat default).n.getD J.toNat default).w.length) (fun k hk => bc_v_s u I K J l h0 h1 h2 h3 hw k hk) (bc_v_e u I K J l h0 h1 h2 h3 hw) (by intro h; cases h)

noncomputable def bc_n_I (u : Bun) (I K : Int) (l : List Blc) (k : Nat) : VS := stt 160 [(1, .ptr 1 0 0), (3, .ptr 3 0 0), (4, .ptr 4 0 0), (5, i64 I), (6, i64 K), (7, .tr 5 (l.map blcCF)), (9, i64 k)] [(1, .var (bunC u)), (3, .var (bunT u)), (4, .var (bunCF u)), (200000, .reg true)]
noncomputable def bc_n_Z (u : Bun) (I K : Int) (l : List Blc) : VS := bc_n_I u I K l ((l.getD K.toNat default).n.length)
set_option maxRecDepth 100000 in
set_option maxHeartbeats 2000000 in
theorem bc_n_s (u : Bun) (I K : Int) (l : List Blc) (h0 : 0 ≤ K) (h1 : K < l.length) (sz : (l.getD K.toNat default).Sz) (k : Nat) (hk : k < (l.getD K.toNat default).n.length) : VT Tryz.prog (fnC Tryz.f3 [1, 1, 1, 1, 1, 0, 1, 0, 0, 1, 0, 0, 1, 0, 0, 1, 0, 0, 1, 1, 1, 1, 0, 0]) (bc_n_I u I K l k) .normal (bc_n_I u I K l (k + 1)) := by
  have q1 := sz.l
  have q2 := (getD_in sz.n hk).1
  have oz1 := (map_at (blcCF) (default) (l := l) (i := K.toNat) (by omega))
  have oz7 := (show 0 ≤ (↑k : Int) by omega)
  have oz8 := (map_at (nodCF) (default) (l := (l.getD K.toNat default).n) (i := k) hk)
  have oz12 := @bc_v (u) (I) (K) ((↑k : Int)) (l) h0 h1 (by omega) (by omega) (by (simp at *; omega))
  exact VT.run (W := [.r [] [.rg [AV.fs 19 (List.map nodCF (l.getD K.toNat default).n), bv (l.getD K.toNat default).ex, AV.fs 1 (List.map (row1 IntKind.i8) (l.getD K.toNat default).w), AV.fs 1 (List.map (row1 IntKind.i32) (l.getD K.toNat default).b), i32 (l.getD K.toNat default).nd], .rg [], .rg [], .rg []], .br true, .r [] [.rg [AV.fs 19 (List.map nodCF (l.getD K.toNat default).n), bv (l.getD K.toNat default).ex, AV.fs 1 (List.map (row1 IntKind.i8) (l.getD K.toNat default).w), AV.fs 1 (List.map (row1 IntKind.i32) (l.getD K.toNat default).b), i32 (l.getD K.toNat default).nd], .rg [], .rg [], .rg [AV.fs 19 (List.map nodCF (l.getD K.toNat default).n), bv (l.getD K.toNat default).ex, AV.fs 1 (List.map (row1 IntKind.i8) (l.getD K.toNat default).w), AV.fs 1 (List.map (row1 IntKind.i32) (l.getD K.toNat default).b), i32 (l.getD K.toNat default).nd], .rg [], .rg [], .rg [i64 ((l.getD K.toNat default).n.getD k default).kd, i64 ((l.getD K.toNat default).n.getD k default).na, i64 ((l.getD K.toNat default).n.getD k default).nb, i64 ((l.getD K.toNat default).n.getD k default).nk, i64 ((l.getD K.toNat default).n.getD k default).ns, i64 ((l.getD K.toNat default).n.getD k default).np, i64 ((l.getD K.toNat default).n.getD k default).no, i8 ((l.getD K.toNat default).n.getD k default).za, i8 ((l.getD K.toNat default).n.getD k default).zb, AV.fs 1 (List.map (row1 IntKind.i8) ((l.getD K.toNat default).n.getD k default).w), AV.fs 1 (List.map (row1 IntKind.i32) ((l.getD K.toNat default).n.getD k default).b), i32 ((l.getD K.toNat default).n.getD k default).qm, i64 ((l.getD K.toNat default).n.getD k default).qs, i8 ((l.getD K.toNat default).n.getD k default).qz, i32 ((l.getD K.toNat default).n.getD k default).rm, i64 ((l.getD K.toNat default).n.getD k default).rs, i8 ((l.getD K.toNat default).n.getD k default).rz, i8 ((l.getD K.toNat default).n.getD k default).lo, i8 ((l.getD K.toNat default).n.getD k default).hi], .rg [], .rg [], .rg [], .rg [i64 ((l.getD K.toNat default).n.getD k default).kd, i64 ((l.getD K.toNat default).n.getD k default).na, i64 ((l.getD K.toNat default).n.getD k default).nb, i64 ((l.getD K.toNat default).n.getD k default).nk, i64 ((l.getD K.toNat default).n.getD k default).ns, i64 ((l.getD K.toNat default).n.getD k default).np, i64 ((l.getD K.toNat default).n.getD k default).no, i8 ((l.getD K.toNat default).n.getD k default).za, i8 ((l.getD K.toNat default).n.getD k default).zb, AV.fs 1 (List.map (row1 IntKind.i8) ((l.getD K.toNat default).n.getD k default).w), AV.fs 1 (List.map (row1 IntKind.i32) ((l.getD K.toNat default).n.getD k default).b), i32 ((l.getD K.toNat default).n.getD k default).qm, i64 ((l.getD K.toNat default).n.getD k default).qs, i8 ((l.getD K.toNat default).n.getD k default).qz, i32 ((l.getD K.toNat default).n.getD k default).rm, i64 ((l.getD K.toNat default).n.getD k default).rs, i8 ((l.getD K.toNat default).n.getD k default).rz, i8 ((l.getD K.toNat default).n.getD k default).lo, i8 ((l.getD K.toNat default).n.getD k default).hi], .rg [], .rg []], .r [] [], .code [.any (rg [(88, 8), (98, 18)]), .weak 10 (i64 (↑0 : Int)), .sort] (Exit.exit 8) (zO oz12), .r [] [.n ((↑k : Int) + 1)]]) (G := [.any [10, 96, 97], .weak 9 (i64 (↑(k + 1) : Int)), .sort]) (by kernel_rfl) (.c h0 <| .c oz1 <| .c (show decide ((↑k : Int) < (↑(List.map nodCF (l.getD K.toNat default).n).length : Int)) = true by (simp at *; omega)) <| .c h0 <| .c oz1 <| .c h0 <| .c oz1 <| .c oz7 <| .c oz8 <| .c oz7 <| .c oz8 <| .c (Weak.int (k := .i64) (show ((0) : Int) = ((↑0 : Int)) from (by omega))) <| .c oz12 <| .c (IntWalk.i64_in ((↑k : Int) + 1) (by omega)) <| .c (Weak.int (k := .i64) (show (((↑k : Int) + 1) : Int) = ((↑(k + 1) : Int)) from (by omega))) <| .n)
set_option maxRecDepth 100000 in
set_option maxHeartbeats 2000000 in
theorem bc_n_e (u : Bun) (I K : Int) (l : List Blc) (h0 : 0 ≤ K) (h1 : K < l.length) (sz : (l.getD K.toNat default).Sz) : VT Tryz.prog (fnC Tryz.f3 [1, 1, 1, 1, 1, 0, 1, 0, 0, 1, 0, 0, 1, 0, 0, 1, 0, 0, 1, 1, 1, 1, 0, 0]) (bc_n_I u I K l ((l.getD K.toNat default).n.length)) (.exit 6) (bc_n_Z u I K l) := by
  have q1 := sz.l
  have oz1 := (map_at (blcCF) (default) (l := l) (i := K.toNat) (by omega))
  exact VT.run (W := [.r [] [.rg [AV.fs 19 (List.map nodCF (l.getD K.toNat default).n), bv (l.getD K.toNat default).ex, AV.fs 1 (List.map (row1 IntKind.i8) (l.getD K.toNat default).w), AV.fs 1 (List.map (row1 IntKind.i32) (l.getD K.toNat default).b), i32 (l.getD K.toNat default).nd], .rg [], .rg [], .rg []], .br false]) (G := [.any (rg [(88, 8)]), .sort]) (by kernel_rfl) (.c h0 <| .c oz1 <| .c (show decide ((↑(l.getD K.toNat default).n.length : Int) < (↑(List.map nodCF (l.getD K.toNat default).n).length : Int)) = false by (simp; done)) <| .n)
theorem bc_n (u : Bun) (I K : Int) (l : List Blc) (h0 : 0 ≤ K) (h1 : K < l.length) (sz : (l.getD K.toNat default).Sz) : VT Tryz.prog (fnC Tryz.f3 [1, 1, 1, 1, 1, 0, 1, 0, 0, 1, 0, 0, 1, 0, 0, 1, 0, 0, 1, 1, 1, 1, 0]) (bc_n_I u I K l 0) (.exit 6) (bc_n_Z u I K l) :=
  VT.loop (fun k => bc_n_I u I K l k) ((l.getD K.toNat default).n.length) (fun k hk => bc_n_s u I K l h0 h1 sz k hk) (bc_n_e u I K l h0 h1 sz) (by intro h; cases h)

noncomputable def bc_b_I (u : Bun) (I : Int) (k : Nat) : VS := stt 160 [(1, .ptr 1 0 0), (3, .ptr 3 0 0), (4, .ptr 4 0 0), (5, i64 I), (6, i64 k)] [(1, .var (bunC u)), (3, .var (bunT u)), (4, .var (bunCF u)), (200000, .reg true)]
noncomputable def bc_b_Z (u : Bun) (I : Int) : VS := bc_b_I u I ((u.m.getD I.toNat default).l.length)
set_option maxRecDepth 100000 in
set_option maxHeartbeats 2000000 in
theorem bc_b_s (u : Bun) (I : Int) (h0 : 0 ≤ I) (h1 : I < u.m.length) (sz : (u.m.getD I.toNat default).Sz) (k : Nat) (hk : k < (u.m.getD I.toNat default).l.length) : VT Tryz.prog (fnC Tryz.f3 [1, 1, 1, 1, 1, 0, 1, 0, 0, 1, 0, 0, 1, 0, 0]) (bc_b_I u I k) .normal (bc_b_I u I (k + 1)) := by
  have q1 := sz.l
  have q2 := getD_in sz.b hk
  have q3 := q2.w
  have oz1 := (map_at (mdlCF) (default) (l := u.m) (i := I.toNat) (by omega))
  have oz5 := (show 0 ≤ (↑k : Int) by omega)
  have oz6 := (map_at (blcCF) (default) (l := (u.m.getD I.toNat default).l) (i := k) hk)
  have oz9 := (Weak.int (k := .i64) (show ((0) : Int) = ((↑0 : Int)) from (by omega)))
  have oz10 := @bc_w (u) (I) ((↑k : Int)) ((u.m.getD I.toNat default).l) (by omega) (by omega) (by (simp at *; omega))
  have oz12 := @bc_n (u) (I) ((↑k : Int)) ((u.m.getD I.toNat default).l) (by omega) (by omega) (by (simp at *; omega))
  exact VT.run (W := [.r [] [.rg [AV.fs 5 (List.map blcCF (u.m.getD I.toNat default).l)], .rg [], .rg [], .rg []], .br true, .r [] [.rg [AV.fs 5 (List.map blcCF (u.m.getD I.toNat default).l)], .rg [], .rg []], .r [] [.rg [AV.fs 19 (List.map nodCF ((u.m.getD I.toNat default).l.getD k default).n), bv ((u.m.getD I.toNat default).l.getD k default).ex, AV.fs 1 (List.map (row1 IntKind.i8) ((u.m.getD I.toNat default).l.getD k default).w), AV.fs 1 (List.map (row1 IntKind.i32) ((u.m.getD I.toNat default).l.getD k default).b), i32 ((u.m.getD I.toNat default).l.getD k default).nd], .rg [], .rg [], .rg [], .rg [], .rg [AV.fs 19 (List.map nodCF ((u.m.getD I.toNat default).l.getD k default).n), bv ((u.m.getD I.toNat default).l.getD k default).ex, AV.fs 1 (List.map (row1 IntKind.i8) ((u.m.getD I.toNat default).l.getD k default).w), AV.fs 1 (List.map (row1 IntKind.i32) ((u.m.getD I.toNat default).l.getD k default).b), i32 ((u.m.getD I.toNat default).l.getD k default).nd], .rg [], .rg [], .rg []], .r [] [], .code [.any (rg [(30, 9), (41, 18)]), .weak 8 (wO oz9), .sort] (Exit.exit 4) (zO oz10), .r [] [], .code [.any [8], .weak 9 (wO oz9), .sort] (Exit.exit 6) (zO oz12), .r [] [.n ((↑k : Int) + 1)]]) (G := [.any [7, 9, 39, 40], .weak 6 (i64 (↑(k + 1) : Int)), .sort]) (by kernel_rfl) (.c h0 <| .c oz1 <| .c (show decide ((↑k : Int) < (↑(List.map blcCF (u.m.getD I.toNat default).l).length : Int)) = true by (simp at *; omega)) <| .c h0 <| .c oz1 <| .c oz5 <| .c oz6 <| .c oz5 <| .c oz6 <| .c oz9 <| .c oz10 <| .c oz9 <| .c oz12 <| .c (IntWalk.i64_in ((↑k : Int) + 1) (by omega)) <| .c (Weak.int (k := .i64) (show (((↑k : Int) + 1) : Int) = ((↑(k + 1) : Int)) from (by omega))) <| .n)
set_option maxRecDepth 100000 in
set_option maxHeartbeats 2000000 in
theorem bc_b_e (u : Bun) (I : Int) (h0 : 0 ≤ I) (h1 : I < u.m.length) (sz : (u.m.getD I.toNat default).Sz) : VT Tryz.prog (fnC Tryz.f3 [1, 1, 1, 1, 1, 0, 1, 0, 0, 1, 0, 0, 1, 0, 0]) (bc_b_I u I ((u.m.getD I.toNat default).l.length)) (.exit 2) (bc_b_Z u I) := by
  have q1 := sz.l
  have oz1 := (map_at (mdlCF) (default) (l := u.m) (i := I.toNat) (by omega))
  exact VT.run (W := [.r [] [.rg [AV.fs 5 (List.map blcCF (u.m.getD I.toNat default).l)], .rg [], .rg [], .rg []], .br false]) (G := [.any (rg [(30, 9)]), .sort]) (by kernel_rfl) (.c h0 <| .c oz1 <| .c (show decide ((↑(u.m.getD I.toNat default).l.length : Int) < (↑(List.map blcCF (u.m.getD I.toNat default).l).length : Int)) = false by (simp; done)) <| .n)
theorem bc_b (u : Bun) (I : Int) (h0 : 0 ≤ I) (h1 : I < u.m.length) (sz : (u.m.getD I.toNat default).Sz) : VT Tryz.prog (fnC Tryz.f3 [1, 1, 1, 1, 1, 0, 1, 0, 0, 1, 0, 0, 1, 0]) (bc_b_I u I 0) (.exit 2) (bc_b_Z u I) :=
  VT.loop (fun k => bc_b_I u I k) ((u.m.getD I.toNat default).l.length) (fun k hk => bc_b_s u I h0 h1 sz k hk) (bc_b_e u I h0 h1 sz) (by intro h; cases h)

noncomputable def bc_m_I (u : Bun) (k : Nat) : VS := stt 160 [(1, .ptr 1 0 0), (3, .ptr 3 0 0), (4, .ptr 4 0 0), (5, i64 k)] [(1, .var (bunC u)), (3, .var (bunT u)), (4, .var (bunCF u)), (200000, .reg true)]
noncomputable def bc_m_Z (u : Bun) : VS := bc_m_I u (u.m.length)
set_option maxRecDepth 100000 in
set_option maxHeartbeats 2000000 in
theorem bc_m_s (u : Bun) (sz : u.Sz) (k : Nat) (hk : k < u.m.length) : VT Tryz.prog (fnC Tryz.f3 [1, 1, 1, 1, 1, 0, 1, 0, 0]) (bc_m_I u k) .normal (bc_m_I u (k + 1)) := by
  have q1 := sz.l
  have q2 := getD_in sz.b hk
  have oz2 := @bc_b (u) ((↑k : Int)) (by omega) (by omega) (by (simp at *; omega))
  exact VT.run (W := [.r [] [.rg []], .br true, .r [] [], .code [.any (rg [(23, 5)]), .weak 6 (i64 (↑0 : Int)), .sort] (Exit.exit 2) (zO oz2), .r [] [.n ((↑k : Int) + 1)]]) (G := [.any [6, 28, 29], .weak 5 (i64 (↑(k + 1) : Int)), .sort]) (by kernel_rfl) (.c (show decide ((↑k : Int) < (↑(List.map mdlCF u.m).length : Int)) = true by (simp; omega)) <| .c (Weak.int (k := .i64) (show ((0) : Int) = ((↑0 : Int)) from (by omega))) <| .c oz2 <| .c (IntWalk.i64_in ((↑k : Int) + 1) (by omega)) <| .c (Weak.int (k := .i64) (show (((↑k : Int) + 1) : Int) = ((↑(k + 1) : Int)) from (by omega))) <| .n)
set_option maxRecDepth 100000 in
set_option maxHeartbeats 2000000 in
theorem bc_m_e (u : Bun) (sz : u.Sz) : VT Tryz.prog (fnC Tryz.f3 [1, 1, 1, 1, 1, 0, 1, 0, 0]) (bc_m_I u (u.m.length)) (.exit 0) (bc_m_Z u) := by
  have q1 := sz.l
  exact VT.run (W := [.r [] [.rg []], .br false]) (G := [.any (rg [(23, 5)]), .sort]) (by kernel_rfl) (.c (show decide ((↑u.m.length : Int) < (↑(List.map mdlCF u.m).length : Int)) = false by (simp; done)) <| .n)
theorem bc_m (u : Bun) (sz : u.Sz) : VT Tryz.prog (fnC Tryz.f3 [1, 1, 1, 1, 1, 0, 1, 0]) (bc_m_I u 0) (.exit 0) (bc_m_Z u) :=
  VT.loop (fun k => bc_m_I u k) (u.m.length) (fun k hk => bc_m_s u sz k hk) (bc_m_e u sz) (by intro h; cases h)
end Go.Proofs.YtdmkhinckljddaaGreat

/- A copy stays when what was copied is another one: the law. No condition. -/
namespace Go.Proofs.YtdmkhinckljddaaGreat
open Go.RowKit
set_option linter.unusedSimpArgs false
set_option linter.unusedVariables false
set_option linter.unnecessarySimpa false

theorem p4c_v (F : Int → List Int) (h : P4V F) (n : Int) (h0 : 0 ≤ n) (h1 : n ≤ 4294967295) : VC Tryz.prog 20 [u32 n] (ints .u8 (F n)) := h n h0 h1
set_option maxRecDepth 100000 in
set_option maxHeartbeats 2000000 in
theorem seal_c (F : Int → List Int) (l : List Int) (hF : P4V F) (h4 : ∀ n, (F n).length = 4) (hx : ∀ x ∈ l, 0 ≤ x ∧ x ≤ 255) (hl : l.length ≤ 10000000) : VC Tryz.prog 10 ([ints .u8 l]) (ints .u8 (l ++ F (crcL l))) := by
  have q := crcL_bd l
  have q4 := h4 (crcL l)
  have oz0 := @crc_v (l) hx (by omega)
  have oz1 := @p4c_v (F) hF (crcL l) (by omega) (by omega)
  have oz2 := @joined_v (l) (F (crcL l)) (by omega)
  exact VC.run (fn := Tryz.f10) (W := [.r [] [], .r [] [.callr (rO oz0), .callr (rO oz1), .frz 0, .callr (rO oz2)]]) Tryz.func10 (by kernel_rfl) (.c oz0 <| .c oz1 <| .c oz2 <| .n)
theorem known35C : VC Tryz.prog 5 [] (bv true) :=
  known35_v (sealL [1]) (sealL_len [1]) (seal_c p32L [1] put32_v (fun _ => rfl) (by simp) (by simp)) (dec_o [] 20 (by decide) (open_s [] (by decide)))
theorem Bun.Sm.szC {u : Bun} (h : u.Sm) : u.Sz := ⟨by have := h.l; omega, fun m hm => ⟨by have := (h.m m hm).1; omega, fun x hx => ⟨by have := ((h.m m hm).2 x hx).l; omega, ((h.m m hm).2 x hx).s, ((h.m m hm).2 x hx).w, ((h.m m hm).2 x hx).b⟩⟩⟩
theorem bunEq_rflC (u : Bun) : bunEq u u = true := by
  have a : ∀ x : Blc, blcEq x x = true := fun x => by
    unfold blcEq
    rw [zip_refl fun n _ => (nodEq_iff n n).2 rfl]; simp
  have b : ∀ m : Mdl, mdlEq m m = true := fun m => zip_refl fun x _ => a x
  unfold bunEq
  rw [zip_refl fun x _ => b x]; simp
set_option maxRecDepth 100000 in
set_option maxHeartbeats 2000000 in
theorem bundleCopies_n (u : Bun) (h : bunS u = false) (hk : VC Tryz.prog 5 [] (bv true)) : VC Tryz.prog 3 ([bun u]) (bv true) := by
  have oz0 := @few31_v (u)
  have oz2 := @hk
  exact VC.run (fn := Tryz.f3) (W := [.r [] [], .r [] [.callr (rO oz0)], .br true, .r [] [.callr (rO oz2)]]) Tryz.func3 (by kernel_rfl) (.c oz0 <| .c (show (!bunS u) = true by (simp; omega)) <| .c oz2 <| .n)

set_option maxRecDepth 100000 in
set_option maxHeartbeats 2000000 in
theorem bundleCopies_y (u : Bun) (h : bunS u = true) (sz : u.Sz) (hk : VC Tryz.prog 5 [] (bv true)) (h6 : VC Tryz.prog 7 [bun u, bun u] (bv true)) : VC Tryz.prog 3 ([bun u]) (bv true) := by
  have oz0 := @few31_v (u)
  have oz3 := @copy_f (u) sz
  have oz5 := (show FsR (AV.agg (bunCF u)) by (exact bun_fs _))
  have oz7 := @h6
  have oz15 := @bc_m (u) sz
  have oz18 := (show true = true by with_reducible rfl)
  have oz19 := @hk
  exact VC.run (fn := Tryz.f3) (W := [.r [] [], .r [] [.callr (rO oz0)], .br false, .r [] [.callf (aO oz3) (rO oz3) true], .r [] [.call (aO oz7) (rO oz7)], .br false, .r [] [.callf (aO oz3) (rO oz3) false], .r [] [], .code [.any (rg [(0, 1), (2, 1), (11, 3), (15, 8)]), .weak 5 (i64 (↑0 : Int)), .blk 200000 (Blk.reg true), .sort] (Exit.exit 0) (zO oz15), .r [] [.call (aO oz7) (rO oz7), .br true, .callr (rO oz19), .br true]]) Tryz.func3 (by kernel_rfl) (.c oz0 <| .c (show (!bunS u) = false by (simp; omega)) <| .c (show WeakL [AV.agg [i64 u.h, i64 u.x, i64 u.c, i64 u.cl, AV.sl 1 (List.map mdlC u.m)]] [AV.agg [i64 u.h, i64 u.x, i64 u.c, i64 u.cl, AV.sl 1 (List.map mdlC u.m)]] from (WeakL.refl _)) <| .c oz3 <| .c (show NoL [AV.agg [i64 u.h, i64 u.x, i64 u.c, i64 u.cl, AV.sl 1 (List.map mdlC u.m)]] by (exact bun_no _)) <| .c oz5 <| .c (show WeakL [AV.agg [i64 u.h, i64 u.x, i64 u.c, i64 u.cl, AV.sl 1 (List.map mdlCF u.m)], AV.agg [i64 u.h, i64 u.x, i64 u.c, i64 u.cl, AV.sl 1 (List.map mdlC u.m)]] [AV.agg [i64 u.h, i64 u.x, i64 u.c, i64 u.cl, AV.sl 1 (List.map mdlC u.m)], AV.agg [i64 u.h, i64 u.x, i64 u.c, i64 u.cl, AV.sl 1 (List.map mdlC u.m)]] from (.cons (Weak.agg (.cons (.refl _) (.cons (.refl _) (.cons (.refl _) (.cons (.refl _) (.cons (Weak.rowsW (RowsW.un (mdlCF) (mdlC) _)) .nil)))))) (.cons (.refl _) .nil))) <| .c oz7 <| .c (show false = false by with_reducible rfl) <| .c (show WeakL [AV.agg [i64 u.h, i64 u.x, i64 u.c, i64 u.cl, AV.sl 1 (List.map mdlCF u.m)]] [AV.agg [i64 u.h, i64 u.x, i64 u.c, i64 u.cl, AV.sl 1 (List.map mdlC u.m)]] from (.cons (Weak.agg (.cons (.refl _) (.cons (.refl _) (.cons (.refl _) (.cons (.refl _) (.cons (Weak.rowsW (RowsW.un (mdlCF) (mdlC) _)) .nil)))))) .nil)) <| .c oz3 <| .c (show NoL [bun u] by (exact bun_no _)) <| .c oz5 <| .c (Weak.int (k := .i64) (show ((0) : Int) = ((↑0 : Int)) from (by omega))) <| .c BlkW.melt <| .c oz15 <| .c (show WeakL [AV.agg [i64 u.h, i64 u.x, i64 u.c, i64 u.cl, AV.fs 1 (List.map mdlCF u.m)], AV.agg [i64 u.h, i64 u.x, i64 u.c, i64 u.cl, AV.sl 1 (List.map mdlC u.m)]] [AV.agg [i64 u.h, i64 u.x, i64 u.c, i64 u.cl, AV.sl 1 (List.map mdlC u.m)], AV.agg [i64 u.h, i64 u.x, i64 u.c, i64 u.cl, AV.sl 1 (List.map mdlC u.m)]] from (.cons (Weak.agg (.cons (.refl _) (.cons (.refl _) (.cons (.refl _) (.cons (.refl _) (.cons (Weak.tr (Weak.fs0 _ _) (Weak.rowsW (RowsW.un (mdlCF) (mdlC) _))) .nil)))))) (.cons (.refl _) .nil))) <| .c oz7 <| .c oz18 <| .c oz19 <| .c oz18 <| .n)
theorem bundleCopies_v (u : Bun) : VC Tryz.prog 3 [bun u] (bv true) := by
  cases h : bunS u with
  | false => exact bundleCopies_n u h known35C
  | true =>
    have sz := (Bun.sm h).szC
    have h6 := lbn_v u u sz
    rw [bunEq_rflC] at h6
    exact bundleCopies_y u h sz known35C h6
end Go.Proofs.YtdmkhinckljddaaGreat

