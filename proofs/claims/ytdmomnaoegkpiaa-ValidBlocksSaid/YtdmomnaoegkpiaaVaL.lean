/- Whether bundles may be: the laws. No condition. -/
import Derived.Test.YtdmomnaoegkpiaaVaM
namespace Go.Proofs.Ytdmomnaoegkpiaa
open Go.RowKit
set_option linter.unusedSimpArgs false
set_option linter.unusedVariables false
set_option linter.unnecessarySimpa false

/-- What is wrong with the model j. -/
abbrev mE (u : Bun) (j : Nat) : Flt := modelE (u.m.getD j default).l u.inp u.cl j
noncomputable def vbundle_ly_I (u : Bun) (k : Nat) : VS := stt 27 [(1, .ptr 1 0 0), (2, .ptr 2 0 0), (14, i64 u.m.length), (15, i64 k)] [(1, .var (bunC u)), (2, .var [i64 0, i64 0, i64 0, i64 0])]
noncomputable def vbundle_ly_Z (u : Bun) : VS := vbundle_ly_I u (u.m.length)
set_option maxRecDepth 100000 in
set_option maxHeartbeats 2000000 in
theorem vbundle_ly_s (u : Bun) (ok : u.Ok) (sm : u.Sm) (h : ∀ j, j < u.m.length → mE u j = ⟨0, 0, 0, 0⟩) (k : Nat) (hk : k < u.m.length) : VT Try.prog (fnC Try.f38 [1, 1, 0, 1, 0, 0]) (vbundle_ly_I u k) .normal (vbundle_ly_I u (k + 1)) := by
  have q : modelE (u.m.getD k default).l u.inp u.cl k = ⟨0, 0, 0, 0⟩ := h k hk
  have q5 := sm.l
  have oz1 := @vmodel_v (u) (k) ok sm hk
  exact VT.run (W := [.r [] [], .br true, .r [] [], .r [] [.callr (rO oz1)], .r [] [.v (Value.bool !eqNums [(IntKind.i64, (modelE (u.m.getD k default).l u.inp u.cl (↑k : Int)).w, 0), (IntKind.i64, (modelE (u.m.getD k default).l u.inp u.cl (↑k : Int)).m, 0), (IntKind.i64, (modelE (u.m.getD k default).l u.inp u.cl (↑k : Int)).b, 0), (IntKind.i64, (modelE (u.m.getD k default).l u.inp u.cl (↑k : Int)).n, 0)])], .br false, .r [] [.n ((↑k : Int) + 1)]]) (G := [.any (rg [(4, 2), (16, 8), (25, 1)]), .drop [5], .weak 15 (i64 (↑(k + 1) : Int)), .sort]) (by kernel_rfl) (.c (decide_eq_true (p := ((↑k : Int) < (↑u.m.length : Int))) (by omega)) <| .c oz1 <| .c (show BinTo Try.prog BinOp.neq 90 (Operand.tmp 21) (Operand.tmp 22) (Value.agg #[Value.int IntKind.i64 (modelE (u.m.getD k default).l u.inp u.cl (↑k : Int)).w, Value.int IntKind.i64 (modelE (u.m.getD k default).l u.inp u.cl (↑k : Int)).m, Value.int IntKind.i64 (modelE (u.m.getD k default).l u.inp u.cl (↑k : Int)).b, Value.int IntKind.i64 (modelE (u.m.getD k default).l u.inp u.cl (↑k : Int)).n]) (Value.agg #[Value.int IntKind.i64 0, Value.int IntKind.i64 0, Value.int IntKind.i64 0, Value.int IntKind.i64 0]) (Value.bool !eqNums [(IntKind.i64, (modelE (u.m.getD k default).l u.inp u.cl (↑k : Int)).w, 0), (IntKind.i64, (modelE (u.m.getD k default).l u.inp u.cl (↑k : Int)).m, 0), (IntKind.i64, (modelE (u.m.getD k default).l u.inp u.cl (↑k : Int)).b, 0), (IntKind.i64, (modelE (u.m.getD k default).l u.inp u.cl (↑k : Int)).n, 0)]) from ((bin_nums (l := [(IntKind.i64, (modelE (u.m.getD k default).l u.inp u.cl (↑k : Int)).w, 0), (IntKind.i64, (modelE (u.m.getD k default).l u.inp u.cl (↑k : Int)).m, 0), (IntKind.i64, (modelE (u.m.getD k default).l u.inp u.cl (↑k : Int)).b, 0), (IntKind.i64, (modelE (u.m.getD k default).l u.inp u.cl (↑k : Int)).n, 0)]) (by kernel_rfl) (by kernel_rfl) (by kernel_rfl) (by kernel_rfl) _ _).2)) <| .c (show (!eqNums [(IntKind.i64, (modelE (u.m.getD k default).l u.inp u.cl (↑k : Int)).w, 0), (IntKind.i64, (modelE (u.m.getD k default).l u.inp u.cl (↑k : Int)).m, 0), (IntKind.i64, (modelE (u.m.getD k default).l u.inp u.cl (↑k : Int)).b, 0), (IntKind.i64, (modelE (u.m.getD k default).l u.inp u.cl (↑k : Int)).n, 0)]) = false by (rw [q]; rfl)) <| .c (IntWalk.i64_in ((↑k : Int) + 1) (by omega)) <| .c (Weak.int (k := .i64) (show (((↑k : Int) + 1) : Int) = ((↑(k + 1) : Int)) from (by omega))) <| .n)
set_option maxRecDepth 100000 in
set_option maxHeartbeats 2000000 in
theorem vbundle_ly_e (u : Bun) (ok : u.Ok) (sm : u.Sm) (h : ∀ j, j < u.m.length → mE u j = ⟨0, 0, 0, 0⟩) : VT Try.prog (fnC Try.f38 [1, 1, 0, 1, 0, 0]) (vbundle_ly_I u (u.m.length)) (.exit 0) (vbundle_ly_Z u) := by
  exact VT.run (W := [.r [] [], .br false]) (G := [.any [16], .sort]) (by kernel_rfl) (.c (decide_eq_false (p := ((↑u.m.length : Int) < (↑u.m.length : Int))) (by omega)) <| .n)
theorem vbundle_ly (u : Bun) (ok : u.Ok) (sm : u.Sm) (h : ∀ j, j < u.m.length → mE u j = ⟨0, 0, 0, 0⟩) : VT Try.prog (fnC Try.f38 [1, 1, 0, 1, 0]) (vbundle_ly_I u 0) (.exit 0) (vbundle_ly_Z u) :=
  VT.loop (fun k => vbundle_ly_I u k) (u.m.length) (fun k hk => vbundle_ly_s u ok sm h k hk) (vbundle_ly_e u ok sm h) (by intro h; cases h)

noncomputable def vbundle_ln_I (u : Bun) (m : Nat) (k : Nat) : VS := stt 27 [(1, .ptr 1 0 0), (2, .ptr 2 0 0), (14, i64 u.m.length), (15, i64 k)] [(1, .var (bunC u)), (2, .var [i64 0, i64 0, i64 0, i64 0])]
noncomputable def vbundle_ln_Z (u : Bun) (m : Nat) : VS := stt 27 [(2, .ptr 2 0 0)] [(2, .var (fltC (mE u m)))]
set_option maxRecDepth 100000 in
set_option maxHeartbeats 2000000 in
theorem vbundle_ln_s (u : Bun) (m : Nat) (ok : u.Ok) (sm : u.Sm) (hm : m < u.m.length) (hf : (mE u m).w ≠ 0) (h : ∀ j, j < m → mE u j = ⟨0, 0, 0, 0⟩) (k : Nat) (hk : k < m) : VT Try.prog (fnC Try.f38 [1, 1, 0, 1, 0, 0]) (vbundle_ln_I u m k) .normal (vbundle_ln_I u m (k + 1)) := by
  have q : modelE (u.m.getD k default).l u.inp u.cl k = ⟨0, 0, 0, 0⟩ := h k hk
  have q5 := sm.l
  have oz1 := @vmodel_v (u) (k) ok sm (by omega)
  exact VT.run (W := [.r [] [], .br true, .r [] [], .r [] [.callr (rO oz1)], .r [] [.v (Value.bool !eqNums [(IntKind.i64, (modelE (u.m.getD k default).l u.inp u.cl (↑k : Int)).w, 0), (IntKind.i64, (modelE (u.m.getD k default).l u.inp u.cl (↑k : Int)).m, 0), (IntKind.i64, (modelE (u.m.getD k default).l u.inp u.cl (↑k : Int)).b, 0), (IntKind.i64, (modelE (u.m.getD k default).l u.inp u.cl (↑k : Int)).n, 0)])], .br false, .r [] [.n ((↑k : Int) + 1)]]) (G := [.any (rg [(4, 2), (16, 8), (25, 1)]), .drop [5], .weak 15 (i64 (↑(k + 1) : Int)), .sort]) (by kernel_rfl) (.c (decide_eq_true (p := ((↑k : Int) < (↑u.m.length : Int))) (by omega)) <| .c oz1 <| .c (show BinTo Try.prog BinOp.neq 90 (Operand.tmp 21) (Operand.tmp 22) (Value.agg #[Value.int IntKind.i64 (modelE (u.m.getD k default).l u.inp u.cl (↑k : Int)).w, Value.int IntKind.i64 (modelE (u.m.getD k default).l u.inp u.cl (↑k : Int)).m, Value.int IntKind.i64 (modelE (u.m.getD k default).l u.inp u.cl (↑k : Int)).b, Value.int IntKind.i64 (modelE (u.m.getD k default).l u.inp u.cl (↑k : Int)).n]) (Value.agg #[Value.int IntKind.i64 0, Value.int IntKind.i64 0, Value.int IntKind.i64 0, Value.int IntKind.i64 0]) (Value.bool !eqNums [(IntKind.i64, (modelE (u.m.getD k default).l u.inp u.cl (↑k : Int)).w, 0), (IntKind.i64, (modelE (u.m.getD k default).l u.inp u.cl (↑k : Int)).m, 0), (IntKind.i64, (modelE (u.m.getD k default).l u.inp u.cl (↑k : Int)).b, 0), (IntKind.i64, (modelE (u.m.getD k default).l u.inp u.cl (↑k : Int)).n, 0)]) from ((bin_nums (l := [(IntKind.i64, (modelE (u.m.getD k default).l u.inp u.cl (↑k : Int)).w, 0), (IntKind.i64, (modelE (u.m.getD k default).l u.inp u.cl (↑k : Int)).m, 0), (IntKind.i64, (modelE (u.m.getD k default).l u.inp u.cl (↑k : Int)).b, 0), (IntKind.i64, (modelE (u.m.getD k default).l u.inp u.cl (↑k : Int)).n, 0)]) (by kernel_rfl) (by kernel_rfl) (by kernel_rfl) (by kernel_rfl) _ _).2)) <| .c (show (!eqNums [(IntKind.i64, (modelE (u.m.getD k default).l u.inp u.cl (↑k : Int)).w, 0), (IntKind.i64, (modelE (u.m.getD k default).l u.inp u.cl (↑k : Int)).m, 0), (IntKind.i64, (modelE (u.m.getD k default).l u.inp u.cl (↑k : Int)).b, 0), (IntKind.i64, (modelE (u.m.getD k default).l u.inp u.cl (↑k : Int)).n, 0)]) = false by (rw [q]; rfl)) <| .c (IntWalk.i64_in ((↑k : Int) + 1) (by omega)) <| .c (Weak.int (k := .i64) (show (((↑k : Int) + 1) : Int) = ((↑(k + 1) : Int)) from (by omega))) <| .n)
set_option maxRecDepth 100000 in
set_option maxHeartbeats 2000000 in
theorem vbundle_ln_e (u : Bun) (m : Nat) (ok : u.Ok) (sm : u.Sm) (hm : m < u.m.length) (hf : (mE u m).w ≠ 0) (h : ∀ j, j < m → mE u j = ⟨0, 0, 0, 0⟩) : VT Try.prog (fnC Try.f38 [1, 1, 0, 1, 0, 0]) (vbundle_ln_I u m (m)) (.ret) (vbundle_ln_Z u m) := by
  have q5 := sm.l
  have hg : ¬ (modelE (u.m.getD m default).l u.inp u.cl m).w = 0 := hf
  have oz1 := @vmodel_v (u) (m) ok sm hm
  exact VT.run (W := [.r [] [], .br true, .r [] [], .r [] [.callr (rO oz1)], .r [] [.v (Value.bool !eqNums [(IntKind.i64, (modelE (u.m.getD m default).l u.inp u.cl (↑m : Int)).w, 0), (IntKind.i64, (modelE (u.m.getD m default).l u.inp u.cl (↑m : Int)).m, 0), (IntKind.i64, (modelE (u.m.getD m default).l u.inp u.cl (↑m : Int)).b, 0), (IntKind.i64, (modelE (u.m.getD m default).l u.inp u.cl (↑m : Int)).n, 0)])], .br true, .r [] []]) (G := [.any (rg [(1, 1), (4, 2), (14, 11)]), .drop [1, 5], .sort]) (by kernel_rfl) (.c (decide_eq_true (p := ((↑m : Int) < (↑u.m.length : Int))) (by omega)) <| .c oz1 <| .c (show BinTo Try.prog BinOp.neq 90 (Operand.tmp 21) (Operand.tmp 22) (Value.agg #[Value.int IntKind.i64 (modelE (u.m.getD m default).l u.inp u.cl (↑m : Int)).w, Value.int IntKind.i64 (modelE (u.m.getD m default).l u.inp u.cl (↑m : Int)).m, Value.int IntKind.i64 (modelE (u.m.getD m default).l u.inp u.cl (↑m : Int)).b, Value.int IntKind.i64 (modelE (u.m.getD m default).l u.inp u.cl (↑m : Int)).n]) (Value.agg #[Value.int IntKind.i64 0, Value.int IntKind.i64 0, Value.int IntKind.i64 0, Value.int IntKind.i64 0]) (Value.bool !eqNums [(IntKind.i64, (modelE (u.m.getD m default).l u.inp u.cl (↑m : Int)).w, 0), (IntKind.i64, (modelE (u.m.getD m default).l u.inp u.cl (↑m : Int)).m, 0), (IntKind.i64, (modelE (u.m.getD m default).l u.inp u.cl (↑m : Int)).b, 0), (IntKind.i64, (modelE (u.m.getD m default).l u.inp u.cl (↑m : Int)).n, 0)]) from ((bin_nums (l := [(IntKind.i64, (modelE (u.m.getD m default).l u.inp u.cl (↑m : Int)).w, 0), (IntKind.i64, (modelE (u.m.getD m default).l u.inp u.cl (↑m : Int)).m, 0), (IntKind.i64, (modelE (u.m.getD m default).l u.inp u.cl (↑m : Int)).b, 0), (IntKind.i64, (modelE (u.m.getD m default).l u.inp u.cl (↑m : Int)).n, 0)]) (by kernel_rfl) (by kernel_rfl) (by kernel_rfl) (by kernel_rfl) _ _).2)) <| .c (show (!eqNums [(IntKind.i64, (modelE (u.m.getD m default).l u.inp u.cl (↑m : Int)).w, 0), (IntKind.i64, (modelE (u.m.getD m default).l u.inp u.cl (↑m : Int)).m, 0), (IntKind.i64, (modelE (u.m.getD m default).l u.inp u.cl (↑m : Int)).b, 0), (IntKind.i64, (modelE (u.m.getD m default).l u.inp u.cl (↑m : Int)).n, 0)]) = true by (simp only [eqNums]; rw [beq_eq_false_iff_ne.2 hg]; rfl)) <| .n)
theorem vbundle_ln (u : Bun) (m : Nat) (ok : u.Ok) (sm : u.Sm) (hm : m < u.m.length) (hf : (mE u m).w ≠ 0) (h : ∀ j, j < m → mE u j = ⟨0, 0, 0, 0⟩) : VT Try.prog (fnC Try.f38 [1, 1, 0, 1, 0]) (vbundle_ln_I u m 0) (.ret) (vbundle_ln_Z u m) :=
  VT.loop (fun k => vbundle_ln_I u m k) (m) (fun k hk => vbundle_ln_s u m ok sm hm hf h k hk) (vbundle_ln_e u m ok sm hm hf h) (by intro h; cases h)
def bunE (u : Bun) : Flt := if wholeE u ≠ 0 then ⟨wholeE u, -1, -1, -1⟩ else if firstBad (fun j => (mE u j).w == 0) u.m.length < u.m.length then mE u (firstBad (fun j => (mE u j).w == 0) u.m.length) else ⟨0, 0, 0, 0⟩
theorem bunE_y {u : Bun} (w : wholeE u = 0) (h : ∀ j, j < u.m.length → mE u j = ⟨0, 0, 0, 0⟩) : bunE u = ⟨0, 0, 0, 0⟩ := by
  unfold bunE
  rw [if_neg (by simp [w]), firstBad_all fun j hj => by rw [h j hj]; rfl, if_neg (by omega)]
theorem bunE_m {u : Bun} {m : Nat} (w : wholeE u = 0) (hm : m < u.m.length) (hf : (mE u m).w ≠ 0) (h : ∀ j, j < m → mE u j = ⟨0, 0, 0, 0⟩) : bunE u = mE u m := by
  have e := firstBad_at (p := fun j => (mE u j).w == 0) (m := m) (by simpa using hf) (fun j hj => by rw [h j hj]; rfl) hm
  unfold bunE
  rw [if_neg (by simp [w]), e, if_pos hm]
theorem bunE_cases (u : Bun) : wholeE u ≠ 0 ∨ (wholeE u = 0 ∧ ∀ j, j < u.m.length → mE u j = ⟨0, 0, 0, 0⟩) ∨ (wholeE u = 0 ∧ ∃ m, m < u.m.length ∧ (mE u m).w ≠ 0 ∧ ∀ j, j < m → mE u j = ⟨0, 0, 0, 0⟩) := by
  by_cases w : wholeE u = 0
  · rcases all_or (fun j => (mE u j).w == 0) u.m.length with h | ⟨m, h1, h2, h3⟩
    · exact .inr (.inl ⟨w, fun j hj => modelE_z (beq_iff_eq.1 (h j hj))⟩)
    · exact .inr (.inr ⟨w, m, h1, by simpa using h2, fun j hj => modelE_z (beq_iff_eq.1 (h3 j hj))⟩)
  · exact .inl w
set_option maxRecDepth 100000 in
set_option maxHeartbeats 2000000 in
theorem vbundle_a (u : Bun) (ok : u.Ok) (sm : u.Sm) (h : wholeE u ≠ 0) : VC Try.prog 38 ([bun u]) (flt (bunE u)) := by
  have q5 := sm.l
  have oz0 := @vwhole_v (u) ok (by omega)
  exact (VC.run (fn := Try.f38) (W := [.r [] [], .r [] [.callr (rO oz0)], .r [] [], .br true, .r [] []]) (r := AV.agg [i64 (wholeE u), i64 (-1), i64 (-1), i64 (-1)]) Try.func38 (by kernel_rfl) (.c oz0 <| .c (show (wholeE u != 0) = true by (simp; omega)) <| .n)).weak (WeakL.refl _) (Weak.agg (.cons (Weak.int (show ((wholeE u) : Int) = ((bunE u).w) from (by (unfold bunE; rw [if_pos h])))) (.cons (Weak.int (show ((-1) : Int) = ((bunE u).m) from (by (unfold bunE; rw [if_pos h])))) (.cons (Weak.int (show ((-1) : Int) = ((bunE u).b) from (by (unfold bunE; rw [if_pos h])))) (.cons (Weak.int (show ((-1) : Int) = ((bunE u).n) from (by (unfold bunE; rw [if_pos h])))) .nil)))))

set_option maxRecDepth 100000 in
set_option maxHeartbeats 2000000 in
theorem vbundle_y (u : Bun) (ok : u.Ok) (sm : u.Sm) (w : wholeE u = 0) (h : ∀ j, j < u.m.length → mE u j = ⟨0, 0, 0, 0⟩) : VC Try.prog 38 ([bun u]) (flt ⟨0, 0, 0, 0⟩) := by
  have q5 := sm.l
  have oz0 := @vwhole_v (u) ok (by omega)
  have oz4 := @vbundle_ly (u) ok sm h
  exact VC.run (fn := Try.f38) (W := [.r [] [], .r [] [.callr (rO oz0)], .r [] [], .br false, .r [] [], .code [.any [0, 3, 6, 7, 8, 9, 12, 13], .weak 14 (i64 (↑u.m.length : Int)), .weak 15 (i64 (↑0 : Int)), .sort] (Exit.exit 0) (zO oz4), .r [] []]) Try.func38 (by kernel_rfl) (.c oz0 <| .c (show (wholeE u != 0) = false by (rw [w]; rfl)) <| .c (Weak.int (k := .i64) (show (((↑(List.map mdlC u.m).length : Int)) : Int) = ((↑u.m.length : Int)) from (by (simp; done)))) <| .c (Weak.int (k := .i64) (show ((0) : Int) = ((↑0 : Int)) from (by omega))) <| .c oz4 <| .n)

set_option maxRecDepth 100000 in
set_option maxHeartbeats 2000000 in
theorem vbundle_m (u : Bun) (m : Nat) (ok : u.Ok) (sm : u.Sm) (w : wholeE u = 0) (hm : m < u.m.length) (hf : (mE u m).w ≠ 0) (h : ∀ j, j < m → mE u j = ⟨0, 0, 0, 0⟩) : VC Try.prog 38 ([bun u]) (flt (mE u m)) := by
  have q5 := sm.l
  have oz0 := @vwhole_v (u) ok (by omega)
  have oz4 := @vbundle_ln (u) (m) ok sm hm hf h
  exact VC.run (fn := Try.f38) (W := [.r [] [], .r [] [.callr (rO oz0)], .r [] [], .br false, .r [] [], .code [.any [0, 3, 6, 7, 8, 9, 12, 13], .weak 14 (i64 (↑u.m.length : Int)), .weak 15 (i64 (↑0 : Int)), .sort] (Exit.ret) (zO oz4)]) Try.func38 (by kernel_rfl) (.c oz0 <| .c (show (wholeE u != 0) = false by (rw [w]; rfl)) <| .c (Weak.int (k := .i64) (show (((↑(List.map mdlC u.m).length : Int)) : Int) = ((↑u.m.length : Int)) from (by (simp; done)))) <| .c (Weak.int (k := .i64) (show ((0) : Int) = ((↑0 : Int)) from (by omega))) <| .c oz4 <| .n)
theorem vbundle_v (u : Bun) (ok : u.Ok) (sm : u.Sm) : VC Try.prog 38 [bun u] (flt (bunE u)) := by
  rcases bunE_cases u with h | ⟨w, h⟩ | ⟨w, m, h1, h2, h3⟩
  · exact vbundle_a u ok sm h
  · rw [bunE_y w h]; exact vbundle_y u ok sm w h
  · rw [bunE_m w h1 h2 h3]; exact vbundle_m u m ok sm w h1 h2 h3
set_option maxRecDepth 100000 in
set_option maxHeartbeats 2000000 in
theorem vright_v (u : Bun) (ok : u.Ok) (sm : u.Sm) : VC Try.prog 40 ([bun u]) (bv ((bunE u).w == 0)) := by
  have oz0 := @vbundle_v (u) ok sm
  exact VC.run (fn := Try.f40) (W := [.r [] [], .r [] [.callr (rO oz0)]]) Try.func40 (by kernel_rfl) (.c oz0 <| .n)

noncomputable def rvm_iy_I (u : Bun) (l : List Blc) (a : Shp) (j : Int) (k : Nat) : VS := stt 108 [(1, .ptr 1 0 0), (2, .ptr 2 0 0), (3, i64 j), (4, .sl 5 (l.map blcC)), (5, .ptr 5 0 0), (6, i64 k)] [(1, .var (bunC u)), (2, .var [i64 0, i64 0, i64 0, i64 0]), (5, .var (shpC (inS l a k)))]
noncomputable def rvm_iy_Z (u : Bun) (l : List Blc) (a : Shp) (j : Int) : VS := rvm_iy_I u l a j (l.length)
set_option maxRecDepth 100000 in
set_option maxHeartbeats 2000000 in
theorem rvm_iy_s (u : Bun) (l : List Blc) (a : Shp) (j : Int) (ok : ∀ d ∈ l, d.Ok) (sm : ∀ d ∈ l, d.Sm) (oka : a.Ok) (hl : l.length ≤ 6) (h : ∀ k, k < l.length → (vB l a u.cl k).2 = 0) (k : Nat) (hk : k < l.length) : VT Try.prog (fnC Try.f39 [1, 1, 1, 1, 1, 0, 1, 0, 0, 1, 0, 0, 1, 1, 1, 1, 1, 0, 0]) (rvm_iy_I u l a j k) .normal (rvm_iy_I u l a j (k + 1)) := by
  have q := h k hk
  have q1 := validE_ok q
  have q2 := getD_in ok hk
  have q3 := getD_in sm hk
  have q4 := inS_ok (l := l) oka k
  have lb : (List.map blcC l).length = l.length := List.length_map _
  have q5 := q2.n
  have q6 := q3.s
  have q7 := q3.l
  have l1 := growL_len nextE (l.getD k default).n (inS l a k) (l.getD k default).n.length
  have l3 : (List.map shpC (growL nextE (l.getD k default).n (inS l a k) (l.getD k default).n.length)).length = (growL nextE (l.getD k default).n (inS l a k) (l.getD k default).n.length).length := List.length_map _
  have i1 : ((↑(List.map shpC (growL nextE (l.getD k default).n (inS l a k) (l.getD k default).n.length)).length : Int) - 1).toNat = (l.getD k default).n.length := by omega
  have oz1 := (show 0 ≤ (↑k : Int) by omega)
  have oz2 := (map_at (blcC) (default) (l := l) (i := k) hk)
  have oz3 := (IntWalk.i64_in ((↑(List.map blcC l).length : Int) - 1) (by omega))
  have oz4 := @rvblock_v (l.getD k default) (inS l a k) (u.cl) ((↑k : Int) == (↑(List.map blcC l).length : Int) - 1) q2 q4 q3
  have oz8 := @rshapes_y ((l.getD k default).n) (inS l a k) q5 q6 q1
  have oz9 := (IntWalk.i64_in ((↑(List.map shpC (growL nextE (l.getD k default).n (inS l a k) (l.getD k default).n.length)).length : Int) - 1) (by omega))
  have oz11 := (map_at (shpC) (default) (l := growL nextE (l.getD k default).n (inS l a k) (l.getD k default).n.length) (i := ((↑(List.map shpC (growL nextE (l.getD k default).n (inS l a k) (l.getD k default).n.length)).length : Int) - 1).toNat) (by omega))
  exact VT.run (W := [.r [] [], .br true, .r [] [.row (sO oz2), .n (nO oz3), .callr (rO oz4)], .r [] [], .br false, .r [] [.row (sO oz2), .callr (rO oz8)], .r [] [.n (nO oz9), .row (sO oz11)], .r [] [.n ((↑k : Int) + 1)]]) (G := [.any (rg [(7, 5), (61, 24), (90, 17)]), .weak 6 (i64 (↑(k + 1) : Int)), .blk 5 (Blk.var [i64 (inS l a (k + 1)).h, i64 (inS l a (k + 1)).x, i64 (inS l a (k + 1)).c]), .sort]) (by kernel_rfl) (.c (decide_eq_true (p := ((↑k : Int) < (↑(List.map blcC l).length : Int))) (by omega)) <| .c oz1 <| .c oz2 <| .c oz3 <| .c oz4 <| .c (show ((validE (l.getD k default) (inS l a k) u.cl ((↑k : Int) == (↑(List.map blcC l).length : Int) - 1)).snd != 0) = false by (rw [q]; rfl)) <| .c oz1 <| .c oz2 <| .c oz8 <| .c oz9 <| .c (show 0 ≤ (↑(List.map shpC (growL nextE (l.getD k default).n (inS l a k) (l.getD k default).n.length)).length : Int) - 1 by omega) <| .c oz11 <| .c (IntWalk.i64_in ((↑k : Int) + 1) (by omega)) <| .c (Weak.int (k := .i64) (show (((↑k : Int) + 1) : Int) = ((↑(k + 1) : Int)) from (by omega))) <| .c (show BlkW (Blk.var [i64 ((growL nextE (l.getD k default).n (inS l a k) (l.getD k default).n.length).getD ((↑(List.map shpC (growL nextE (l.getD k default).n (inS l a k) (l.getD k default).n.length)).length : Int) - 1).toNat default).h, i64 ((growL nextE (l.getD k default).n (inS l a k) (l.getD k default).n.length).getD ((↑(List.map shpC (growL nextE (l.getD k default).n (inS l a k) (l.getD k default).n.length)).length : Int) - 1).toNat default).x, i64 ((growL nextE (l.getD k default).n (inS l a k) (l.getD k default).n.length).getD ((↑(List.map shpC (growL nextE (l.getD k default).n (inS l a k) (l.getD k default).n.length)).length : Int) - 1).toNat default).c]) (Blk.var [i64 (inS l a (k + 1)).h, i64 (inS l a (k + 1)).x, i64 (inS l a (k + 1)).c]) from (BlkW.var (.cons (Weak.int (show ((((growL nextE (l.getD k default).n (inS l a k) (l.getD k default).n.length).getD ((↑(List.map shpC (growL nextE (l.getD k default).n (inS l a k) (l.getD k default).n.length)).length : Int) - 1).toNat default).h) : Int) = ((inS l a (k + 1)).h) from (by (rw [i1] <;> rfl)))) (.cons (Weak.int (show ((((growL nextE (l.getD k default).n (inS l a k) (l.getD k default).n.length).getD ((↑(List.map shpC (growL nextE (l.getD k default).n (inS l a k) (l.getD k default).n.length)).length : Int) - 1).toNat default).x) : Int) = ((inS l a (k + 1)).x) from (by (rw [i1] <;> rfl)))) (.cons (Weak.int (show ((((growL nextE (l.getD k default).n (inS l a k) (l.getD k default).n.length).getD ((↑(List.map shpC (growL nextE (l.getD k default).n (inS l a k) (l.getD k default).n.length)).length : Int) - 1).toNat default).c) : Int) = ((inS l a (k + 1)).c) from (by (rw [i1] <;> rfl)))) .nil))))) <| .n)
set_option maxRecDepth 100000 in
set_option maxHeartbeats 2000000 in
theorem rvm_iy_e (u : Bun) (l : List Blc) (a : Shp) (j : Int) (ok : ∀ d ∈ l, d.Ok) (sm : ∀ d ∈ l, d.Sm) (oka : a.Ok) (hl : l.length ≤ 6) (h : ∀ k, k < l.length → (vB l a u.cl k).2 = 0) : VT Try.prog (fnC Try.f39 [1, 1, 1, 1, 1, 0, 1, 0, 0, 1, 0, 0, 1, 1, 1, 1, 1, 0, 0]) (rvm_iy_I u l a j (l.length)) (.exit 2) (rvm_iy_Z u l a j) := by
  exact VT.run (W := [.r [] [], .br false]) (G := [.any (rg [(61, 4)]), .sort]) (by kernel_rfl) (.c (show decide ((↑l.length : Int) < (↑(List.map blcC l).length : Int)) = false by (simp; done)) <| .n)
theorem rvm_iy (u : Bun) (l : List Blc) (a : Shp) (j : Int) (ok : ∀ d ∈ l, d.Ok) (sm : ∀ d ∈ l, d.Sm) (oka : a.Ok) (hl : l.length ≤ 6) (h : ∀ k, k < l.length → (vB l a u.cl k).2 = 0) : VT Try.prog (fnC Try.f39 [1, 1, 1, 1, 1, 0, 1, 0, 0, 1, 0, 0, 1, 1, 1, 1, 1, 0]) (rvm_iy_I u l a j 0) (.exit 2) (rvm_iy_Z u l a j) :=
  VT.loop (fun k => rvm_iy_I u l a j k) (l.length) (fun k hk => rvm_iy_s u l a j ok sm oka hl h k hk) (rvm_iy_e u l a j ok sm oka hl h) (by intro h; cases h)

noncomputable def rvm_in_I (u : Bun) (l : List Blc) (a : Shp) (j : Int) (m : Nat) (k : Nat) : VS := stt 108 [(1, .ptr 1 0 0), (2, .ptr 2 0 0), (3, i64 j), (4, .sl 5 (l.map blcC)), (5, .ptr 5 0 0), (6, i64 k)] [(1, .var (bunC u)), (2, .var [i64 0, i64 0, i64 0, i64 0]), (5, .var (shpC (inS l a k)))]
noncomputable def rvm_in_Z (u : Bun) (l : List Blc) (a : Shp) (j : Int) (m : Nat) : VS := stt 108 [(2, .ptr 2 0 0)] [(2, .var [i64 (vB l a u.cl m).2, i64 j, i64 m, i64 (vB l a u.cl m).1])]
set_option maxRecDepth 100000 in
set_option maxHeartbeats 2000000 in
theorem rvm_in_s (u : Bun) (l : List Blc) (a : Shp) (j : Int) (m : Nat) (ok : ∀ d ∈ l, d.Ok) (sm : ∀ d ∈ l, d.Sm) (oka : a.Ok) (hl : l.length ≤ 6) (hm : m < l.length) (hf : (vB l a u.cl m).2 ≠ 0) (h : ∀ k, k < m → (vB l a u.cl k).2 = 0) (k : Nat) (hk : k < m) : VT Try.prog (fnC Try.f39 [1, 1, 1, 1, 1, 0, 1, 0, 0, 1, 0, 0, 1, 1, 1, 1, 1, 0, 0]) (rvm_in_I u l a j m k) .normal (rvm_in_I u l a j m (k + 1)) := by
  have q := h k hk
  have q1 := validE_ok q
  have q2 := getD_in ok (show k < l.length by omega)
  have q3 := getD_in sm (show k < l.length by omega)
  have q4 := inS_ok (l := l) oka k
  have lb : (List.map blcC l).length = l.length := List.length_map _
  have q5 := q2.n
  have q6 := q3.s
  have q7 := q3.l
  have l1 := growL_len nextE (l.getD k default).n (inS l a k) (l.getD k default).n.length
  have l3 : (List.map shpC (growL nextE (l.getD k default).n (inS l a k) (l.getD k default).n.length)).length = (growL nextE (l.getD k default).n (inS l a k) (l.getD k default).n.length).length := List.length_map _
  have i1 : ((↑(List.map shpC (growL nextE (l.getD k default).n (inS l a k) (l.getD k default).n.length)).length : Int) - 1).toNat = (l.getD k default).n.length := by omega
  have oz1 := (show 0 ≤ (↑k : Int) by omega)
  have oz2 := (map_at (blcC) (default) (l := l) (i := k) (by omega))
  have oz3 := (IntWalk.i64_in ((↑(List.map blcC l).length : Int) - 1) (by omega))
  have oz4 := @rvblock_v (l.getD k default) (inS l a k) (u.cl) ((↑k : Int) == (↑(List.map blcC l).length : Int) - 1) q2 q4 q3
  have oz8 := @rshapes_y ((l.getD k default).n) (inS l a k) q5 q6 q1
  have oz9 := (IntWalk.i64_in ((↑(List.map shpC (growL nextE (l.getD k default).n (inS l a k) (l.getD k default).n.length)).length : Int) - 1) (by omega))
  have oz11 := (map_at (shpC) (default) (l := growL nextE (l.getD k default).n (inS l a k) (l.getD k default).n.length) (i := ((↑(List.map shpC (growL nextE (l.getD k default).n (inS l a k) (l.getD k default).n.length)).length : Int) - 1).toNat) (by omega))
  exact VT.run (W := [.r [] [], .br true, .r [] [.row (sO oz2), .n (nO oz3), .callr (rO oz4)], .r [] [], .br false, .r [] [.row (sO oz2), .callr (rO oz8)], .r [] [.n (nO oz9), .row (sO oz11)], .r [] [.n ((↑k : Int) + 1)]]) (G := [.any (rg [(7, 5), (61, 24), (90, 17)]), .weak 6 (i64 (↑(k + 1) : Int)), .blk 5 (Blk.var [i64 (inS l a (k + 1)).h, i64 (inS l a (k + 1)).x, i64 (inS l a (k + 1)).c]), .sort]) (by kernel_rfl) (.c (decide_eq_true (p := ((↑k : Int) < (↑(List.map blcC l).length : Int))) (by omega)) <| .c oz1 <| .c oz2 <| .c oz3 <| .c oz4 <| .c (show ((validE (l.getD k default) (inS l a k) u.cl ((↑k : Int) == (↑(List.map blcC l).length : Int) - 1)).snd != 0) = false by (rw [q]; rfl)) <| .c oz1 <| .c oz2 <| .c oz8 <| .c oz9 <| .c (show 0 ≤ (↑(List.map shpC (growL nextE (l.getD k default).n (inS l a k) (l.getD k default).n.length)).length : Int) - 1 by omega) <| .c oz11 <| .c (IntWalk.i64_in ((↑k : Int) + 1) (by omega)) <| .c (Weak.int (k := .i64) (show (((↑k : Int) + 1) : Int) = ((↑(k + 1) : Int)) from (by omega))) <| .c (show BlkW (Blk.var [i64 ((growL nextE (l.getD k default).n (inS l a k) (l.getD k default).n.length).getD ((↑(List.map shpC (growL nextE (l.getD k default).n (inS l a k) (l.getD k default).n.length)).length : Int) - 1).toNat default).h, i64 ((growL nextE (l.getD k default).n (inS l a k) (l.getD k default).n.length).getD ((↑(List.map shpC (growL nextE (l.getD k default).n (inS l a k) (l.getD k default).n.length)).length : Int) - 1).toNat default).x, i64 ((growL nextE (l.getD k default).n (inS l a k) (l.getD k default).n.length).getD ((↑(List.map shpC (growL nextE (l.getD k default).n (inS l a k) (l.getD k default).n.length)).length : Int) - 1).toNat default).c]) (Blk.var [i64 (inS l a (k + 1)).h, i64 (inS l a (k + 1)).x, i64 (inS l a (k + 1)).c]) from (BlkW.var (.cons (Weak.int (show ((((growL nextE (l.getD k default).n (inS l a k) (l.getD k default).n.length).getD ((↑(List.map shpC (growL nextE (l.getD k default).n (inS l a k) (l.getD k default).n.length)).length : Int) - 1).toNat default).h) : Int) = ((inS l a (k + 1)).h) from (by (rw [i1] <;> rfl)))) (.cons (Weak.int (show ((((growL nextE (l.getD k default).n (inS l a k) (l.getD k default).n.length).getD ((↑(List.map shpC (growL nextE (l.getD k default).n (inS l a k) (l.getD k default).n.length)).length : Int) - 1).toNat default).x) : Int) = ((inS l a (k + 1)).x) from (by (rw [i1] <;> rfl)))) (.cons (Weak.int (show ((((growL nextE (l.getD k default).n (inS l a k) (l.getD k default).n.length).getD ((↑(List.map shpC (growL nextE (l.getD k default).n (inS l a k) (l.getD k default).n.length)).length : Int) - 1).toNat default).c) : Int) = ((inS l a (k + 1)).c) from (by (rw [i1] <;> rfl)))) .nil))))) <| .n)
set_option maxRecDepth 100000 in
set_option maxHeartbeats 2000000 in
theorem rvm_in_e (u : Bun) (l : List Blc) (a : Shp) (j : Int) (m : Nat) (ok : ∀ d ∈ l, d.Ok) (sm : ∀ d ∈ l, d.Sm) (oka : a.Ok) (hl : l.length ≤ 6) (hm : m < l.length) (hf : (vB l a u.cl m).2 ≠ 0) (h : ∀ k, k < m → (vB l a u.cl k).2 = 0) : VT Try.prog (fnC Try.f39 [1, 1, 1, 1, 1, 0, 1, 0, 0, 1, 0, 0, 1, 1, 1, 1, 1, 0, 0]) (rvm_in_I u l a j m (m)) (.ret) (rvm_in_Z u l a j m) := by
  have q2 := getD_in ok hm
  have q3 := getD_in sm hm
  have q4 := inS_ok (l := l) oka m
  have lb : (List.map blcC l).length = l.length := List.length_map _
  have oz2 := (map_at (blcC) (default) (l := l) (i := m) hm)
  have oz3 := (IntWalk.i64_in ((↑(List.map blcC l).length : Int) - 1) (by omega))
  have oz4 := @rvblock_v (l.getD m default) (inS l a m) (u.cl) ((↑m : Int) == (↑(List.map blcC l).length : Int) - 1) q2 q4 q3
  exact VT.run (W := [.r [] [], .br true, .r [] [.row (sO oz2), .n (nO oz3), .callr (rO oz4)], .r [] [], .br true, .r [] []]) (G := [.any (rg [(1, 1), (3, 6), (61, 4), (67, 23)]), .drop [1, 5], .sort]) (by kernel_rfl) (.c (decide_eq_true (p := ((↑m : Int) < (↑(List.map blcC l).length : Int))) (by omega)) <| .c (show 0 ≤ (↑m : Int) by omega) <| .c oz2 <| .c oz3 <| .c oz4 <| .c (show ((validE (l.getD m default) (inS l a m) u.cl ((↑m : Int) == (↑(List.map blcC l).length : Int) - 1)).snd != 0) = true by (rw [bne_iff_ne]; exact hf)) <| .n)
theorem rvm_in (u : Bun) (l : List Blc) (a : Shp) (j : Int) (m : Nat) (ok : ∀ d ∈ l, d.Ok) (sm : ∀ d ∈ l, d.Sm) (oka : a.Ok) (hl : l.length ≤ 6) (hm : m < l.length) (hf : (vB l a u.cl m).2 ≠ 0) (h : ∀ k, k < m → (vB l a u.cl k).2 = 0) : VT Try.prog (fnC Try.f39 [1, 1, 1, 1, 1, 0, 1, 0, 0, 1, 0, 0, 1, 1, 1, 1, 1, 0]) (rvm_in_I u l a j m 0) (.ret) (rvm_in_Z u l a j m) :=
  VT.loop (fun k => rvm_in_I u l a j m k) (m) (fun k hk => rvm_in_s u l a j m ok sm oka hl hm hf h k hk) (rvm_in_e u l a j m ok sm oka hl hm hf h) (by intro h; cases h)
theorem modelE_ok {l : List Blc} {a : Shp} {cl j : Int} (h : modelE l a cl j = ⟨0, 0, 0, 0⟩) : ¬ l.length = 0 ∧ l.length ≤ 6 ∧ ∀ k, k < l.length → (vB l a cl k).2 = 0 := by
  rcases modelE_cases l a cl with g | g | ⟨h6, m, h1, h2, h3⟩
  · exact g
  · exfalso
    revert h
    unfold modelE
    by_cases c : l.length = 0
    · rw [if_pos c]; intro h; injection h with h; revert h; decide
    · rw [if_neg c, if_pos (by omega)]; intro h; injection h with h; revert h; decide
  · rw [modelE_m h6 h1 h2 h3] at h; injection h with h; exact absurd h h2
noncomputable def rvb_oy_I (u : Bun) (k : Nat) : VS := stt 108 [(1, .ptr 1 0 0), (2, .ptr 2 0 0), (3, i64 k)] [(1, .var (bunC u)), (2, .var [i64 0, i64 0, i64 0, i64 0])]
noncomputable def rvb_oy_Z (u : Bun) : VS := rvb_oy_I u (u.m.length)
set_option maxRecDepth 100000 in
set_option maxHeartbeats 2000000 in
theorem rvb_oy_s (u : Bun) (ok : u.Ok) (sm : u.Sm) (h : ∀ j, j < u.m.length → mE u j = ⟨0, 0, 0, 0⟩) (k : Nat) (hk : k < u.m.length) : VT Try.prog (fnC Try.f39 [1, 1, 1, 1, 1, 0, 1, 0, 0]) (rvb_oy_I u k) .normal (rvb_oy_I u (k + 1)) := by
  obtain ⟨q1, q2, q3⟩ := modelE_ok (h k hk)
  have q4 := sm.l
  have q5 : u.inp.Ok := ⟨ok.h, ok.x, ok.c⟩
  have q6 := (getD_in ok.m hk).l
  have q7 := (getD_in sm.m hk).2
  have oz2 := (map_at (mdlC) (default) (l := u.m) (i := k) hk)
  have oz6 := @rvm_iy (u) ((u.m.getD k default).l) (Shp.mk u.1 u.2 u.3) ((↑k : Int)) q6 q7 q5 q2 q3
  exact VT.run (W := [.r [] [], .br true, .r [] [.row (sO oz2)], .r [] [], .br false, .r [] [], .br false, .r [] [], .r [] [], .code [.any (rg [(36, 5), (43, 9), (54, 3), (59, 2)]), .weak 6 (i64 (↑0 : Int)), .sort] (Exit.exit 2) (zO oz6), .r [] [.n ((↑k : Int) + 1)]]) (G := [.any [4, 5, 6, 41, 42], .drop [5], .weak 3 (i64 (↑(k + 1) : Int)), .sort]) (by kernel_rfl) (.c (show decide ((↑k : Int) < (↑(List.map mdlC u.m).length : Int)) = true by (simp; omega)) <| .c (show 0 ≤ (↑k : Int) by omega) <| .c oz2 <| .c (show ((↑(List.map blcC (u.m.getD k default).l).length : Int) == 0) = false by (simp at *; omega)) <| .c (show decide ((↑(List.map blcC (u.m.getD k default).l).length : Int) > 6) = false by (simp at *; omega)) <| .c (Weak.int (k := .i64) (show ((0) : Int) = ((↑0 : Int)) from (by omega))) <| .c oz6 <| .c (IntWalk.i64_in ((↑k : Int) + 1) (by omega)) <| .c (Weak.int (k := .i64) (show (((↑k : Int) + 1) : Int) = ((↑(k + 1) : Int)) from (by omega))) <| .n)
set_option maxRecDepth 100000 in
set_option maxHeartbeats 2000000 in
theorem rvb_oy_e (u : Bun) (ok : u.Ok) (sm : u.Sm) (h : ∀ j, j < u.m.length → mE u j = ⟨0, 0, 0, 0⟩) : VT Try.prog (fnC Try.f39 [1, 1, 1, 1, 1, 0, 1, 0, 0]) (rvb_oy_I u (u.m.length)) (.exit 0) (rvb_oy_Z u) := by
  exact VT.run (W := [.r [] [], .br false]) (G := [.any (rg [(36, 5)]), .sort]) (by kernel_rfl) (.c (show decide ((↑u.m.length : Int) < (↑(List.map mdlC u.m).length : Int)) = false by (simp; done)) <| .n)
theorem rvb_oy (u : Bun) (ok : u.Ok) (sm : u.Sm) (h : ∀ j, j < u.m.length → mE u j = ⟨0, 0, 0, 0⟩) : VT Try.prog (fnC Try.f39 [1, 1, 1, 1, 1, 0, 1, 0]) (rvb_oy_I u 0) (.exit 0) (rvb_oy_Z u) :=
  VT.loop (fun k => rvb_oy_I u k) (u.m.length) (fun k hk => rvb_oy_s u ok sm h k hk) (rvb_oy_e u ok sm h) (by intro h; cases h)

noncomputable def rvb_oa_I (u : Bun) (m : Nat) (k : Nat) : VS := stt 108 [(1, .ptr 1 0 0), (2, .ptr 2 0 0), (3, i64 k)] [(1, .var (bunC u)), (2, .var [i64 0, i64 0, i64 0, i64 0])]
noncomputable def rvb_oa_Z (u : Bun) (m : Nat) : VS := stt 108 [(2, .ptr 2 0 0)] [(2, .var (fltC (mE u m)))]
set_option maxRecDepth 100000 in
set_option maxHeartbeats 2000000 in
theorem rvb_oa_s (u : Bun) (m : Nat) (ok : u.Ok) (sm : u.Sm) (hm : m < u.m.length) (hf : (u.m.getD m default).l.length = 0 ∨ 6 < (u.m.getD m default).l.length) (h : ∀ j, j < m → mE u j = ⟨0, 0, 0, 0⟩) (k : Nat) (hk : k < m) : VT Try.prog (fnC Try.f39 [1, 1, 1, 1, 1, 0, 1, 0, 0]) (rvb_oa_I u m k) .normal (rvb_oa_I u m (k + 1)) := by
  obtain ⟨q1, q2, q3⟩ := modelE_ok (h k hk)
  have q4 := sm.l
  have q5 : u.inp.Ok := ⟨ok.h, ok.x, ok.c⟩
  have q6 := (getD_in ok.m (show k < u.m.length by omega)).l
  have q7 := (getD_in sm.m (show k < u.m.length by omega)).2
  have oz2 := (map_at (mdlC) (default) (l := u.m) (i := k) (by omega))
  have oz6 := @rvm_iy (u) ((u.m.getD k default).l) (Shp.mk u.1 u.2 u.3) ((↑k : Int)) q6 q7 q5 q2 q3
  exact VT.run (W := [.r [] [], .br true, .r [] [.row (sO oz2)], .r [] [], .br false, .r [] [], .br false, .r [] [], .r [] [], .code [.any (rg [(36, 5), (43, 9), (54, 3), (59, 2)]), .weak 6 (i64 (↑0 : Int)), .sort] (Exit.exit 2) (zO oz6), .r [] [.n ((↑k : Int) + 1)]]) (G := [.any [4, 5, 6, 41, 42], .drop [5], .weak 3 (i64 (↑(k + 1) : Int)), .sort]) (by kernel_rfl) (.c (show decide ((↑k : Int) < (↑(List.map mdlC u.m).length : Int)) = true by (simp; omega)) <| .c (show 0 ≤ (↑k : Int) by omega) <| .c oz2 <| .c (show ((↑(List.map blcC (u.m.getD k default).l).length : Int) == 0) = false by (simp at *; omega)) <| .c (show decide ((↑(List.map blcC (u.m.getD k default).l).length : Int) > 6) = false by (simp at *; omega)) <| .c (Weak.int (k := .i64) (show ((0) : Int) = ((↑0 : Int)) from (by omega))) <| .c oz6 <| .c (IntWalk.i64_in ((↑k : Int) + 1) (by omega)) <| .c (Weak.int (k := .i64) (show (((↑k : Int) + 1) : Int) = ((↑(k + 1) : Int)) from (by omega))) <| .n)
set_option maxRecDepth 100000 in
set_option maxHeartbeats 2000000 in
theorem rvb_oa_e (u : Bun) (m : Nat) (ok : u.Ok) (sm : u.Sm) (hm : m < u.m.length) (hf : (u.m.getD m default).l.length = 0 ∨ 6 < (u.m.getD m default).l.length) (h : ∀ j, j < m → mE u j = ⟨0, 0, 0, 0⟩) : VT Try.prog (fnC Try.f39 [1, 1, 1, 1, 1, 0, 1, 0, 0]) (rvb_oa_I u m (m)) (.ret) (rvb_oa_Z u m) := by
  have q4 := sm.l
  have oz0 := (show decide ((↑m : Int) < (↑(List.map mdlC u.m).length : Int)) = true by (simp; omega))
  have oz1 := (show 0 ≤ (↑m : Int) by omega)
  have oz2 := (map_at (mdlC) (default) (l := u.m) (i := m) hm)
  rcases Bool.eq_false_or_eq_true ((↑(List.map blcC (u.m.getD m default).l).length : Int) == 0) with hc0 | hc0
  · have gc0 : (↑(List.map blcC (u.m.getD m default).l).length : Int) = 0 := bet hc0
    exact VT.run (W := [.r [] [], .br true, .r [] [.row (sO oz2)], .r [] [], .br true, .r [] []]) (G := [.any (rg [(1, 1), (3, 2), (36, 5), (43, 11)]), .drop [1], .blk 2 (Blk.var [i64 (mE u m).w, i64 (mE u m).m, i64 (mE u m).b, i64 (mE u m).n]), .sort]) (by kernel_rfl) (.c oz0 <| .c oz1 <| .c oz2 <| .c hc0 <| .c (show BlkW (Blk.var [i64 12, i64 (↑m : Int), i64 (-1), i64 (-1)]) (Blk.var [i64 (mE u m).w, i64 (mE u m).m, i64 (mE u m).b, i64 (mE u m).n]) from (BlkW.var (.cons (Weak.int (show ((12) : Int) = ((mE u m).w) from (by (unfold mE modelE; (try simp only [List.length_map] at *); (repeat first | rw [if_pos (by omega)] | rw [if_neg (by omega)]))))) (.cons (Weak.int (show (((↑m : Int)) : Int) = ((mE u m).m) from (by (unfold mE modelE; (try simp only [List.length_map] at *); (repeat first | rw [if_pos (by omega)] | rw [if_neg (by omega)]))))) (.cons (Weak.int (show ((-1) : Int) = ((mE u m).b) from (by (unfold mE modelE; (try simp only [List.length_map] at *); (repeat first | rw [if_pos (by omega)] | rw [if_neg (by omega)]))))) (.cons (Weak.int (show ((-1) : Int) = ((mE u m).n) from (by (unfold mE modelE; (try simp only [List.length_map] at *); (repeat first | rw [if_pos (by omega)] | rw [if_neg (by omega)]))))) .nil)))))) <| .n)
  · have gc0 : ¬(↑(List.map blcC (u.m.getD m default).l).length : Int) = 0 := bef hc0
    exact VT.run (W := [.r [] [], .br true, .r [] [.row (sO oz2)], .r [] [], .br false, .r [] [], .br true, .r [] []]) (G := [.any (rg [(1, 1), (3, 2), (36, 5), (43, 9), (54, 5)]), .drop [1], .blk 2 (Blk.var [i64 (mE u m).w, i64 (mE u m).m, i64 (mE u m).b, i64 (mE u m).n]), .sort]) (by kernel_rfl) (.c oz0 <| .c oz1 <| .c oz2 <| .c hc0 <| .c (show decide ((↑(List.map blcC (u.m.getD m default).l).length : Int) > 6) = true by (simp only [decide_eq_true_eq, decide_eq_false_iff_not, beq_iff_eq, bne_iff_ne, ne_eq, beq_eq_false_iff_ne, bne_eq_false_iff_eq, Bool.not_eq_true', Bool.not_eq_false', Bool.not_eq_eq_eq_not, Bool.not_true, Bool.not_false, Classical.not_not, Int.not_lt, Int.not_le, Bool.and_eq_true, Bool.and_eq_false_iff, Bool.or_eq_true, Bool.or_eq_false_iff, Bool.and_true, Bool.true_and, Bool.and_false, Bool.false_and, Bool.or_false, Bool.false_or, eqNums, List.length_map, List.length_append, List.length_cons, List.length_nil, List.length_set, List.length_replicate, List.length_take, List.length_drop, List.length_range, Int.toNat_natCast, Nat.zero_add, List.map_eq_nil_iff] at *; (first | done | with_reducible assumption | omega | contradiction))) <| .c (show BlkW (Blk.var [i64 4, i64 (↑m : Int), i64 (-1), i64 (-1)]) (Blk.var [i64 (mE u m).w, i64 (mE u m).m, i64 (mE u m).b, i64 (mE u m).n]) from (BlkW.var (.cons (Weak.int (show ((4) : Int) = ((mE u m).w) from (by (unfold mE modelE; (try simp only [List.length_map] at *); (repeat first | rw [if_pos (by omega)] | rw [if_neg (by omega)]))))) (.cons (Weak.int (show (((↑m : Int)) : Int) = ((mE u m).m) from (by (unfold mE modelE; (try simp only [List.length_map] at *); (repeat first | rw [if_pos (by omega)] | rw [if_neg (by omega)]))))) (.cons (Weak.int (show ((-1) : Int) = ((mE u m).b) from (by (unfold mE modelE; (try simp only [List.length_map] at *); (repeat first | rw [if_pos (by omega)] | rw [if_neg (by omega)]))))) (.cons (Weak.int (show ((-1) : Int) = ((mE u m).n) from (by (unfold mE modelE; (try simp only [List.length_map] at *); (repeat first | rw [if_pos (by omega)] | rw [if_neg (by omega)]))))) .nil)))))) <| .n)
theorem rvb_oa (u : Bun) (m : Nat) (ok : u.Ok) (sm : u.Sm) (hm : m < u.m.length) (hf : (u.m.getD m default).l.length = 0 ∨ 6 < (u.m.getD m default).l.length) (h : ∀ j, j < m → mE u j = ⟨0, 0, 0, 0⟩) : VT Try.prog (fnC Try.f39 [1, 1, 1, 1, 1, 0, 1, 0]) (rvb_oa_I u m 0) (.ret) (rvb_oa_Z u m) :=
  VT.loop (fun k => rvb_oa_I u m k) (m) (fun k hk => rvb_oa_s u m ok sm hm hf h k hk) (rvb_oa_e u m ok sm hm hf h) (by intro h; cases h)

noncomputable def rvb_ob_I (u : Bun) (m i : Nat) (k : Nat) : VS := stt 108 [(1, .ptr 1 0 0), (2, .ptr 2 0 0), (3, i64 k)] [(1, .var (bunC u)), (2, .var [i64 0, i64 0, i64 0, i64 0])]
noncomputable def rvb_ob_Z (u : Bun) (m i : Nat) : VS := stt 108 [(2, .ptr 2 0 0)] [(2, .var [i64 (vB (u.m.getD m default).l u.inp u.cl i).2, i64 m, i64 i, i64 (vB (u.m.getD m default).l u.inp u.cl i).1])]
set_option maxRecDepth 100000 in
set_option maxHeartbeats 2000000 in
theorem rvb_ob_s (u : Bun) (m i : Nat) (ok : u.Ok) (sm : u.Sm) (hm : m < u.m.length) (h6 : (u.m.getD m default).l.length ≤ 6) (hi : i < (u.m.getD m default).l.length) (hf : (vB (u.m.getD m default).l u.inp u.cl i).2 ≠ 0) (hb : ∀ k, k < i → (vB (u.m.getD m default).l u.inp u.cl k).2 = 0) (h : ∀ j, j < m → mE u j = ⟨0, 0, 0, 0⟩) (k : Nat) (hk : k < m) : VT Try.prog (fnC Try.f39 [1, 1, 1, 1, 1, 0, 1, 0, 0]) (rvb_ob_I u m i k) .normal (rvb_ob_I u m i (k + 1)) := by
  obtain ⟨q1, q2, q3⟩ := modelE_ok (h k hk)
  have q4 := sm.l
  have q5 : u.inp.Ok := ⟨ok.h, ok.x, ok.c⟩
  have q6 := (getD_in ok.m (show k < u.m.length by omega)).l
  have q7 := (getD_in sm.m (show k < u.m.length by omega)).2
  have oz2 := (map_at (mdlC) (default) (l := u.m) (i := k) (by omega))
  have oz6 := @rvm_iy (u) ((u.m.getD k default).l) (Shp.mk u.1 u.2 u.3) ((↑k : Int)) q6 q7 q5 q2 q3
  exact VT.run (W := [.r [] [], .br true, .r [] [.row (sO oz2)], .r [] [], .br false, .r [] [], .br false, .r [] [], .r [] [], .code [.any (rg [(36, 5), (43, 9), (54, 3), (59, 2)]), .weak 6 (i64 (↑0 : Int)), .sort] (Exit.exit 2) (zO oz6), .r [] [.n ((↑k : Int) + 1)]]) (G := [.any [4, 5, 6, 41, 42], .drop [5], .weak 3 (i64 (↑(k + 1) : Int)), .sort]) (by kernel_rfl) (.c (show decide ((↑k : Int) < (↑(List.map mdlC u.m).length : Int)) = true by (simp; omega)) <| .c (show 0 ≤ (↑k : Int) by omega) <| .c oz2 <| .c (show ((↑(List.map blcC (u.m.getD k default).l).length : Int) == 0) = false by (simp at *; omega)) <| .c (show decide ((↑(List.map blcC (u.m.getD k default).l).length : Int) > 6) = false by (simp at *; omega)) <| .c (Weak.int (k := .i64) (show ((0) : Int) = ((↑0 : Int)) from (by omega))) <| .c oz6 <| .c (IntWalk.i64_in ((↑k : Int) + 1) (by omega)) <| .c (Weak.int (k := .i64) (show (((↑k : Int) + 1) : Int) = ((↑(k + 1) : Int)) from (by omega))) <| .n)
set_option maxRecDepth 100000 in
set_option maxHeartbeats 2000000 in
theorem rvb_ob_e (u : Bun) (m i : Nat) (ok : u.Ok) (sm : u.Sm) (hm : m < u.m.length) (h6 : (u.m.getD m default).l.length ≤ 6) (hi : i < (u.m.getD m default).l.length) (hf : (vB (u.m.getD m default).l u.inp u.cl i).2 ≠ 0) (hb : ∀ k, k < i → (vB (u.m.getD m default).l u.inp u.cl k).2 = 0) (h : ∀ j, j < m → mE u j = ⟨0, 0, 0, 0⟩) : VT Try.prog (fnC Try.f39 [1, 1, 1, 1, 1, 0, 1, 0, 0]) (rvb_ob_I u m i (m)) (.ret) (rvb_ob_Z u m i) := by
  have q4 := sm.l
  have q5 : u.inp.Ok := ⟨ok.h, ok.x, ok.c⟩
  have q6 := (getD_in ok.m hm).l
  have q7 := (getD_in sm.m hm).2
  have oz2 := (map_at (mdlC) (default) (l := u.m) (i := m) hm)
  have oz6 := @rvm_in (u) ((u.m.getD m default).l) (Shp.mk u.1 u.2 u.3) ((↑m : Int)) (i) q6 q7 q5 h6 hi hf hb
  exact VT.run (W := [.r [] [], .br true, .r [] [.row (sO oz2)], .r [] [], .br false, .r [] [], .br false, .r [] [], .r [] [], .code [.any (rg [(36, 5), (43, 9), (54, 3), (59, 2)]), .weak 6 (i64 (↑0 : Int)), .sort] (Exit.ret) (zO oz6)]) (G := [.sort]) (by kernel_rfl) (.c (show decide ((↑m : Int) < (↑(List.map mdlC u.m).length : Int)) = true by (simp; omega)) <| .c (show 0 ≤ (↑m : Int) by omega) <| .c oz2 <| .c (show ((↑(List.map blcC (u.m.getD m default).l).length : Int) == 0) = false by (simp only [decide_eq_true_eq, decide_eq_false_iff_not, beq_iff_eq, bne_iff_ne, ne_eq, beq_eq_false_iff_ne, bne_eq_false_iff_eq, Bool.not_eq_true', Bool.not_eq_false', Bool.not_eq_eq_eq_not, Bool.not_true, Bool.not_false, Classical.not_not, Int.not_lt, Int.not_le, Bool.and_eq_true, Bool.and_eq_false_iff, Bool.or_eq_true, Bool.or_eq_false_iff, Bool.and_true, Bool.true_and, Bool.and_false, Bool.false_and, Bool.or_false, Bool.false_or, eqNums, List.length_map, List.length_append, List.length_cons, List.length_nil, List.length_set, List.length_replicate, List.length_take, List.length_drop, List.length_range, Int.toNat_natCast, Nat.zero_add, List.map_eq_nil_iff]; (first | done | with_reducible assumption | omega | contradiction))) <| .c (show decide ((↑(List.map blcC (u.m.getD m default).l).length : Int) > 6) = false by (simp at *; omega)) <| .c (Weak.int (k := .i64) (show ((0) : Int) = ((↑0 : Int)) from (by omega))) <| .c oz6 <| .n)
theorem rvb_ob (u : Bun) (m i : Nat) (ok : u.Ok) (sm : u.Sm) (hm : m < u.m.length) (h6 : (u.m.getD m default).l.length ≤ 6) (hi : i < (u.m.getD m default).l.length) (hf : (vB (u.m.getD m default).l u.inp u.cl i).2 ≠ 0) (hb : ∀ k, k < i → (vB (u.m.getD m default).l u.inp u.cl k).2 = 0) (h : ∀ j, j < m → mE u j = ⟨0, 0, 0, 0⟩) : VT Try.prog (fnC Try.f39 [1, 1, 1, 1, 1, 0, 1, 0]) (rvb_ob_I u m i 0) (.ret) (rvb_ob_Z u m i) :=
  VT.loop (fun k => rvb_ob_I u m i k) (m) (fun k hk => rvb_ob_s u m i ok sm hm h6 hi hf hb h k hk) (rvb_ob_e u m i ok sm hm h6 hi hf hb h) (by intro h; cases h)
theorem wholeE_0 {u : Bun} (h : wholeE u = 0) : 0 < elems u.h u.x u.c ∧ 2 ≤ u.cl ∧ u.cl ≤ 16 ∧ 0 < u.m.length ∧ u.m.length ≤ 3 := by
  unfold wholeE at h
  by_cases c1 : ¬ 0 < elems u.h u.x u.c
  · rw [if_pos c1] at h; cases h
  · rw [if_neg c1] at h
    by_cases c2 : u.cl < 2 ∨ u.cl > 16
    · rw [if_pos c2] at h; cases h
    · rw [if_neg c2] at h
      by_cases c3 : u.m.length = 0
      · rw [if_pos c3] at h; cases h
      · rw [if_neg c3] at h
        by_cases c4 : 3 < u.m.length
        · rw [if_pos c4] at h; cases h
        · exact ⟨by omega, by omega, by omega, by omega, by omega⟩
theorem wholeE_n {u : Bun} (h : wholeE u ≠ 0) : ¬ 0 < elems u.h u.x u.c ∨ u.cl < 2 ∨ u.cl > 16 ∨ u.m.length = 0 ∨ 3 < u.m.length := by
  apply Classical.byContradiction
  intro c
  apply h
  unfold wholeE
  rw [if_neg (by omega), if_neg (by omega), if_neg (by omega), if_neg (by omega)]
set_option maxRecDepth 100000 in
set_option maxHeartbeats 2000000 in
theorem rvbundle_a (u : Bun) (ok : u.Ok) (sm : u.Sm) (h : wholeE u ≠ 0) : VC Try.prog 39 ([bun u]) (flt (bunE u)) := by
  have q5 := sm.l
  have q1 := elems_in u.h u.x u.c
  obtain ⟨q2, q3, q4⟩ : In64 u.h ∧ In64 u.x ∧ In64 u.c := ⟨ok.h, ok.x, ok.c⟩
  have e : bunE u = ⟨wholeE u, -1, -1, -1⟩ := if_pos h
  have w := wholeE_n h
  have lm : (List.map mdlC u.m).length = u.m.length := List.length_map _
  have oz0 := @refElems_v (u.h) (u.x) (u.c) q2 q3 q4
  rcases Bool.eq_false_or_eq_true (elems u.h u.x u.c == 0) with hc0 | hc0
  · have gc0 : elems u.h u.x u.c = 0 := bet hc0
    exact (VC.run (fn := Try.f39) (W := [.r [] [], .r [] [.callr (rO oz0)], .br true, .r [] []]) (r := AV.agg [i64 5, i64 (-1), i64 (-1), i64 (-1)]) Try.func39 (by kernel_rfl) (.c oz0 <| .c hc0 <| .n)).weak (WeakL.refl _) (Weak.agg (.cons (Weak.int (show ((5) : Int) = ((bunE u).w) from (by (rw [e]; unfold wholeE; (try simp only [List.length_map] at *); (repeat first | rw [if_pos (by omega)] | rw [if_neg (by omega)]))))) (.cons (Weak.int (show ((-1) : Int) = ((bunE u).m) from (by (simp_all; done)))) (.cons (Weak.int (show ((-1) : Int) = ((bunE u).b) from (by (simp_all; done)))) (.cons (Weak.int (show ((-1) : Int) = ((bunE u).n) from (by (simp_all; done)))) .nil)))))
  · have gc0 : ¬elems u.h u.x u.c = 0 := bef hc0
    rcases Bool.eq_false_or_eq_true (decide (u.cl < 2) || decide (u.cl > 16)) with hc1 | hc1
    · have gc1 : u.cl < 2 ∨ u.cl > 16 := by first | (simp only [Bool.or_eq_true, Bool.or_eq_false_iff, Bool.and_eq_true, Bool.and_eq_false_iff, Bool.not_eq_true', Bool.not_eq_false', decide_eq_true_eq, decide_eq_false_iff_not, beq_iff_eq, bne_iff_ne, ne_eq, beq_eq_false_iff_ne, bne_eq_false_iff_eq, eqNums, Bool.and_true] at hc1; first | exact hc1 | omega) | simpa using hc1 | (simp at hc1 ⊢; omega)
      exact (VC.run (fn := Try.f39) (W := [.r [] [], .r [] [.callr (rO oz0)], .br false, .r [] [.op false, .op false, .op false, .sel 1], .br true, .r [] []]) (r := AV.agg [i64 2, i64 (-1), i64 (-1), i64 (-1)]) Try.func39 (by kernel_rfl) (.c oz0 <| .c hc0 <| .c hc1 <| .n)).weak (WeakL.refl _) (Weak.agg (.cons (Weak.int (show ((2) : Int) = ((bunE u).w) from (by (rw [e]; unfold wholeE; (try simp only [List.length_map] at *); (repeat first | rw [if_pos (by omega)] | rw [if_neg (by omega)]))))) (.cons (Weak.int (show ((-1) : Int) = ((bunE u).m) from (by (simp_all; done)))) (.cons (Weak.int (show ((-1) : Int) = ((bunE u).b) from (by (simp_all; done)))) (.cons (Weak.int (show ((-1) : Int) = ((bunE u).n) from (by (simp_all; done)))) .nil)))))
    · have gc1 : ¬u.cl < 2 ∧ ¬u.cl > 16 := by first | (simp only [Bool.or_eq_true, Bool.or_eq_false_iff, Bool.and_eq_true, Bool.and_eq_false_iff, Bool.not_eq_true', Bool.not_eq_false', decide_eq_true_eq, decide_eq_false_iff_not, beq_iff_eq, bne_iff_ne, ne_eq, beq_eq_false_iff_ne, bne_eq_false_iff_eq, eqNums, Bool.and_true] at hc1; first | exact hc1 | omega) | simpa using hc1 | (simp at hc1 ⊢; omega)
      rcases Bool.eq_false_or_eq_true ((↑(List.map mdlC u.m).length : Int) == 0) with hc2 | hc2
      · have gc2 : (↑(List.map mdlC u.m).length : Int) = 0 := bet hc2
        exact (VC.run (fn := Try.f39) (W := [.r [] [], .r [] [.callr (rO oz0)], .br false, .r [] [.op false, .op false, .op false, .sel 1], .br false, .r [] [], .br true, .r [] []]) (r := AV.agg [i64 12, i64 (-1), i64 (-1), i64 (-1)]) Try.func39 (by kernel_rfl) (.c oz0 <| .c hc0 <| .c hc1 <| .c hc2 <| .n)).weak (WeakL.refl _) (Weak.agg (.cons (Weak.int (show ((12) : Int) = ((bunE u).w) from (by (rw [e]; unfold wholeE; (try simp only [List.length_map] at *); (repeat first | rw [if_pos (by omega)] | rw [if_neg (by omega)]))))) (.cons (Weak.int (show ((-1) : Int) = ((bunE u).m) from (by (simp_all; done)))) (.cons (Weak.int (show ((-1) : Int) = ((bunE u).b) from (by (simp_all; done)))) (.cons (Weak.int (show ((-1) : Int) = ((bunE u).n) from (by (simp_all; done)))) .nil)))))
      · have gc2 : ¬(↑(List.map mdlC u.m).length : Int) = 0 := bef hc2
        exact (VC.run (fn := Try.f39) (W := [.r [] [], .r [] [.callr (rO oz0)], .br false, .r [] [.op false, .op false, .op false, .sel 1], .br false, .r [] [], .br false, .r [] [], .br true, .r [] []]) (r := AV.agg [i64 4, i64 (-1), i64 (-1), i64 (-1)]) Try.func39 (by kernel_rfl) (.c oz0 <| .c hc0 <| .c hc1 <| .c hc2 <| .c (decide_eq_true (p := ((↑(List.map mdlC u.m).length : Int) > 3)) (by omega)) <| .n)).weak (WeakL.refl _) (Weak.agg (.cons (Weak.int (show ((4) : Int) = ((bunE u).w) from (by (rw [e]; unfold wholeE; (try simp only [List.length_map] at *); (repeat first | rw [if_pos (by omega)] | rw [if_neg (by omega)]))))) (.cons (Weak.int (show ((-1) : Int) = ((bunE u).m) from (by (simp_all; done)))) (.cons (Weak.int (show ((-1) : Int) = ((bunE u).b) from (by (simp_all; done)))) (.cons (Weak.int (show ((-1) : Int) = ((bunE u).n) from (by (simp_all; done)))) .nil)))))

set_option maxRecDepth 100000 in
set_option maxHeartbeats 2000000 in
theorem rvbundle_y (u : Bun) (ok : u.Ok) (sm : u.Sm) (w : wholeE u = 0) (h : ∀ j, j < u.m.length → mE u j = ⟨0, 0, 0, 0⟩) : VC Try.prog 39 ([bun u]) (flt ⟨0, 0, 0, 0⟩) := by
  have q5 := sm.l
  obtain ⟨w1, w2, w3, w4, w5⟩ := wholeE_0 w
  obtain ⟨w6, w7, w8⟩ : In64 u.h ∧ In64 u.x ∧ In64 u.c := ⟨ok.h, ok.x, ok.c⟩
  have oz0 := @refElems_v (u.h) (u.x) (u.c) w6 w7 w8
  have oz2 := (decide_eq_false (p := (u.cl < 2)) (by omega))
  have oz10 := @rvb_oy (u) ok sm h
  exact VC.run (fn := Try.f39) (W := [.r [] [], .r [] [.callr (rO oz0)], .br false, .r [] [.br true, .br true, .br true, .br false], .br false, .r [] [], .br false, .r [] [], .br false, .r [] [], .code [.any (rg [(0, 1), (12, 4), (17, 8), (26, 4), (31, 4)]), .weak 3 (i64 (↑0 : Int)), .sort] (Exit.exit 0) (zO oz10), .r [] []]) Try.func39 (by kernel_rfl) (.c oz0 <| .c (show (elems u.h u.x u.c == 0) = false by (refine decide_eq_false ?_; omega)) <| .c oz2 <| .c oz2 <| .c oz2 <| .c oz2 <| .c (decide_eq_false (p := (u.cl > 16)) (by omega)) <| .c (show ((↑(List.map mdlC u.m).length : Int) == 0) = false by (simp only [decide_eq_true_eq, decide_eq_false_iff_not, beq_iff_eq, bne_iff_ne, ne_eq, beq_eq_false_iff_ne, bne_eq_false_iff_eq, Bool.not_eq_true', Bool.not_eq_false', Bool.not_eq_eq_eq_not, Bool.not_true, Bool.not_false, Classical.not_not, Int.not_lt, Int.not_le, Bool.and_eq_true, Bool.and_eq_false_iff, Bool.or_eq_true, Bool.or_eq_false_iff, Bool.and_true, Bool.true_and, Bool.and_false, Bool.false_and, Bool.or_false, Bool.false_or, eqNums, List.length_map, List.length_append, List.length_cons, List.length_nil, List.length_set, List.length_replicate, List.length_take, List.length_drop, List.length_range, Int.toNat_natCast, Nat.zero_add, List.map_eq_nil_iff]; (first | done | with_reducible assumption | omega | contradiction))) <| .c (show decide ((↑(List.map mdlC u.m).length : Int) > 3) = false by (simp; omega)) <| .c (Weak.int (k := .i64) (show ((0) : Int) = ((↑0 : Int)) from (by omega))) <| .c oz10 <| .n)

set_option maxRecDepth 100000 in
set_option maxHeartbeats 2000000 in
theorem rvbundle_na (u : Bun) (m : Nat) (ok : u.Ok) (sm : u.Sm) (w : wholeE u = 0) (hm : m < u.m.length) (hf : (u.m.getD m default).l.length = 0 ∨ 6 < (u.m.getD m default).l.length) (h : ∀ j, j < m → mE u j = ⟨0, 0, 0, 0⟩) : VC Try.prog 39 ([bun u]) (flt (mE u m)) := by
  have q5 := sm.l
  obtain ⟨w1, w2, w3, w4, w5⟩ := wholeE_0 w
  obtain ⟨w6, w7, w8⟩ : In64 u.h ∧ In64 u.x ∧ In64 u.c := ⟨ok.h, ok.x, ok.c⟩
  have oz0 := @refElems_v (u.h) (u.x) (u.c) w6 w7 w8
  have oz2 := (decide_eq_false (p := (u.cl < 2)) (by omega))
  have oz10 := @rvb_oa (u) (m) ok sm hm hf h
  exact VC.run (fn := Try.f39) (W := [.r [] [], .r [] [.callr (rO oz0)], .br false, .r [] [.br true, .br true, .br true, .br false], .br false, .r [] [], .br false, .r [] [], .br false, .r [] [], .code [.any (rg [(0, 1), (12, 4), (17, 8), (26, 4), (31, 4)]), .weak 3 (i64 (↑0 : Int)), .sort] (Exit.ret) (zO oz10)]) Try.func39 (by kernel_rfl) (.c oz0 <| .c (show (elems u.h u.x u.c == 0) = false by (refine decide_eq_false ?_; omega)) <| .c oz2 <| .c oz2 <| .c oz2 <| .c oz2 <| .c (decide_eq_false (p := (u.cl > 16)) (by omega)) <| .c (show ((↑(List.map mdlC u.m).length : Int) == 0) = false by (simp only [decide_eq_true_eq, decide_eq_false_iff_not, beq_iff_eq, bne_iff_ne, ne_eq, beq_eq_false_iff_ne, bne_eq_false_iff_eq, Bool.not_eq_true', Bool.not_eq_false', Bool.not_eq_eq_eq_not, Bool.not_true, Bool.not_false, Classical.not_not, Int.not_lt, Int.not_le, Bool.and_eq_true, Bool.and_eq_false_iff, Bool.or_eq_true, Bool.or_eq_false_iff, Bool.and_true, Bool.true_and, Bool.and_false, Bool.false_and, Bool.or_false, Bool.false_or, eqNums, List.length_map, List.length_append, List.length_cons, List.length_nil, List.length_set, List.length_replicate, List.length_take, List.length_drop, List.length_range, Int.toNat_natCast, Nat.zero_add, List.map_eq_nil_iff]; (first | done | with_reducible assumption | omega | contradiction))) <| .c (show decide ((↑(List.map mdlC u.m).length : Int) > 3) = false by (simp; omega)) <| .c (Weak.int (k := .i64) (show ((0) : Int) = ((↑0 : Int)) from (by omega))) <| .c oz10 <| .n)

set_option maxRecDepth 100000 in
set_option maxHeartbeats 2000000 in
theorem rvbundle_nb (u : Bun) (m i : Nat) (ok : u.Ok) (sm : u.Sm) (w : wholeE u = 0) (hm : m < u.m.length) (h6 : (u.m.getD m default).l.length ≤ 6) (hi : i < (u.m.getD m default).l.length) (hf : (vB (u.m.getD m default).l u.inp u.cl i).2 ≠ 0) (hb : ∀ k, k < i → (vB (u.m.getD m default).l u.inp u.cl k).2 = 0) (h : ∀ j, j < m → mE u j = ⟨0, 0, 0, 0⟩) : VC Try.prog 39 ([bun u]) (flt ⟨(vB (u.m.getD m default).l u.inp u.cl i).2, m, i, (vB (u.m.getD m default).l u.inp u.cl i).1⟩) := by
  have q5 := sm.l
  obtain ⟨w1, w2, w3, w4, w5⟩ := wholeE_0 w
  obtain ⟨w6, w7, w8⟩ : In64 u.h ∧ In64 u.x ∧ In64 u.c := ⟨ok.h, ok.x, ok.c⟩
  have oz0 := @refElems_v (u.h) (u.x) (u.c) w6 w7 w8
  have oz2 := (decide_eq_false (p := (u.cl < 2)) (by omega))
  have oz10 := @rvb_ob (u) (m) (i) ok sm hm h6 hi hf hb h
  exact VC.run (fn := Try.f39) (W := [.r [] [], .r [] [.callr (rO oz0)], .br false, .r [] [.br true, .br true, .br true, .br false], .br false, .r [] [], .br false, .r [] [], .br false, .r [] [], .code [.any (rg [(0, 1), (12, 4), (17, 8), (26, 4), (31, 4)]), .weak 3 (i64 (↑0 : Int)), .sort] (Exit.ret) (zO oz10)]) Try.func39 (by kernel_rfl) (.c oz0 <| .c (show (elems u.h u.x u.c == 0) = false by (refine decide_eq_false ?_; omega)) <| .c oz2 <| .c oz2 <| .c oz2 <| .c oz2 <| .c (decide_eq_false (p := (u.cl > 16)) (by omega)) <| .c (show ((↑(List.map mdlC u.m).length : Int) == 0) = false by (simp only [decide_eq_true_eq, decide_eq_false_iff_not, beq_iff_eq, bne_iff_ne, ne_eq, beq_eq_false_iff_ne, bne_eq_false_iff_eq, Bool.not_eq_true', Bool.not_eq_false', Bool.not_eq_eq_eq_not, Bool.not_true, Bool.not_false, Classical.not_not, Int.not_lt, Int.not_le, Bool.and_eq_true, Bool.and_eq_false_iff, Bool.or_eq_true, Bool.or_eq_false_iff, Bool.and_true, Bool.true_and, Bool.and_false, Bool.false_and, Bool.or_false, Bool.false_or, eqNums, List.length_map, List.length_append, List.length_cons, List.length_nil, List.length_set, List.length_replicate, List.length_take, List.length_drop, List.length_range, Int.toNat_natCast, Nat.zero_add, List.map_eq_nil_iff]; (first | done | with_reducible assumption | omega | contradiction))) <| .c (show decide ((↑(List.map mdlC u.m).length : Int) > 3) = false by (simp; omega)) <| .c (Weak.int (k := .i64) (show ((0) : Int) = ((↑0 : Int)) from (by omega))) <| .c oz10 <| .n)
theorem rvbundle_v (u : Bun) (ok : u.Ok) (sm : u.Sm) : VC Try.prog 39 [bun u] (flt (bunE u)) := by
  rcases bunE_cases u with h | ⟨w, h⟩ | ⟨w, m, h1, h2, h3⟩
  · exact rvbundle_a u ok sm h
  · rw [bunE_y w h]; exact rvbundle_y u ok sm w h
  · rw [bunE_m w h1 h2 h3]
    rcases modelE_cases (u.m.getD m default).l u.inp u.cl with ⟨g0, g6, g⟩ | g | ⟨g6, i, g1, g2, g3⟩
    · exact absurd (by rw [show mE u m = ⟨0, 0, 0, 0⟩ from modelE_y g0 g6 g]) h2
    · exact rvbundle_na u m ok sm w h1 g h3
    · rw [show mE u m = _ from modelE_m g6 g1 g2 g3]; exact rvbundle_nb u m i ok sm w h1 g6 g1 g2 g3 h3
set_option maxRecDepth 100000 in
set_option maxHeartbeats 2000000 in
theorem rvright_v (u : Bun) (ok : u.Ok) (sm : u.Sm) : VC Try.prog 41 ([bun u]) (bv ((bunE u).w == 0)) := by
  have oz0 := @rvbundle_v (u) ok sm
  exact VC.run (fn := Try.f41) (W := [.r [] [], .r [] [.callr (rO oz0)]]) Try.func41 (by kernel_rfl) (.c oz0 <| .n)
end Go.Proofs.Ytdmomnaoegkpiaa

