/- SpanSums: for every input the law returns true, and each argument reads afterwards as before. No condition. -/
import Derived.Test.YtcegfkmelcjdhaaRows
import Derived.WalkKit
import Derived.ProofKit
import Derived.OpenShut
import Derived.ShutString
import Derived.ChangeOld
import Derived.Below
import Derived.Test.YtcegfkmelcjdhaaOpen
import Derived.Test.YtcegfkmelcjdhaaSpL
import Derived.Test.YtcegfkmelcjdhaaFin
import Derived.Test.YtcegfkmelcjdhaaOpen
namespace Go.Proofs.Ytcegfkmelcjdhaa.spanSums
open Go.ChangeShapes Go.WideShapes Go.ChangeAt Go.RowKit
open Go.ChangeMaps (open_string shut_string)
set_option linter.unusedVariables false

theorem own : ownKnob Try.prog.godebug = none := by kernel_rfl
theorem laidOut : laidOutB Try.prog = true := by kernel_rfl
theorem c3 : Try.prog.cellsOf 3 = 1 := by kernel_rfl
theorem c21 : Try.prog.cellsOf 21 = 1 := by kernel_rfl
theorem c23 : Try.prog.cellsOf 23 = 3 := by kernel_rfl
theorem c24 : Try.prog.cellsOf 24 = 1 := by kernel_rfl
theorem c26 : Try.prog.cellsOf 26 = 4 := by kernel_rfl
theorem c27 : Try.prog.cellsOf 27 = 1 := by kernel_rfl
theorem c28 : Try.prog.cellsOf 28 = 1 := by kernel_rfl
theorem c30 : Try.prog.cellsOf 30 = 3 := by kernel_rfl
theorem c32 : Try.prog.cellsOf 32 = 19 := by kernel_rfl
theorem list4 {l : List Value} (h : l.length = 4) : ∃ x0 x1 x2 x3, l = [x0, x1, x2, x3] := by
  match l, h with
  | [x0, x1, x2, x3], _ => exact ⟨x0, x1, x2, x3, rfl⟩
theorem list19 {l : List Value} (h : l.length = 19) : ∃ x0 x1 x2 x3 x4 x5 x6 x7 x8 x9 x10 x11 x12 x13 x14 x15 x16 x17 x18, l = [x0, x1, x2, x3, x4, x5, x6, x7, x8, x9, x10, x11, x12, x13, x14, x15, x16, x17, x18] := by
  match l, h with
  | [x0, x1, x2, x3, x4, x5, x6, x7, x8, x9, x10, x11, x12, x13, x14, x15, x16, x17, x18], _ => exact ⟨x0, x1, x2, x3, x4, x5, x6, x7, x8, x9, x10, x11, x12, x13, x14, x15, x16, x17, x18, rfl⟩

theorem walk (a0_Shape_H : Int) (a0_Shape_W : Int) (a0_Shape_C : Int) (v0_Data : Value) (z0_Data : List Int) (a1_Kind : Int) (a1_A : Int) (a1_B : Int) (a1_K : Int) (a1_S : Int) (a1_P : Int) (a1_Out : Int) (a1_ZA : Int) (a1_ZB : Int) (v1_W : Value) (z1_W : List Int) (v1_Bias : Value) (z1_Bias : List Int) (a1_Q_Mult : Int) (a1_Q_Shift : Int) (a1_Q_Zero : Int) (a1_R_Mult : Int) (a1_R_Shift : Int) (a1_R_Zero : Int) (a1_Lo : Int) (a1_Hi : Int) (w : World) (w0_Shape_H : (Lit.int .i64 a0_Shape_H).wf = true) (w0_Shape_W : (Lit.int .i64 a0_Shape_W).wf = true) (w0_Shape_C : (Lit.int .i64 a0_Shape_C).wf = true) (w0_Data : Rd w v0_Data (z0_Data.map (Value.int .i8)) ∧ ∀ n ∈ z0_Data, (Lit.int .i8 n).wf = true) (w1_Kind : (Lit.int .i64 a1_Kind).wf = true) (w1_A : (Lit.int .i64 a1_A).wf = true) (w1_B : (Lit.int .i64 a1_B).wf = true) (w1_K : (Lit.int .i64 a1_K).wf = true) (w1_S : (Lit.int .i64 a1_S).wf = true) (w1_P : (Lit.int .i64 a1_P).wf = true) (w1_Out : (Lit.int .i64 a1_Out).wf = true) (w1_ZA : (Lit.int .i8 a1_ZA).wf = true) (w1_ZB : (Lit.int .i8 a1_ZB).wf = true) (w1_W : Rd w v1_W (z1_W.map (Value.int .i8)) ∧ ∀ n ∈ z1_W, (Lit.int .i8 n).wf = true) (w1_Bias : Rd w v1_Bias (z1_Bias.map (Value.int .i32)) ∧ ∀ n ∈ z1_Bias, (Lit.int .i32 n).wf = true) (w1_Q_Mult : (Lit.int .i32 a1_Q_Mult).wf = true) (w1_Q_Shift : (Lit.int .i64 a1_Q_Shift).wf = true) (w1_Q_Zero : (Lit.int .i8 a1_Q_Zero).wf = true) (w1_R_Mult : (Lit.int .i32 a1_R_Mult).wf = true) (w1_R_Shift : (Lit.int .i64 a1_R_Shift).wf = true) (w1_R_Zero : (Lit.int .i8 a1_R_Zero).wf = true) (w1_Lo : (Lit.int .i8 a1_Lo).wf = true) (w1_Hi : (Lit.int .i8 a1_Hi).wf = true) :
    Calls Try.prog 9 #[.agg #[.int .i64 a0_Shape_H, .int .i64 a0_Shape_W, .int .i64 a0_Shape_C, v0_Data], .agg #[.int .i64 a1_Kind, .int .i64 a1_A, .int .i64 a1_B, .int .i64 a1_K, .int .i64 a1_S, .int .i64 a1_P, .int .i64 a1_Out, .int .i8 a1_ZA, .int .i8 a1_ZB, v1_W, v1_Bias, .int .i32 a1_Q_Mult, .int .i64 a1_Q_Shift, .int .i8 a1_Q_Zero, .int .i32 a1_R_Mult, .int .i64 a1_R_Shift, .int .i8 a1_R_Zero, .int .i8 a1_Lo, .int .i8 a1_Hi]] w fun e w' => e = .returned (.bool true) ∧ Below w.heap.size w w' := by
  exact law_of (spanSums_v ⟨a0_Shape_H, a0_Shape_W, a0_Shape_C, z0_Data⟩
      ⟨a1_Kind, a1_A, a1_B, a1_K, a1_S, a1_P, a1_Out, a1_ZA, a1_ZB, z1_W, z1_Bias, a1_Q_Mult, a1_Q_Shift, a1_Q_Zero, a1_R_Mult, a1_R_Shift, a1_R_Zero, a1_Lo, a1_Hi⟩
      ⟨wf_i64 w0_Shape_H, wf_i64 w0_Shape_W, wf_i64 w0_Shape_C, fun x hx => wf_i8 (w0_Data.2 x hx)⟩
      ⟨wf_i64 w1_Kind, wf_i64 w1_A, wf_i64 w1_B, wf_i64 w1_K, wf_i64 w1_S, wf_i64 w1_P, wf_i64 w1_Out, wf_i8 w1_ZA, wf_i8 w1_ZB, fun x hx => wf_i8 (w1_W.2 x hx), fun x hx => wf_i32 (w1_Bias.2 x hx), wf_i32 w1_Q_Mult, wf_i64 w1_Q_Shift, wf_i8 w1_Q_Zero, wf_i32 w1_R_Mult, wf_i64 w1_R_Shift, wf_i8 w1_R_Zero, wf_i8 w1_Lo, wf_i8 w1_Hi⟩)
    (.cons (ten_rel ⟨v0_Data, rfl, w0_Data.1⟩) (.cons (nod_rel ⟨v1_W, v1_Bias, rfl, w1_W.1, w1_Bias.1⟩) (.nil w)))

set_option maxRecDepth 100000 in
theorem lifted (os : Os) (started : os.Started) (H : Type) (enc : TypeId × Value → H) :
    ReturnsInHanded {} Try.checked os 9 .any (Rows.spanSumsSpec.pre6 enc Try.prog Try.f9 Rows.spanSumsRow.domain false) (Rows.spanSumsSpec.post enc Try.prog Try.f9 false true false false) := by
  refine returnsInHanded_of_change (C := Try.checked) own started (by kernel_rfl) Try.func9
    (ChangeSpec.witness6 (enc := enc) (C := Try.checked) false ⟨#[], #[.agg #[.int .i64 0, .int .i64 0, .int .i64 0, .slice none 0 0], .agg #[.int .i64 0, .int .i64 0, .int .i64 0, .int .i64 0, .int .i64 0, .int .i64 0, .int .i64 0, .int .i8 0, .int .i8 0, .slice none 0 0, .slice none 0 0, .int .i32 0, .int .i64 0, .int .i8 0, .int .i32 0, .int .i64 0, .int .i8 0, .int .i8 0, .int .i8 0]], []⟩ 8 (by kernel_rfl) (by kernel_rfl) (by kernel_rfl) (by kernel_rfl)) ?_
  intro W base args ds gs before hval0 hW hcnd _
  have hval : ∀ (j : Nat) t v, Try.f9.params[j]? = some t → args[j]? = some v → Value.okWide Try.prog W .any base t v := hval0
  have hW' := hW
  obtain ⟨p, q, hA0, hV, rfl, hfz, hnd⟩ := hW
  have hA : DataW.TrodAll enc Try.prog W 0 (fun _ => true) true Try.f9.params.toList args.toList ds p := hA0
  rw [Try.params9] at hA hval
  obtain ⟨v0, vs0, d0, ds0, p0, q0, hargs, rfl, rfl, h0, r0⟩ := trodAll_cons hA
  obtain ⟨v1, vs1, d1, ds1, p1, q1, rfl, rfl, rfl, h1, r1⟩ := trodAll_cons r0
  obtain ⟨rfl, rfl, rfl⟩ := trodAll_nil r1
  obtain rfl : args = #[v0, v1] := by cases args; simp_all
  obtain ⟨rfl, rfl⟩ := trodVars_none hV
  have k0 := h0
  have lt0 : ∀ x ∈ p0, x.block < W.heap.size := by obtain ⟨m, hm⟩ := k0; exact DataW.trod_lt m _ _ _ hm
  obtain ⟨cs0, rfl, sz0⟩ := okWide_struct Try.underlying26 (hval 0 26 v0 rfl rfl)
  obtain ⟨l0, rfl, ln0⟩ := arr_of_size sz0
  rw [c26] at ln0
  obtain ⟨x0_0, x0_1, x0_2, x0_3, rfl⟩ := list4 ln0
  have g0 := Can.of h0
  have g0_Shape : Can enc Try.prog W (fun _ => true) true 23 [x0_0, x0_1, x0_2] := by simpa [Value.cells, c23] using Can.fields Try.underlying26 g0 0 _ rfl
  have g0_Data : Can enc Try.prog W (fun _ => true) true 24 [x0_3] := by simpa [Value.cells, c24] using Can.fields Try.underlying26 g0 1 _ rfl
  have g0_Shape_H : Can enc Try.prog W (fun _ => true) true 3 [x0_0] := by simpa [Value.cells, c3] using Can.fields Try.underlying23 g0_Shape 0 _ rfl
  have g0_Shape_W : Can enc Try.prog W (fun _ => true) true 3 [x0_1] := by simpa [Value.cells, c3] using Can.fields Try.underlying23 g0_Shape 1 _ rfl
  have g0_Shape_C : Can enc Try.prog W (fun _ => true) true 3 [x0_2] := by simpa [Value.cells, c3] using Can.fields Try.underlying23 g0_Shape 2 _ rfl
  obtain ⟨a0_Shape_H, rfl, w0_Shape_H⟩ := Can.int Try.underlying3 g0_Shape_H
  obtain ⟨a0_Shape_W, rfl, w0_Shape_W⟩ := Can.int Try.underlying3 g0_Shape_W
  obtain ⟨a0_Shape_C, rfl, w0_Shape_C⟩ := Can.int Try.underlying3 g0_Shape_C
  obtain ⟨z0_Data, w0_Data⟩ := Can.ints Try.underlying24 Try.underlying27 c27 g0_Data
  have k1 := h1
  have lt1 : ∀ x ∈ p1, x.block < W.heap.size := by obtain ⟨m, hm⟩ := k1; exact DataW.trod_lt m _ _ _ hm
  obtain ⟨cs1, rfl, sz1⟩ := okWide_struct Try.underlying32 (hval 1 32 v1 rfl rfl)
  obtain ⟨l1, rfl, ln1⟩ := arr_of_size sz1
  rw [c32] at ln1
  obtain ⟨x1_0, x1_1, x1_2, x1_3, x1_4, x1_5, x1_6, x1_7, x1_8, x1_9, x1_10, x1_11, x1_12, x1_13, x1_14, x1_15, x1_16, x1_17, x1_18, rfl⟩ := list19 ln1
  have g1 := Can.of h1
  have g1_Kind : Can enc Try.prog W (fun _ => true) true 3 [x1_0] := by simpa [Value.cells, c3] using Can.fields Try.underlying32 g1 0 _ rfl
  have g1_A : Can enc Try.prog W (fun _ => true) true 3 [x1_1] := by simpa [Value.cells, c3] using Can.fields Try.underlying32 g1 1 _ rfl
  have g1_B : Can enc Try.prog W (fun _ => true) true 3 [x1_2] := by simpa [Value.cells, c3] using Can.fields Try.underlying32 g1 2 _ rfl
  have g1_K : Can enc Try.prog W (fun _ => true) true 3 [x1_3] := by simpa [Value.cells, c3] using Can.fields Try.underlying32 g1 3 _ rfl
  have g1_S : Can enc Try.prog W (fun _ => true) true 3 [x1_4] := by simpa [Value.cells, c3] using Can.fields Try.underlying32 g1 4 _ rfl
  have g1_P : Can enc Try.prog W (fun _ => true) true 3 [x1_5] := by simpa [Value.cells, c3] using Can.fields Try.underlying32 g1 5 _ rfl
  have g1_Out : Can enc Try.prog W (fun _ => true) true 3 [x1_6] := by simpa [Value.cells, c3] using Can.fields Try.underlying32 g1 6 _ rfl
  have g1_ZA : Can enc Try.prog W (fun _ => true) true 27 [x1_7] := by simpa [Value.cells, c27] using Can.fields Try.underlying32 g1 7 _ rfl
  have g1_ZB : Can enc Try.prog W (fun _ => true) true 27 [x1_8] := by simpa [Value.cells, c27] using Can.fields Try.underlying32 g1 8 _ rfl
  have g1_W : Can enc Try.prog W (fun _ => true) true 24 [x1_9] := by simpa [Value.cells, c24] using Can.fields Try.underlying32 g1 9 _ rfl
  have g1_Bias : Can enc Try.prog W (fun _ => true) true 28 [x1_10] := by simpa [Value.cells, c28] using Can.fields Try.underlying32 g1 10 _ rfl
  have g1_Q : Can enc Try.prog W (fun _ => true) true 30 [x1_11, x1_12, x1_13] := by simpa [Value.cells, c30] using Can.fields Try.underlying32 g1 11 _ rfl
  have g1_R : Can enc Try.prog W (fun _ => true) true 30 [x1_14, x1_15, x1_16] := by simpa [Value.cells, c30] using Can.fields Try.underlying32 g1 12 _ rfl
  have g1_Lo : Can enc Try.prog W (fun _ => true) true 27 [x1_17] := by simpa [Value.cells, c27] using Can.fields Try.underlying32 g1 13 _ rfl
  have g1_Hi : Can enc Try.prog W (fun _ => true) true 27 [x1_18] := by simpa [Value.cells, c27] using Can.fields Try.underlying32 g1 14 _ rfl
  obtain ⟨a1_Kind, rfl, w1_Kind⟩ := Can.int Try.underlying3 g1_Kind
  obtain ⟨a1_A, rfl, w1_A⟩ := Can.int Try.underlying3 g1_A
  obtain ⟨a1_B, rfl, w1_B⟩ := Can.int Try.underlying3 g1_B
  obtain ⟨a1_K, rfl, w1_K⟩ := Can.int Try.underlying3 g1_K
  obtain ⟨a1_S, rfl, w1_S⟩ := Can.int Try.underlying3 g1_S
  obtain ⟨a1_P, rfl, w1_P⟩ := Can.int Try.underlying3 g1_P
  obtain ⟨a1_Out, rfl, w1_Out⟩ := Can.int Try.underlying3 g1_Out
  obtain ⟨a1_ZA, rfl, w1_ZA⟩ := Can.int Try.underlying27 g1_ZA
  obtain ⟨a1_ZB, rfl, w1_ZB⟩ := Can.int Try.underlying27 g1_ZB
  obtain ⟨z1_W, w1_W⟩ := Can.ints Try.underlying24 Try.underlying27 c27 g1_W
  obtain ⟨z1_Bias, w1_Bias⟩ := Can.ints Try.underlying28 Try.underlying21 c21 g1_Bias
  have g1_Q_Mult : Can enc Try.prog W (fun _ => true) true 21 [x1_11] := by simpa [Value.cells, c21] using Can.fields Try.underlying30 g1_Q 0 _ rfl
  have g1_Q_Shift : Can enc Try.prog W (fun _ => true) true 3 [x1_12] := by simpa [Value.cells, c3] using Can.fields Try.underlying30 g1_Q 1 _ rfl
  have g1_Q_Zero : Can enc Try.prog W (fun _ => true) true 27 [x1_13] := by simpa [Value.cells, c27] using Can.fields Try.underlying30 g1_Q 2 _ rfl
  obtain ⟨a1_Q_Mult, rfl, w1_Q_Mult⟩ := Can.int Try.underlying21 g1_Q_Mult
  obtain ⟨a1_Q_Shift, rfl, w1_Q_Shift⟩ := Can.int Try.underlying3 g1_Q_Shift
  obtain ⟨a1_Q_Zero, rfl, w1_Q_Zero⟩ := Can.int Try.underlying27 g1_Q_Zero
  have g1_R_Mult : Can enc Try.prog W (fun _ => true) true 21 [x1_14] := by simpa [Value.cells, c21] using Can.fields Try.underlying30 g1_R 0 _ rfl
  have g1_R_Shift : Can enc Try.prog W (fun _ => true) true 3 [x1_15] := by simpa [Value.cells, c3] using Can.fields Try.underlying30 g1_R 1 _ rfl
  have g1_R_Zero : Can enc Try.prog W (fun _ => true) true 27 [x1_16] := by simpa [Value.cells, c27] using Can.fields Try.underlying30 g1_R 2 _ rfl
  obtain ⟨a1_R_Mult, rfl, w1_R_Mult⟩ := Can.int Try.underlying21 g1_R_Mult
  obtain ⟨a1_R_Shift, rfl, w1_R_Shift⟩ := Can.int Try.underlying3 g1_R_Shift
  obtain ⟨a1_R_Zero, rfl, w1_R_Zero⟩ := Can.int Try.underlying27 g1_R_Zero
  obtain ⟨a1_Lo, rfl, w1_Lo⟩ := Can.int Try.underlying27 g1_Lo
  obtain ⟨a1_Hi, rfl, w1_Hi⟩ := Can.int Try.underlying27 g1_Hi
  clear hA0 hval0
  refine (walk a0_Shape_H a0_Shape_W a0_Shape_C x0_3 z0_Data a1_Kind a1_A a1_B a1_K a1_S a1_P a1_Out a1_ZA a1_ZB x1_9 z1_W x1_10 z1_Bias a1_Q_Mult a1_Q_Shift a1_Q_Zero a1_R_Mult a1_R_Shift a1_R_Zero a1_Lo a1_Hi W w0_Shape_H w0_Shape_W w0_Shape_C w0_Data w1_Kind w1_A w1_B w1_K w1_S w1_P w1_Out w1_ZA w1_ZB w1_W w1_Bias w1_Q_Mult w1_Q_Shift w1_Q_Zero w1_R_Mult w1_R_Shift w1_R_Zero w1_Lo w1_Hi).mono fun e W' ⟨he, bel⟩ => ?_
  subst he
  exact ⟨_, rfl, _, _, _, [], _, [], hW', trodAll_mk1 (shut_bool Try.underlying4 _), (trodAll_cons_mk (Below.trod laidOut (by kernel_rfl) (of_decide_eq_true (by kernel_rfl)) k0 bel lt0) (trodAll_cons_mk (Below.trod laidOut (by kernel_rfl) (of_decide_eq_true (by kernel_rfl)) k1 bel lt1) trodAll_mk0)), rfl, bel.frame _, fun h => by cases h⟩

theorem over : Rows.spanSumsRow.holds Try.pinned (OpenSpec.ofChange Rows.spanSumsSpec) :=
  OpenClaim.holds_of_wide 9 Try.f9 rfl rfl rfl rfl rfl rfl rfl ⟨rfl, rfl, rfl, rfl, rfl⟩ rfl rfl rfl rfl rfl (by kernel_rfl) Try.func9 (by kernel_rfl)
    (of_decide_eq_true (by kernel_rfl)) (by unfold Func.isWrapper; first | (rw [if_pos (by decide +kernel)]; kernel_rfl) | (rw [if_neg (by decide +kernel)]; exact ⟨rfl, rfl⟩))
    (fun os started H enc _ => lifted os started H enc)

theorem proved : Rows.SpanSumsSaid := over
#print axioms proved
end Go.Proofs.Ytcegfkmelcjdhaa.spanSums
