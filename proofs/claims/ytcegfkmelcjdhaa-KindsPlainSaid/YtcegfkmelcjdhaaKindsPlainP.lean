/- KindsPlain: for every input the law returns true, and each argument reads afterwards as before. No condition. -/
import Derived.Test.YtcegfkmelcjdhaaRows
import Derived.WalkKit
import Derived.ProofKit
import Derived.OpenShut
import Derived.ShutString
import Derived.ChangeOld
import Derived.Below
import Derived.Test.YtcegfkmelcjdhaaOpen
import Derived.Test.YtcegfkmelcjdhaaKnP
import Derived.Test.YtcegfkmelcjdhaaFin
import Derived.Test.YtcegfkmelcjdhaaOpen
namespace Go.Proofs.Ytcegfkmelcjdhaa.kindsPlain
open Go.ChangeShapes Go.WideShapes Go.ChangeAt Go.RowKit
open Go.ChangeMaps (open_string shut_string)
set_option linter.unusedVariables false

theorem own : ownKnob Try.prog.godebug = none := by kernel_rfl
theorem laidOut : laidOutB Try.prog = true := by kernel_rfl
theorem c3 : Try.prog.cellsOf 3 = 1 := by kernel_rfl
theorem c21 : Try.prog.cellsOf 21 = 1 := by kernel_rfl
theorem c24 : Try.prog.cellsOf 24 = 1 := by kernel_rfl
theorem c27 : Try.prog.cellsOf 27 = 1 := by kernel_rfl
theorem c28 : Try.prog.cellsOf 28 = 1 := by kernel_rfl
theorem c30 : Try.prog.cellsOf 30 = 3 := by kernel_rfl
theorem c32 : Try.prog.cellsOf 32 = 19 := by kernel_rfl
theorem list19 {l : List Value} (h : l.length = 19) : ∃ x0 x1 x2 x3 x4 x5 x6 x7 x8 x9 x10 x11 x12 x13 x14 x15 x16 x17 x18, l = [x0, x1, x2, x3, x4, x5, x6, x7, x8, x9, x10, x11, x12, x13, x14, x15, x16, x17, x18] := by
  match l, h with
  | [x0, x1, x2, x3, x4, x5, x6, x7, x8, x9, x10, x11, x12, x13, x14, x15, x16, x17, x18], _ => exact ⟨x0, x1, x2, x3, x4, x5, x6, x7, x8, x9, x10, x11, x12, x13, x14, x15, x16, x17, x18, rfl⟩

theorem walk (a0_Kind : Int) (a0_A : Int) (a0_B : Int) (a0_K : Int) (a0_S : Int) (a0_P : Int) (a0_Out : Int) (a0_ZA : Int) (a0_ZB : Int) (v0_W : Value) (z0_W : List Int) (v0_Bias : Value) (z0_Bias : List Int) (a0_Q_Mult : Int) (a0_Q_Shift : Int) (a0_Q_Zero : Int) (a0_R_Mult : Int) (a0_R_Shift : Int) (a0_R_Zero : Int) (a0_Lo : Int) (a0_Hi : Int) (w : World) (w0_Kind : (Lit.int .i64 a0_Kind).wf = true) (w0_A : (Lit.int .i64 a0_A).wf = true) (w0_B : (Lit.int .i64 a0_B).wf = true) (w0_K : (Lit.int .i64 a0_K).wf = true) (w0_S : (Lit.int .i64 a0_S).wf = true) (w0_P : (Lit.int .i64 a0_P).wf = true) (w0_Out : (Lit.int .i64 a0_Out).wf = true) (w0_ZA : (Lit.int .i8 a0_ZA).wf = true) (w0_ZB : (Lit.int .i8 a0_ZB).wf = true) (w0_W : Rd w v0_W (z0_W.map (Value.int .i8)) ∧ ∀ n ∈ z0_W, (Lit.int .i8 n).wf = true) (w0_Bias : Rd w v0_Bias (z0_Bias.map (Value.int .i32)) ∧ ∀ n ∈ z0_Bias, (Lit.int .i32 n).wf = true) (w0_Q_Mult : (Lit.int .i32 a0_Q_Mult).wf = true) (w0_Q_Shift : (Lit.int .i64 a0_Q_Shift).wf = true) (w0_Q_Zero : (Lit.int .i8 a0_Q_Zero).wf = true) (w0_R_Mult : (Lit.int .i32 a0_R_Mult).wf = true) (w0_R_Shift : (Lit.int .i64 a0_R_Shift).wf = true) (w0_R_Zero : (Lit.int .i8 a0_R_Zero).wf = true) (w0_Lo : (Lit.int .i8 a0_Lo).wf = true) (w0_Hi : (Lit.int .i8 a0_Hi).wf = true) :
    Calls Try.prog 12 #[.agg #[.int .i64 a0_Kind, .int .i64 a0_A, .int .i64 a0_B, .int .i64 a0_K, .int .i64 a0_S, .int .i64 a0_P, .int .i64 a0_Out, .int .i8 a0_ZA, .int .i8 a0_ZB, v0_W, v0_Bias, .int .i32 a0_Q_Mult, .int .i64 a0_Q_Shift, .int .i8 a0_Q_Zero, .int .i32 a0_R_Mult, .int .i64 a0_R_Shift, .int .i8 a0_R_Zero, .int .i8 a0_Lo, .int .i8 a0_Hi]] w fun e w' => e = .returned (.bool true) ∧ Below w.heap.size w w' := by
  exact law_of (kindsPlain_v ⟨a0_Kind, a0_A, a0_B, a0_K, a0_S, a0_P, a0_Out, a0_ZA, a0_ZB, z0_W, z0_Bias, a0_Q_Mult, a0_Q_Shift, a0_Q_Zero, a0_R_Mult, a0_R_Shift, a0_R_Zero, a0_Lo, a0_Hi⟩ ⟨wf_i64 w0_Kind, wf_i64 w0_A, wf_i64 w0_B, wf_i64 w0_K, wf_i64 w0_S, wf_i64 w0_P, wf_i64 w0_Out, wf_i8 w0_ZA, wf_i8 w0_ZB, fun x hx => wf_i8 (w0_W.2 x hx), fun x hx => wf_i32 (w0_Bias.2 x hx), wf_i32 w0_Q_Mult, wf_i64 w0_Q_Shift, wf_i8 w0_Q_Zero, wf_i32 w0_R_Mult, wf_i64 w0_R_Shift, wf_i8 w0_R_Zero, wf_i8 w0_Lo, wf_i8 w0_Hi⟩)
    (.cons (nod_rel ⟨v0_W, v0_Bias, rfl, w0_W.1, w0_Bias.1⟩) (.nil w))

set_option maxRecDepth 100000 in
theorem lifted (os : Os) (started : os.Started) (H : Type) (enc : TypeId × Value → H) :
    ReturnsInHanded {} Try.checked os 12 .any (Rows.kindsPlainSpec.pre6 enc Try.prog Try.f12 Rows.kindsPlainRow.domain false) (Rows.kindsPlainSpec.post enc Try.prog Try.f12 false true false false) := by
  refine returnsInHanded_of_change (C := Try.checked) own started (by kernel_rfl) Try.func12
    (ChangeSpec.witness6 (enc := enc) (C := Try.checked) false ⟨#[], #[.agg #[.int .i64 0, .int .i64 0, .int .i64 0, .int .i64 0, .int .i64 0, .int .i64 0, .int .i64 0, .int .i8 0, .int .i8 0, .slice none 0 0, .slice none 0 0, .int .i32 0, .int .i64 0, .int .i8 0, .int .i32 0, .int .i64 0, .int .i8 0, .int .i8 0, .int .i8 0]], []⟩ 8 (by kernel_rfl) (by kernel_rfl) (by kernel_rfl) (by kernel_rfl)) ?_
  intro W base args ds gs before hval0 hW hcnd _
  have hval : ∀ (j : Nat) t v, Try.f12.params[j]? = some t → args[j]? = some v → Value.okWide Try.prog W .any base t v := hval0
  have hW' := hW
  obtain ⟨p, q, hA0, hV, rfl, hfz, hnd⟩ := hW
  have hA : DataW.TrodAll enc Try.prog W 0 (fun _ => true) true Try.f12.params.toList args.toList ds p := hA0
  rw [Try.params12] at hA hval
  obtain ⟨v0, vs0, d0, ds0, p0, q0, hargs, rfl, rfl, h0, r0⟩ := trodAll_cons hA
  obtain ⟨rfl, rfl, rfl⟩ := trodAll_nil r0
  obtain rfl : args = #[v0] := by cases args; simp_all
  obtain ⟨rfl, rfl⟩ := trodVars_none hV
  have k0 := h0
  have lt0 : ∀ x ∈ p0, x.block < W.heap.size := by obtain ⟨m, hm⟩ := k0; exact DataW.trod_lt m _ _ _ hm
  obtain ⟨cs0, rfl, sz0⟩ := okWide_struct Try.underlying32 (hval 0 32 v0 rfl rfl)
  obtain ⟨l0, rfl, ln0⟩ := arr_of_size sz0
  rw [c32] at ln0
  obtain ⟨x0_0, x0_1, x0_2, x0_3, x0_4, x0_5, x0_6, x0_7, x0_8, x0_9, x0_10, x0_11, x0_12, x0_13, x0_14, x0_15, x0_16, x0_17, x0_18, rfl⟩ := list19 ln0
  have g0 := Can.of h0
  have g0_Kind : Can enc Try.prog W (fun _ => true) true 3 [x0_0] := by simpa [Value.cells, c3] using Can.fields Try.underlying32 g0 0 _ rfl
  have g0_A : Can enc Try.prog W (fun _ => true) true 3 [x0_1] := by simpa [Value.cells, c3] using Can.fields Try.underlying32 g0 1 _ rfl
  have g0_B : Can enc Try.prog W (fun _ => true) true 3 [x0_2] := by simpa [Value.cells, c3] using Can.fields Try.underlying32 g0 2 _ rfl
  have g0_K : Can enc Try.prog W (fun _ => true) true 3 [x0_3] := by simpa [Value.cells, c3] using Can.fields Try.underlying32 g0 3 _ rfl
  have g0_S : Can enc Try.prog W (fun _ => true) true 3 [x0_4] := by simpa [Value.cells, c3] using Can.fields Try.underlying32 g0 4 _ rfl
  have g0_P : Can enc Try.prog W (fun _ => true) true 3 [x0_5] := by simpa [Value.cells, c3] using Can.fields Try.underlying32 g0 5 _ rfl
  have g0_Out : Can enc Try.prog W (fun _ => true) true 3 [x0_6] := by simpa [Value.cells, c3] using Can.fields Try.underlying32 g0 6 _ rfl
  have g0_ZA : Can enc Try.prog W (fun _ => true) true 27 [x0_7] := by simpa [Value.cells, c27] using Can.fields Try.underlying32 g0 7 _ rfl
  have g0_ZB : Can enc Try.prog W (fun _ => true) true 27 [x0_8] := by simpa [Value.cells, c27] using Can.fields Try.underlying32 g0 8 _ rfl
  have g0_W : Can enc Try.prog W (fun _ => true) true 24 [x0_9] := by simpa [Value.cells, c24] using Can.fields Try.underlying32 g0 9 _ rfl
  have g0_Bias : Can enc Try.prog W (fun _ => true) true 28 [x0_10] := by simpa [Value.cells, c28] using Can.fields Try.underlying32 g0 10 _ rfl
  have g0_Q : Can enc Try.prog W (fun _ => true) true 30 [x0_11, x0_12, x0_13] := by simpa [Value.cells, c30] using Can.fields Try.underlying32 g0 11 _ rfl
  have g0_R : Can enc Try.prog W (fun _ => true) true 30 [x0_14, x0_15, x0_16] := by simpa [Value.cells, c30] using Can.fields Try.underlying32 g0 12 _ rfl
  have g0_Lo : Can enc Try.prog W (fun _ => true) true 27 [x0_17] := by simpa [Value.cells, c27] using Can.fields Try.underlying32 g0 13 _ rfl
  have g0_Hi : Can enc Try.prog W (fun _ => true) true 27 [x0_18] := by simpa [Value.cells, c27] using Can.fields Try.underlying32 g0 14 _ rfl
  obtain ⟨a0_Kind, rfl, w0_Kind⟩ := Can.int Try.underlying3 g0_Kind
  obtain ⟨a0_A, rfl, w0_A⟩ := Can.int Try.underlying3 g0_A
  obtain ⟨a0_B, rfl, w0_B⟩ := Can.int Try.underlying3 g0_B
  obtain ⟨a0_K, rfl, w0_K⟩ := Can.int Try.underlying3 g0_K
  obtain ⟨a0_S, rfl, w0_S⟩ := Can.int Try.underlying3 g0_S
  obtain ⟨a0_P, rfl, w0_P⟩ := Can.int Try.underlying3 g0_P
  obtain ⟨a0_Out, rfl, w0_Out⟩ := Can.int Try.underlying3 g0_Out
  obtain ⟨a0_ZA, rfl, w0_ZA⟩ := Can.int Try.underlying27 g0_ZA
  obtain ⟨a0_ZB, rfl, w0_ZB⟩ := Can.int Try.underlying27 g0_ZB
  obtain ⟨z0_W, w0_W⟩ := Can.ints Try.underlying24 Try.underlying27 c27 g0_W
  obtain ⟨z0_Bias, w0_Bias⟩ := Can.ints Try.underlying28 Try.underlying21 c21 g0_Bias
  have g0_Q_Mult : Can enc Try.prog W (fun _ => true) true 21 [x0_11] := by simpa [Value.cells, c21] using Can.fields Try.underlying30 g0_Q 0 _ rfl
  have g0_Q_Shift : Can enc Try.prog W (fun _ => true) true 3 [x0_12] := by simpa [Value.cells, c3] using Can.fields Try.underlying30 g0_Q 1 _ rfl
  have g0_Q_Zero : Can enc Try.prog W (fun _ => true) true 27 [x0_13] := by simpa [Value.cells, c27] using Can.fields Try.underlying30 g0_Q 2 _ rfl
  obtain ⟨a0_Q_Mult, rfl, w0_Q_Mult⟩ := Can.int Try.underlying21 g0_Q_Mult
  obtain ⟨a0_Q_Shift, rfl, w0_Q_Shift⟩ := Can.int Try.underlying3 g0_Q_Shift
  obtain ⟨a0_Q_Zero, rfl, w0_Q_Zero⟩ := Can.int Try.underlying27 g0_Q_Zero
  have g0_R_Mult : Can enc Try.prog W (fun _ => true) true 21 [x0_14] := by simpa [Value.cells, c21] using Can.fields Try.underlying30 g0_R 0 _ rfl
  have g0_R_Shift : Can enc Try.prog W (fun _ => true) true 3 [x0_15] := by simpa [Value.cells, c3] using Can.fields Try.underlying30 g0_R 1 _ rfl
  have g0_R_Zero : Can enc Try.prog W (fun _ => true) true 27 [x0_16] := by simpa [Value.cells, c27] using Can.fields Try.underlying30 g0_R 2 _ rfl
  obtain ⟨a0_R_Mult, rfl, w0_R_Mult⟩ := Can.int Try.underlying21 g0_R_Mult
  obtain ⟨a0_R_Shift, rfl, w0_R_Shift⟩ := Can.int Try.underlying3 g0_R_Shift
  obtain ⟨a0_R_Zero, rfl, w0_R_Zero⟩ := Can.int Try.underlying27 g0_R_Zero
  obtain ⟨a0_Lo, rfl, w0_Lo⟩ := Can.int Try.underlying27 g0_Lo
  obtain ⟨a0_Hi, rfl, w0_Hi⟩ := Can.int Try.underlying27 g0_Hi
  clear hA0 hval0
  refine (walk a0_Kind a0_A a0_B a0_K a0_S a0_P a0_Out a0_ZA a0_ZB x0_9 z0_W x0_10 z0_Bias a0_Q_Mult a0_Q_Shift a0_Q_Zero a0_R_Mult a0_R_Shift a0_R_Zero a0_Lo a0_Hi W w0_Kind w0_A w0_B w0_K w0_S w0_P w0_Out w0_ZA w0_ZB w0_W w0_Bias w0_Q_Mult w0_Q_Shift w0_Q_Zero w0_R_Mult w0_R_Shift w0_R_Zero w0_Lo w0_Hi).mono fun e W' ⟨he, bel⟩ => ?_
  subst he
  exact ⟨_, rfl, _, _, _, [], _, [], hW', trodAll_mk1 (shut_bool Try.underlying4 _), (trodAll_cons_mk (Below.trod laidOut (by kernel_rfl) (of_decide_eq_true (by kernel_rfl)) k0 bel lt0) trodAll_mk0), rfl, bel.frame _, fun h => by cases h⟩

theorem over : Rows.kindsPlainRow.holds Try.pinned (OpenSpec.ofChange Rows.kindsPlainSpec) :=
  OpenClaim.holds_of_wide 12 Try.f12 rfl rfl rfl rfl rfl rfl rfl ⟨rfl, rfl, rfl, rfl, rfl⟩ rfl rfl rfl rfl rfl (by kernel_rfl) Try.func12 (by kernel_rfl)
    (of_decide_eq_true (by kernel_rfl)) (by unfold Func.isWrapper; first | (rw [if_pos (by decide +kernel)]; kernel_rfl) | (rw [if_neg (by decide +kernel)]; exact ⟨rfl, rfl⟩))
    (fun os started H enc _ => lifted os started H enc)

theorem proved : Rows.KindsPlainSaid := over
#print axioms proved
end Go.Proofs.Ytcegfkmelcjdhaa.kindsPlain
