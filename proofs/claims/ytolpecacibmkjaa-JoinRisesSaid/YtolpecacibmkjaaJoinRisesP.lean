/- JoinRises: for every input the law returns true, and each argument reads afterwards as before. No condition. -/
import Derived.Test.YtolpecacibmkjaaRows
import Derived.WalkKit
import Derived.ProofKit
import Derived.OpenShut
import Derived.ShutString
import Derived.ChangeOld
import Derived.Below
import Derived.Test.YtolpecacibmkjaaOpen
import Derived.Test.YtolpecacibmkjaaJoinD
namespace Go.Proofs.Ytolpecacibmkjaa.joinRises
open Go.ChangeShapes Go.WideShapes Go.ChangeAt Go.RowKit
open Go.ChangeMaps (open_string shut_string)
set_option linter.unusedVariables false

theorem own : ownKnob Try.prog.godebug = none := by kernel_rfl
theorem laidOut : laidOutB Try.prog = true := by kernel_rfl
theorem c3 : Try.prog.cellsOf 3 = 1 := by kernel_rfl
theorem c21 : Try.prog.cellsOf 21 = 1 := by kernel_rfl
theorem c26 : Try.prog.cellsOf 26 = 1 := by kernel_rfl
theorem c28 : Try.prog.cellsOf 28 = 3 := by kernel_rfl
theorem c32 : Try.prog.cellsOf 32 = 1 := by kernel_rfl
theorem c36 : Try.prog.cellsOf 36 = 1 := by kernel_rfl
theorem c51 : Try.prog.cellsOf 51 = 19 := by kernel_rfl
theorem list19 {l : List Value} (h : l.length = 19) : ∃ x0 x1 x2 x3 x4 x5 x6 x7 x8 x9 x10 x11 x12 x13 x14 x15 x16 x17 x18, l = [x0, x1, x2, x3, x4, x5, x6, x7, x8, x9, x10, x11, x12, x13, x14, x15, x16, x17, x18] := by
  match l, h with
  | [x0, x1, x2, x3, x4, x5, x6, x7, x8, x9, x10, x11, x12, x13, x14, x15, x16, x17, x18], _ => exact ⟨x0, x1, x2, x3, x4, x5, x6, x7, x8, x9, x10, x11, x12, x13, x14, x15, x16, x17, x18, rfl⟩

theorem walk (a0 : Int) (a1 : Int) (a2 : Int) (a3_Kind : Int) (a3_A : Int) (a3_B : Int) (a3_K : Int) (a3_S : Int) (a3_P : Int) (a3_Out : Int) (a3_ZA : Int) (a3_ZB : Int) (v3_W : Value) (z3_W : List Int) (v3_Bias : Value) (z3_Bias : List Int) (a3_Q_Mult : Int) (a3_Q_Shift : Int) (a3_Q_Zero : Int) (a3_R_Mult : Int) (a3_R_Shift : Int) (a3_R_Zero : Int) (a3_Lo : Int) (a3_Hi : Int) (w : World) (w0 : (Lit.int .i8 a0).wf = true) (w1 : (Lit.int .i8 a1).wf = true) (w2 : (Lit.int .u8 a2).wf = true) (w3_Kind : (Lit.int .i64 a3_Kind).wf = true) (w3_A : (Lit.int .i64 a3_A).wf = true) (w3_B : (Lit.int .i64 a3_B).wf = true) (w3_K : (Lit.int .i64 a3_K).wf = true) (w3_S : (Lit.int .i64 a3_S).wf = true) (w3_P : (Lit.int .i64 a3_P).wf = true) (w3_Out : (Lit.int .i64 a3_Out).wf = true) (w3_ZA : (Lit.int .i8 a3_ZA).wf = true) (w3_ZB : (Lit.int .i8 a3_ZB).wf = true) (w3_W : Rd w v3_W (z3_W.map (Value.int .i8)) ∧ ∀ n ∈ z3_W, (Lit.int .i8 n).wf = true) (w3_Bias : Rd w v3_Bias (z3_Bias.map (Value.int .i32)) ∧ ∀ n ∈ z3_Bias, (Lit.int .i32 n).wf = true) (w3_Q_Mult : (Lit.int .i32 a3_Q_Mult).wf = true) (w3_Q_Shift : (Lit.int .i64 a3_Q_Shift).wf = true) (w3_Q_Zero : (Lit.int .i8 a3_Q_Zero).wf = true) (w3_R_Mult : (Lit.int .i32 a3_R_Mult).wf = true) (w3_R_Shift : (Lit.int .i64 a3_R_Shift).wf = true) (w3_R_Zero : (Lit.int .i8 a3_R_Zero).wf = true) (w3_Lo : (Lit.int .i8 a3_Lo).wf = true) (w3_Hi : (Lit.int .i8 a3_Hi).wf = true) :
    Calls Try.prog 10 #[.int .i8 a0, .int .i8 a1, .int .u8 a2, .agg #[.int .i64 a3_Kind, .int .i64 a3_A, .int .i64 a3_B, .int .i64 a3_K, .int .i64 a3_S, .int .i64 a3_P, .int .i64 a3_Out, .int .i8 a3_ZA, .int .i8 a3_ZB, v3_W, v3_Bias, .int .i32 a3_Q_Mult, .int .i64 a3_Q_Shift, .int .i8 a3_Q_Zero, .int .i32 a3_R_Mult, .int .i64 a3_R_Shift, .int .i8 a3_R_Zero, .int .i8 a3_Lo, .int .i8 a3_Hi]] w fun e w' => e = .returned (.bool true) ∧ Below w.heap.size w w' := by
  exact joinRises_walk a0 a1 a2 ⟨a3_Kind, a3_A, a3_B, a3_K, a3_S, a3_P, a3_Out, a3_ZA, a3_ZB, v3_W, v3_Bias, a3_Q_Mult, a3_Q_Shift, a3_Q_Zero, a3_R_Mult, a3_R_Shift, a3_R_Zero, a3_Lo, a3_Hi⟩ w
    ⟨w3_Kind, w3_A, w3_B, w3_K, w3_S, w3_P, w3_Out, w3_ZA, w3_ZB, w3_Q_Mult, w3_Q_Shift, w3_Q_Zero, w3_R_Mult, w3_R_Shift, w3_R_Zero, w3_Lo, w3_Hi⟩ (wf_i8 w0).1 (wf_i8 w0).2 (wf_i8 w1).1 (wf_i8 w1).2 (wf_u8 w2).1 (wf_u8 w2).2

set_option maxRecDepth 100000 in
theorem lifted (os : Os) (started : os.Started) (H : Type) (enc : TypeId × Value → H) :
    ReturnsInHanded {} Try.checked os 10 .any (Rows.joinRisesSpec.pre6 enc Try.prog Try.f10 Rows.joinRisesRow.domain false) (Rows.joinRisesSpec.post enc Try.prog Try.f10 false true false false) := by
  refine returnsInHanded_of_change (C := Try.checked) own started (by kernel_rfl) Try.func10
    (ChangeSpec.witness6 (enc := enc) (C := Try.checked) false ⟨#[], #[.int .i8 0, .int .i8 0, .int .u8 0, .agg #[.int .i64 0, .int .i64 0, .int .i64 0, .int .i64 0, .int .i64 0, .int .i64 0, .int .i64 0, .int .i8 0, .int .i8 0, .slice none 0 0, .slice none 0 0, .int .i32 0, .int .i64 0, .int .i8 0, .int .i32 0, .int .i64 0, .int .i8 0, .int .i8 0, .int .i8 0]], []⟩ 8 (by kernel_rfl) (by kernel_rfl) (by kernel_rfl) (by kernel_rfl)) ?_
  intro W base args ds gs before hval0 hW hcnd _
  have hval : ∀ (j : Nat) t v, Try.f10.params[j]? = some t → args[j]? = some v → Value.okWide Try.prog W .any base t v := hval0
  have hW' := hW
  obtain ⟨p, q, hA0, hV, rfl, hfz, hnd⟩ := hW
  have hA : DataW.TrodAll enc Try.prog W 0 (fun _ => true) true Try.f10.params.toList args.toList ds p := hA0
  rw [Try.params10] at hA hval
  obtain ⟨v0, vs0, d0, ds0, p0, q0, hargs, rfl, rfl, h0, r0⟩ := trodAll_cons hA
  obtain ⟨v1, vs1, d1, ds1, p1, q1, rfl, rfl, rfl, h1, r1⟩ := trodAll_cons r0
  obtain ⟨v2, vs2, d2, ds2, p2, q2, rfl, rfl, rfl, h2, r2⟩ := trodAll_cons r1
  obtain ⟨v3, vs3, d3, ds3, p3, q3, rfl, rfl, rfl, h3, r3⟩ := trodAll_cons r2
  obtain ⟨rfl, rfl, rfl⟩ := trodAll_nil r3
  obtain rfl : args = #[v0, v1, v2, v3] := by cases args; simp_all
  obtain ⟨rfl, rfl⟩ := trodVars_none hV
  obtain ⟨a0, rfl, rfl, rfl, w0⟩ := open_int Try.underlying26 (hval 0 26 v0 rfl rfl) h0
  obtain ⟨a1, rfl, rfl, rfl, w1⟩ := open_int Try.underlying26 (hval 1 26 v1 rfl rfl) h1
  obtain ⟨a2, rfl, rfl, rfl, w2⟩ := open_int Try.underlying5 (hval 2 5 v2 rfl rfl) h2
  have k3 := h3
  have lt3 : ∀ x ∈ p3, x.block < W.heap.size := by obtain ⟨m, hm⟩ := k3; exact DataW.trod_lt m _ _ _ hm
  obtain ⟨cs3, rfl, sz3⟩ := okWide_struct Try.underlying51 (hval 3 51 v3 rfl rfl)
  obtain ⟨l3, rfl, ln3⟩ := arr_of_size sz3
  rw [c51] at ln3
  obtain ⟨x3_0, x3_1, x3_2, x3_3, x3_4, x3_5, x3_6, x3_7, x3_8, x3_9, x3_10, x3_11, x3_12, x3_13, x3_14, x3_15, x3_16, x3_17, x3_18, rfl⟩ := list19 ln3
  have g3 := Can.of h3
  have g3_Kind : Can enc Try.prog W (fun _ => true) true 3 [x3_0] := by simpa [Value.cells, c3] using Can.fields Try.underlying51 g3 0 _ rfl
  have g3_A : Can enc Try.prog W (fun _ => true) true 3 [x3_1] := by simpa [Value.cells, c3] using Can.fields Try.underlying51 g3 1 _ rfl
  have g3_B : Can enc Try.prog W (fun _ => true) true 3 [x3_2] := by simpa [Value.cells, c3] using Can.fields Try.underlying51 g3 2 _ rfl
  have g3_K : Can enc Try.prog W (fun _ => true) true 3 [x3_3] := by simpa [Value.cells, c3] using Can.fields Try.underlying51 g3 3 _ rfl
  have g3_S : Can enc Try.prog W (fun _ => true) true 3 [x3_4] := by simpa [Value.cells, c3] using Can.fields Try.underlying51 g3 4 _ rfl
  have g3_P : Can enc Try.prog W (fun _ => true) true 3 [x3_5] := by simpa [Value.cells, c3] using Can.fields Try.underlying51 g3 5 _ rfl
  have g3_Out : Can enc Try.prog W (fun _ => true) true 3 [x3_6] := by simpa [Value.cells, c3] using Can.fields Try.underlying51 g3 6 _ rfl
  have g3_ZA : Can enc Try.prog W (fun _ => true) true 26 [x3_7] := by simpa [Value.cells, c26] using Can.fields Try.underlying51 g3 7 _ rfl
  have g3_ZB : Can enc Try.prog W (fun _ => true) true 26 [x3_8] := by simpa [Value.cells, c26] using Can.fields Try.underlying51 g3 8 _ rfl
  have g3_W : Can enc Try.prog W (fun _ => true) true 36 [x3_9] := by simpa [Value.cells, c36] using Can.fields Try.underlying51 g3 9 _ rfl
  have g3_Bias : Can enc Try.prog W (fun _ => true) true 32 [x3_10] := by simpa [Value.cells, c32] using Can.fields Try.underlying51 g3 10 _ rfl
  have g3_Q : Can enc Try.prog W (fun _ => true) true 28 [x3_11, x3_12, x3_13] := by simpa [Value.cells, c28] using Can.fields Try.underlying51 g3 11 _ rfl
  have g3_R : Can enc Try.prog W (fun _ => true) true 28 [x3_14, x3_15, x3_16] := by simpa [Value.cells, c28] using Can.fields Try.underlying51 g3 12 _ rfl
  have g3_Lo : Can enc Try.prog W (fun _ => true) true 26 [x3_17] := by simpa [Value.cells, c26] using Can.fields Try.underlying51 g3 13 _ rfl
  have g3_Hi : Can enc Try.prog W (fun _ => true) true 26 [x3_18] := by simpa [Value.cells, c26] using Can.fields Try.underlying51 g3 14 _ rfl
  obtain ⟨a3_Kind, rfl, w3_Kind⟩ := Can.int Try.underlying3 g3_Kind
  obtain ⟨a3_A, rfl, w3_A⟩ := Can.int Try.underlying3 g3_A
  obtain ⟨a3_B, rfl, w3_B⟩ := Can.int Try.underlying3 g3_B
  obtain ⟨a3_K, rfl, w3_K⟩ := Can.int Try.underlying3 g3_K
  obtain ⟨a3_S, rfl, w3_S⟩ := Can.int Try.underlying3 g3_S
  obtain ⟨a3_P, rfl, w3_P⟩ := Can.int Try.underlying3 g3_P
  obtain ⟨a3_Out, rfl, w3_Out⟩ := Can.int Try.underlying3 g3_Out
  obtain ⟨a3_ZA, rfl, w3_ZA⟩ := Can.int Try.underlying26 g3_ZA
  obtain ⟨a3_ZB, rfl, w3_ZB⟩ := Can.int Try.underlying26 g3_ZB
  obtain ⟨z3_W, w3_W⟩ := Can.ints Try.underlying36 Try.underlying26 c26 g3_W
  obtain ⟨z3_Bias, w3_Bias⟩ := Can.ints Try.underlying32 Try.underlying21 c21 g3_Bias
  have g3_Q_Mult : Can enc Try.prog W (fun _ => true) true 21 [x3_11] := by simpa [Value.cells, c21] using Can.fields Try.underlying28 g3_Q 0 _ rfl
  have g3_Q_Shift : Can enc Try.prog W (fun _ => true) true 3 [x3_12] := by simpa [Value.cells, c3] using Can.fields Try.underlying28 g3_Q 1 _ rfl
  have g3_Q_Zero : Can enc Try.prog W (fun _ => true) true 26 [x3_13] := by simpa [Value.cells, c26] using Can.fields Try.underlying28 g3_Q 2 _ rfl
  obtain ⟨a3_Q_Mult, rfl, w3_Q_Mult⟩ := Can.int Try.underlying21 g3_Q_Mult
  obtain ⟨a3_Q_Shift, rfl, w3_Q_Shift⟩ := Can.int Try.underlying3 g3_Q_Shift
  obtain ⟨a3_Q_Zero, rfl, w3_Q_Zero⟩ := Can.int Try.underlying26 g3_Q_Zero
  have g3_R_Mult : Can enc Try.prog W (fun _ => true) true 21 [x3_14] := by simpa [Value.cells, c21] using Can.fields Try.underlying28 g3_R 0 _ rfl
  have g3_R_Shift : Can enc Try.prog W (fun _ => true) true 3 [x3_15] := by simpa [Value.cells, c3] using Can.fields Try.underlying28 g3_R 1 _ rfl
  have g3_R_Zero : Can enc Try.prog W (fun _ => true) true 26 [x3_16] := by simpa [Value.cells, c26] using Can.fields Try.underlying28 g3_R 2 _ rfl
  obtain ⟨a3_R_Mult, rfl, w3_R_Mult⟩ := Can.int Try.underlying21 g3_R_Mult
  obtain ⟨a3_R_Shift, rfl, w3_R_Shift⟩ := Can.int Try.underlying3 g3_R_Shift
  obtain ⟨a3_R_Zero, rfl, w3_R_Zero⟩ := Can.int Try.underlying26 g3_R_Zero
  obtain ⟨a3_Lo, rfl, w3_Lo⟩ := Can.int Try.underlying26 g3_Lo
  obtain ⟨a3_Hi, rfl, w3_Hi⟩ := Can.int Try.underlying26 g3_Hi
  clear hA0 hval0
  refine (walk a0 a1 a2 a3_Kind a3_A a3_B a3_K a3_S a3_P a3_Out a3_ZA a3_ZB x3_9 z3_W x3_10 z3_Bias a3_Q_Mult a3_Q_Shift a3_Q_Zero a3_R_Mult a3_R_Shift a3_R_Zero a3_Lo a3_Hi W w0 w1 w2 w3_Kind w3_A w3_B w3_K w3_S w3_P w3_Out w3_ZA w3_ZB w3_W w3_Bias w3_Q_Mult w3_Q_Shift w3_Q_Zero w3_R_Mult w3_R_Shift w3_R_Zero w3_Lo w3_Hi).mono fun e W' ⟨he, bel⟩ => ?_
  subst he
  exact ⟨_, rfl, _, _, _, [], _, [], hW', trodAll_mk1 (shut_bool Try.underlying4 _), (trodAll_cons_mk (shut_int Try.underlying26 w0) (trodAll_cons_mk (shut_int Try.underlying26 w1) (trodAll_cons_mk (shut_int Try.underlying5 w2) (trodAll_cons_mk (Below.trod laidOut (by kernel_rfl) (of_decide_eq_true (by kernel_rfl)) k3 bel lt3) trodAll_mk0)))), rfl, bel.frame _, fun h => by cases h⟩

theorem over : Rows.joinRisesRow.holds Try.pinned (OpenSpec.ofChange Rows.joinRisesSpec) :=
  OpenClaim.holds_of_wide 10 Try.f10 rfl rfl rfl rfl rfl rfl rfl ⟨rfl, rfl, rfl, rfl, rfl⟩ rfl rfl rfl rfl rfl (by kernel_rfl) Try.func10 (by kernel_rfl)
    (of_decide_eq_true (by kernel_rfl)) (by unfold Func.isWrapper; first | (rw [if_pos (by decide +kernel)]; kernel_rfl) | (rw [if_neg (by decide +kernel)]; exact ⟨rfl, rfl⟩))
    (fun os started H enc _ => lifted os started H enc)

theorem proved : Rows.JoinRisesSaid := over
#print axioms proved
end Go.Proofs.Ytolpecacibmkjaa.joinRises
