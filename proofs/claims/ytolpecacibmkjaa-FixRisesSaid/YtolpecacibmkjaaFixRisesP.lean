/- FixRises: for every input the law returns true, and each argument reads afterwards as before. No condition. -/
import Derived.Test.YtolpecacibmkjaaRows
import Derived.WalkKit
import Derived.ProofKit
import Derived.OpenShut
import Derived.ShutString
import Derived.ChangeOld
import Derived.Below
import Derived.Test.YtolpecacibmkjaaOpen
import Derived.Test.YtolpecacibmkjaaFixD
namespace Go.Proofs.Ytolpecacibmkjaa.fixRises
open Go.ChangeShapes Go.WideShapes Go.ChangeAt Go.RowKit
open Go.ChangeMaps (open_string shut_string)
set_option linter.unusedVariables false

theorem own : ownKnob Try.prog.godebug = none := by kernel_rfl
theorem laidOut : laidOutB Try.prog = true := by kernel_rfl
theorem c3 : Try.prog.cellsOf 3 = 1 := by kernel_rfl
theorem c21 : Try.prog.cellsOf 21 = 1 := by kernel_rfl
theorem c26 : Try.prog.cellsOf 26 = 1 := by kernel_rfl
theorem c28 : Try.prog.cellsOf 28 = 3 := by kernel_rfl
theorem list3 {l : List Value} (h : l.length = 3) : ∃ x0 x1 x2, l = [x0, x1, x2] := by
  match l, h with
  | [x0, x1, x2], _ => exact ⟨x0, x1, x2, rfl⟩

theorem walk (a0 : Int) (a1 : Int) (a2_Mult : Int) (a2_Shift : Int) (a2_Zero : Int) (w : World) (w0 : (Lit.int .i32 a0).wf = true) (w1 : (Lit.int .i32 a1).wf = true) (w2_Mult : (Lit.int .i32 a2_Mult).wf = true) (w2_Shift : (Lit.int .i64 a2_Shift).wf = true) (w2_Zero : (Lit.int .i8 a2_Zero).wf = true) :
    Calls Try.prog 4 #[.int .i32 a0, .int .i32 a1, .agg #[.int .i32 a2_Mult, .int .i64 a2_Shift, .int .i8 a2_Zero]] w fun e w' => e = .returned (.bool true) ∧ Below w.heap.size w w' := by
  exact fixRises_walk a0 a1 a2_Mult a2_Shift a2_Zero w (wf_i32 w0).1 (wf_i32 w0).2 (wf_i32 w1).1 (wf_i32 w1).2 (wf_i32 w2_Mult).1 (wf_i32 w2_Mult).2 (wf_i8 w2_Zero).1 (wf_i8 w2_Zero).2

set_option maxRecDepth 100000 in
theorem lifted (os : Os) (started : os.Started) (H : Type) (enc : TypeId × Value → H) :
    ReturnsInHanded {} Try.checked os 4 .any (Rows.fixRisesSpec.pre6 enc Try.prog Try.f4 Rows.fixRisesRow.domain false) (Rows.fixRisesSpec.post enc Try.prog Try.f4 false true false false) := by
  refine returnsInHanded_of_change (C := Try.checked) own started (by kernel_rfl) Try.func4
    (ChangeSpec.witness6 (enc := enc) (C := Try.checked) false ⟨#[], #[.int .i32 0, .int .i32 0, .agg #[.int .i32 0, .int .i64 0, .int .i8 0]], []⟩ 8 (by kernel_rfl) (by kernel_rfl) (by kernel_rfl) (by kernel_rfl)) ?_
  intro W base args ds gs before hval0 hW hcnd _
  have hval : ∀ (j : Nat) t v, Try.f4.params[j]? = some t → args[j]? = some v → Value.okWide Try.prog W .any base t v := hval0
  have hW' := hW
  obtain ⟨p, q, hA0, hV, rfl, hfz, hnd⟩ := hW
  have hA : DataW.TrodAll enc Try.prog W 0 (fun _ => true) true Try.f4.params.toList args.toList ds p := hA0
  rw [Try.params4] at hA hval
  obtain ⟨v0, vs0, d0, ds0, p0, q0, hargs, rfl, rfl, h0, r0⟩ := trodAll_cons hA
  obtain ⟨v1, vs1, d1, ds1, p1, q1, rfl, rfl, rfl, h1, r1⟩ := trodAll_cons r0
  obtain ⟨v2, vs2, d2, ds2, p2, q2, rfl, rfl, rfl, h2, r2⟩ := trodAll_cons r1
  obtain ⟨rfl, rfl, rfl⟩ := trodAll_nil r2
  obtain rfl : args = #[v0, v1, v2] := by cases args; simp_all
  obtain ⟨rfl, rfl⟩ := trodVars_none hV
  obtain ⟨a0, rfl, rfl, rfl, w0⟩ := open_int Try.underlying21 (hval 0 21 v0 rfl rfl) h0
  obtain ⟨a1, rfl, rfl, rfl, w1⟩ := open_int Try.underlying21 (hval 1 21 v1 rfl rfl) h1
  have k2 := h2
  have lt2 : ∀ x ∈ p2, x.block < W.heap.size := by obtain ⟨m, hm⟩ := k2; exact DataW.trod_lt m _ _ _ hm
  obtain ⟨cs2, rfl, sz2⟩ := okWide_struct Try.underlying28 (hval 2 28 v2 rfl rfl)
  obtain ⟨l2, rfl, ln2⟩ := arr_of_size sz2
  rw [c28] at ln2
  obtain ⟨x2_0, x2_1, x2_2, rfl⟩ := list3 ln2
  have g2 := Can.of h2
  have g2_Mult : Can enc Try.prog W (fun _ => true) true 21 [x2_0] := by simpa [Value.cells, c21] using Can.fields Try.underlying28 g2 0 _ rfl
  have g2_Shift : Can enc Try.prog W (fun _ => true) true 3 [x2_1] := by simpa [Value.cells, c3] using Can.fields Try.underlying28 g2 1 _ rfl
  have g2_Zero : Can enc Try.prog W (fun _ => true) true 26 [x2_2] := by simpa [Value.cells, c26] using Can.fields Try.underlying28 g2 2 _ rfl
  obtain ⟨a2_Mult, rfl, w2_Mult⟩ := Can.int Try.underlying21 g2_Mult
  obtain ⟨a2_Shift, rfl, w2_Shift⟩ := Can.int Try.underlying3 g2_Shift
  obtain ⟨a2_Zero, rfl, w2_Zero⟩ := Can.int Try.underlying26 g2_Zero
  clear hA0 hval0
  refine (walk a0 a1 a2_Mult a2_Shift a2_Zero W w0 w1 w2_Mult w2_Shift w2_Zero).mono fun e W' ⟨he, bel⟩ => ?_
  subst he
  exact ⟨_, rfl, _, _, _, [], _, [], hW', trodAll_mk1 (shut_bool Try.underlying4 _), (trodAll_cons_mk (shut_int Try.underlying21 w0) (trodAll_cons_mk (shut_int Try.underlying21 w1) (trodAll_cons_mk (Below.trod laidOut (by kernel_rfl) (of_decide_eq_true (by kernel_rfl)) k2 bel lt2) trodAll_mk0))), rfl, bel.frame _, fun h => by cases h⟩

theorem over : Rows.fixRisesRow.holds Try.pinned (OpenSpec.ofChange Rows.fixRisesSpec) :=
  OpenClaim.holds_of_wide 4 Try.f4 rfl rfl rfl rfl rfl rfl rfl ⟨rfl, rfl, rfl, rfl, rfl⟩ rfl rfl rfl rfl rfl (by kernel_rfl) Try.func4 (by kernel_rfl)
    (of_decide_eq_true (by kernel_rfl)) (by unfold Func.isWrapper; first | (rw [if_pos (by decide +kernel)]; kernel_rfl) | (rw [if_neg (by decide +kernel)]; exact ⟨rfl, rfl⟩))
    (fun os started H enc _ => lifted os started H enc)

theorem proved : Rows.FixRisesSaid := over
#print axioms proved
end Go.Proofs.Ytolpecacibmkjaa.fixRises
