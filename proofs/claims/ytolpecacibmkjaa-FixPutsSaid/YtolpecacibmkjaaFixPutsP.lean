/- FixPuts: for every input the law returns true, and each argument reads afterwards as before. No condition. -/
import Derived.Test.YtolpecacibmkjaaRows
import Derived.WalkKit
import Derived.ProofKit
import Derived.OpenShut
import Derived.ShutString
import Derived.ChangeOld
import Derived.Below
import Derived.Test.YtolpecacibmkjaaOpen
import Derived.Test.YtolpecacibmkjaaFixH
namespace Go.Proofs.Ytolpecacibmkjaa.fixPuts
open Go.ChangeShapes Go.WideShapes Go.ChangeAt Go.RowKit
open Go.ChangeMaps (open_string shut_string)
set_option linter.unusedVariables false

theorem own : ownKnob Try.prog.godebug = none := by kernel_rfl
theorem laidOut : laidOutB Try.prog = true := by kernel_rfl
theorem c3 : Try.prog.cellsOf 3 = 1 := by kernel_rfl
theorem c21 : Try.prog.cellsOf 21 = 1 := by kernel_rfl
theorem c26 : Try.prog.cellsOf 26 = 1 := by kernel_rfl
theorem c28 : Try.prog.cellsOf 28 = 3 := by kernel_rfl
theorem list3 {l : List Value} (h : l.length = 3) : ∃ x0 x1 x2, l = [x0, x1, x2] := by
  match l, h with
  | [x0, x1, x2], _ => exact ⟨x0, x1, x2, rfl⟩

theorem walk (v0 : Value) (z0 : List Int) (a1_Mult : Int) (a1_Shift : Int) (a1_Zero : Int) (a2 : Int) (a3 : Int) (w : World) (w0 : Rd w v0 (z0.map (Value.int .i32)) ∧ ∀ n ∈ z0, (Lit.int .i32 n).wf = true) (w1_Mult : (Lit.int .i32 a1_Mult).wf = true) (w1_Shift : (Lit.int .i64 a1_Shift).wf = true) (w1_Zero : (Lit.int .i8 a1_Zero).wf = true) (w2 : (Lit.int .i8 a2).wf = true) (w3 : (Lit.int .i8 a3).wf = true) :
    Calls Try.prog 6 #[v0, .agg #[.int .i32 a1_Mult, .int .i64 a1_Shift, .int .i8 a1_Zero], .int .i8 a2, .int .i8 a3] w fun e w' => e = .returned (.bool true) ∧ Below w.heap.size w w' := by
  exact fixPuts_walk v0 z0 a1_Mult a1_Shift a1_Zero a2 a3 w w0.1 (fun x hx => wf_i32 (w0.2 x hx)) (wf_i32 w1_Mult).1 (wf_i32 w1_Mult).2 (wf_i8 w1_Zero).1 (wf_i8 w1_Zero).2 (wf_i8 w2).1 (wf_i8 w2).2 (wf_i8 w3).1 (wf_i8 w3).2

set_option maxRecDepth 100000 in
theorem lifted (os : Os) (started : os.Started) (H : Type) (enc : TypeId × Value → H) :
    ReturnsInHanded {} Try.checked os 6 .any (Rows.fixPutsSpec.pre6 enc Try.prog Try.f6 Rows.fixPutsRow.domain false) (Rows.fixPutsSpec.post enc Try.prog Try.f6 false true false false) := by
  refine returnsInHanded_of_change (C := Try.checked) own started (by kernel_rfl) Try.func6
    (ChangeSpec.witness6 (enc := enc) (C := Try.checked) false ⟨#[], #[.slice none 0 0, .agg #[.int .i32 0, .int .i64 0, .int .i8 0], .int .i8 0, .int .i8 0], []⟩ 8 (by kernel_rfl) (by kernel_rfl) (by kernel_rfl) (by kernel_rfl)) ?_
  intro W base args ds gs before hval0 hW hcnd _
  have hval : ∀ (j : Nat) t v, Try.f6.params[j]? = some t → args[j]? = some v → Value.okWide Try.prog W .any base t v := hval0
  have hW' := hW
  obtain ⟨p, q, hA0, hV, rfl, hfz, hnd⟩ := hW
  have hA : DataW.TrodAll enc Try.prog W 0 (fun _ => true) true Try.f6.params.toList args.toList ds p := hA0
  rw [Try.params6] at hA hval
  obtain ⟨v0, vs0, d0, ds0, p0, q0, hargs, rfl, rfl, h0, r0⟩ := trodAll_cons hA
  obtain ⟨v1, vs1, d1, ds1, p1, q1, rfl, rfl, rfl, h1, r1⟩ := trodAll_cons r0
  obtain ⟨v2, vs2, d2, ds2, p2, q2, rfl, rfl, rfl, h2, r2⟩ := trodAll_cons r1
  obtain ⟨v3, vs3, d3, ds3, p3, q3, rfl, rfl, rfl, h3, r3⟩ := trodAll_cons r2
  obtain ⟨rfl, rfl, rfl⟩ := trodAll_nil r3
  obtain rfl : args = #[v0, v1, v2, v3] := by cases args; simp_all
  obtain ⟨rfl, rfl⟩ := trodVars_none hV
  have k0 := h0
  have lt0 : ∀ x ∈ p0, x.block < W.heap.size := by obtain ⟨m, hm⟩ := k0; exact DataW.trod_lt m _ _ _ hm
  obtain ⟨ao0, len0, cap0, rfl⟩ := okWide_slice Try.underlying32 (hval 0 32 v0 rfl rfl)
  have g0 : Can enc Try.prog W (fun _ => true) true 32 [.slice ao0 len0 cap0] := Can.of h0
  obtain ⟨z0, w0⟩ := Can.ints Try.underlying32 Try.underlying21 c21 g0
  have k1 := h1
  have lt1 : ∀ x ∈ p1, x.block < W.heap.size := by obtain ⟨m, hm⟩ := k1; exact DataW.trod_lt m _ _ _ hm
  obtain ⟨cs1, rfl, sz1⟩ := okWide_struct Try.underlying28 (hval 1 28 v1 rfl rfl)
  obtain ⟨l1, rfl, ln1⟩ := arr_of_size sz1
  rw [c28] at ln1
  obtain ⟨x1_0, x1_1, x1_2, rfl⟩ := list3 ln1
  have g1 := Can.of h1
  have g1_Mult : Can enc Try.prog W (fun _ => true) true 21 [x1_0] := by simpa [Value.cells, c21] using Can.fields Try.underlying28 g1 0 _ rfl
  have g1_Shift : Can enc Try.prog W (fun _ => true) true 3 [x1_1] := by simpa [Value.cells, c3] using Can.fields Try.underlying28 g1 1 _ rfl
  have g1_Zero : Can enc Try.prog W (fun _ => true) true 26 [x1_2] := by simpa [Value.cells, c26] using Can.fields Try.underlying28 g1 2 _ rfl
  obtain ⟨a1_Mult, rfl, w1_Mult⟩ := Can.int Try.underlying21 g1_Mult
  obtain ⟨a1_Shift, rfl, w1_Shift⟩ := Can.int Try.underlying3 g1_Shift
  obtain ⟨a1_Zero, rfl, w1_Zero⟩ := Can.int Try.underlying26 g1_Zero
  obtain ⟨a2, rfl, rfl, rfl, w2⟩ := open_int Try.underlying26 (hval 2 26 v2 rfl rfl) h2
  obtain ⟨a3, rfl, rfl, rfl, w3⟩ := open_int Try.underlying26 (hval 3 26 v3 rfl rfl) h3
  clear hA0 hval0
  refine (walk (.slice ao0 len0 cap0) z0 a1_Mult a1_Shift a1_Zero a2 a3 W w0 w1_Mult w1_Shift w1_Zero w2 w3).mono fun e W' ⟨he, bel⟩ => ?_
  subst he
  exact ⟨_, rfl, _, _, _, [], _, [], hW', trodAll_mk1 (shut_bool Try.underlying4 _), (trodAll_cons_mk (Below.trod laidOut (by kernel_rfl) (of_decide_eq_true (by kernel_rfl)) k0 bel lt0) (trodAll_cons_mk (Below.trod laidOut (by kernel_rfl) (of_decide_eq_true (by kernel_rfl)) k1 bel lt1) (trodAll_cons_mk (shut_int Try.underlying26 w2) (trodAll_cons_mk (shut_int Try.underlying26 w3) trodAll_mk0)))), rfl, bel.frame _, fun h => by cases h⟩

theorem over : Rows.fixPutsRow.holds Try.pinned (OpenSpec.ofChange Rows.fixPutsSpec) :=
  OpenClaim.holds_of_wide 6 Try.f6 rfl rfl rfl rfl rfl rfl rfl ⟨rfl, rfl, rfl, rfl, rfl⟩ rfl rfl rfl rfl rfl (by kernel_rfl) Try.func6 (by kernel_rfl)
    (of_decide_eq_true (by kernel_rfl)) (by unfold Func.isWrapper; first | (rw [if_pos (by decide +kernel)]; kernel_rfl) | (rw [if_neg (by decide +kernel)]; exact ⟨rfl, rfl⟩))
    (fun os started H enc _ => lifted os started H enc)

theorem proved : Rows.FixPutsSaid := over
#print axioms proved
end Go.Proofs.Ytolpecacibmkjaa.fixPuts
