/- GuardHeads: for every input the law returns true, and each argument reads afterwards as before. No condition. -/
import Derived.Test.YtcegfkmelcjdhaaRows
import Derived.WalkKit
import Derived.ProofKit
import Derived.OpenShut
import Derived.ShutString
import Derived.ChangeOld
import Derived.Below
import Derived.Test.YtcegfkmelcjdhaaOpen
import Derived.Test.YtcegfkmelcjdhaaGd
import Derived.Test.YtcegfkmelcjdhaaFin
import Derived.Test.YtcegfkmelcjdhaaOpen
namespace Go.Proofs.Ytcegfkmelcjdhaa.guardHeads
open Go.ChangeShapes Go.WideShapes Go.ChangeAt Go.RowKit
open Go.ChangeMaps (open_string shut_string)
set_option linter.unusedVariables false

theorem own : ownKnob Try.prog.godebug = none := by kernel_rfl
theorem laidOut : laidOutB Try.prog = true := by kernel_rfl
theorem c21 : Try.prog.cellsOf 21 = 1 := by kernel_rfl
theorem c24 : Try.prog.cellsOf 24 = 1 := by kernel_rfl
theorem c27 : Try.prog.cellsOf 27 = 1 := by kernel_rfl
theorem c28 : Try.prog.cellsOf 28 = 1 := by kernel_rfl
theorem c77 : Try.prog.cellsOf 77 = 3 := by kernel_rfl
theorem list3 {l : List Value} (h : l.length = 3) : ∃ x0 x1 x2, l = [x0, x1, x2] := by
  match l, h with
  | [x0, x1, x2], _ => exact ⟨x0, x1, x2, rfl⟩

theorem walk (v0_W : Value) (z0_W : List Int) (v0_Bias : Value) (z0_Bias : List Int) (a0_Need : Int) (a1 : Int) (a2 : Int) (w : World) (w0_W : Rd w v0_W (z0_W.map (Value.int .i8)) ∧ ∀ n ∈ z0_W, (Lit.int .i8 n).wf = true) (w0_Bias : Rd w v0_Bias (z0_Bias.map (Value.int .i32)) ∧ ∀ n ∈ z0_Bias, (Lit.int .i32 n).wf = true) (w0_Need : (Lit.int .i32 a0_Need).wf = true) (w1 : (Lit.int .i8 a1).wf = true) (w2 : (Lit.int .i8 a2).wf = true) :
    Calls Try.prog 13 #[.agg #[v0_W, v0_Bias, .int .i32 a0_Need], .int .i8 a1, .int .i8 a2] w fun e w' => e = .returned (.bool true) ∧ Below w.heap.size w w' := by
  exact law_of (guardHeads_v z0_W z0_Bias a0_Need a1 a2 (fun x hx => wf_i8 (w0_W.2 x hx)) (fun x hx => wf_i32 (w0_Bias.2 x hx)) (wf_i8 w1) (wf_i8 w2))
    (.cons (RelL.agg (.cons (rel_ints w0_W.1) (.cons (rel_ints w0_Bias.1) (.cons (rel_l w _) (.nil w))))) (.cons (rel_l w _) (.cons (rel_l w _) (.nil w))))

set_option maxRecDepth 100000 in
theorem lifted (os : Os) (started : os.Started) (H : Type) (enc : TypeId × Value → H) :
    ReturnsInHanded {} Try.checked os 13 .any (Rows.guardHeadsSpec.pre6 enc Try.prog Try.f13 Rows.guardHeadsRow.domain false) (Rows.guardHeadsSpec.post enc Try.prog Try.f13 false true false false) := by
  refine returnsInHanded_of_change (C := Try.checked) own started (by kernel_rfl) Try.func13
    (ChangeSpec.witness6 (enc := enc) (C := Try.checked) false ⟨#[], #[.agg #[.slice none 0 0, .slice none 0 0, .int .i32 0], .int .i8 0, .int .i8 0], []⟩ 8 (by kernel_rfl) (by kernel_rfl) (by kernel_rfl) (by kernel_rfl)) ?_
  intro W base args ds gs before hval0 hW hcnd _
  have hval : ∀ (j : Nat) t v, Try.f13.params[j]? = some t → args[j]? = some v → Value.okWide Try.prog W .any base t v := hval0
  have hW' := hW
  obtain ⟨p, q, hA0, hV, rfl, hfz, hnd⟩ := hW
  have hA : DataW.TrodAll enc Try.prog W 0 (fun _ => true) true Try.f13.params.toList args.toList ds p := hA0
  rw [Try.params13] at hA hval
  obtain ⟨v0, vs0, d0, ds0, p0, q0, hargs, rfl, rfl, h0, r0⟩ := trodAll_cons hA
  obtain ⟨v1, vs1, d1, ds1, p1, q1, rfl, rfl, rfl, h1, r1⟩ := trodAll_cons r0
  obtain ⟨v2, vs2, d2, ds2, p2, q2, rfl, rfl, rfl, h2, r2⟩ := trodAll_cons r1
  obtain ⟨rfl, rfl, rfl⟩ := trodAll_nil r2
  obtain rfl : args = #[v0, v1, v2] := by cases args; simp_all
  obtain ⟨rfl, rfl⟩ := trodVars_none hV
  have k0 := h0
  have lt0 : ∀ x ∈ p0, x.block < W.heap.size := by obtain ⟨m, hm⟩ := k0; exact DataW.trod_lt m _ _ _ hm
  obtain ⟨cs0, rfl, sz0⟩ := okWide_struct Try.underlying77 (hval 0 77 v0 rfl rfl)
  obtain ⟨l0, rfl, ln0⟩ := arr_of_size sz0
  rw [c77] at ln0
  obtain ⟨x0_0, x0_1, x0_2, rfl⟩ := list3 ln0
  have g0 := Can.of h0
  have g0_W : Can enc Try.prog W (fun _ => true) true 24 [x0_0] := by simpa [Value.cells, c24] using Can.fields Try.underlying77 g0 0 _ rfl
  have g0_Bias : Can enc Try.prog W (fun _ => true) true 28 [x0_1] := by simpa [Value.cells, c28] using Can.fields Try.underlying77 g0 1 _ rfl
  have g0_Need : Can enc Try.prog W (fun _ => true) true 21 [x0_2] := by simpa [Value.cells, c21] using Can.fields Try.underlying77 g0 2 _ rfl
  obtain ⟨z0_W, w0_W⟩ := Can.ints Try.underlying24 Try.underlying27 c27 g0_W
  obtain ⟨z0_Bias, w0_Bias⟩ := Can.ints Try.underlying28 Try.underlying21 c21 g0_Bias
  obtain ⟨a0_Need, rfl, w0_Need⟩ := Can.int Try.underlying21 g0_Need
  obtain ⟨a1, rfl, rfl, rfl, w1⟩ := open_int Try.underlying27 (hval 1 27 v1 rfl rfl) h1
  obtain ⟨a2, rfl, rfl, rfl, w2⟩ := open_int Try.underlying27 (hval 2 27 v2 rfl rfl) h2
  clear hA0 hval0
  refine (walk x0_0 z0_W x0_1 z0_Bias a0_Need a1 a2 W w0_W w0_Bias w0_Need w1 w2).mono fun e W' ⟨he, bel⟩ => ?_
  subst he
  exact ⟨_, rfl, _, _, _, [], _, [], hW', trodAll_mk1 (shut_bool Try.underlying4 _), (trodAll_cons_mk (Below.trod laidOut (by kernel_rfl) (of_decide_eq_true (by kernel_rfl)) k0 bel lt0) (trodAll_cons_mk (shut_int Try.underlying27 w1) (trodAll_cons_mk (shut_int Try.underlying27 w2) trodAll_mk0))), rfl, bel.frame _, fun h => by cases h⟩

theorem over : Rows.guardHeadsRow.holds Try.pinned (OpenSpec.ofChange Rows.guardHeadsSpec) :=
  OpenClaim.holds_of_wide 13 Try.f13 rfl rfl rfl rfl rfl rfl rfl ⟨rfl, rfl, rfl, rfl, rfl⟩ rfl rfl rfl rfl rfl (by kernel_rfl) Try.func13 (by kernel_rfl)
    (of_decide_eq_true (by kernel_rfl)) (by unfold Func.isWrapper; first | (rw [if_pos (by decide +kernel)]; kernel_rfl) | (rw [if_neg (by decide +kernel)]; exact ⟨rfl, rfl⟩))
    (fun os started H enc _ => lifted os started H enc)

theorem proved : Rows.GuardHeadsSaid := over
#print axioms proved
end Go.Proofs.Ytcegfkmelcjdhaa.guardHeads
