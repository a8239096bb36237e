/- JoinTensors: for every input the law returns true, and each argument reads afterwards as before. No condition. -/
import Derived.Test.YtgimdjfbnbkpgaaRows
import Derived.WalkKit
import Derived.ProofKit
import Derived.OpenShut
import Derived.ShutString
import Derived.ChangeOld
import Derived.Below
import Derived.Test.YtgimdjfbnbkpgaaJoinTensorsG3
namespace Go.Proofs.Ytgimdjfbnbkpgaa.joinTensors
open Go.ChangeShapes Go.WideShapes Go.ChangeAt Go.RowKit
open Go.ChangeMaps (open_string shut_string)
set_option linter.unusedVariables false
set_option maxRecDepth 10000

theorem own : ownKnob Try.prog.godebug = none := by kernel_rfl
theorem laidOut : laidOutB Try.prog = true := by kernel_rfl
theorem c3 : Try.prog.cellsOf 3 = 1 := by kernel_rfl
theorem rd3 {H : Type} {enc : TypeId × Value → H} {w : World} : Rdr enc Try.prog w 3 Int (fun n : Int => [AV.lit (Value.int .i64 n)]) In64 := Rdr.int Try.underlying3 c3 fun n h => wf_i64 h
abbrev D23_2 : Type := Int × Unit
abbrev av23_2 : D23_2 → List AV := fun d => (fun n : Int => [AV.lit (Value.int .i64 n)]) d.1 ++ (fun _ : Unit => ([] : List AV)) d.2
abbrev ok23_2 : D23_2 → Prop := fun d => In64 d.1 ∧ (fun _ : Unit => True) d.2
abbrev D23_1 : Type := Int × D23_2
abbrev av23_1 : D23_1 → List AV := fun d => (fun n : Int => [AV.lit (Value.int .i64 n)]) d.1 ++ av23_2 d.2
abbrev ok23_1 : D23_1 → Prop := fun d => In64 d.1 ∧ ok23_2 d.2
abbrev D23_0 : Type := Int × D23_1
abbrev av23_0 : D23_0 → List AV := fun d => (fun n : Int => [AV.lit (Value.int .i64 n)]) d.1 ++ av23_1 d.2
abbrev ok23_0 : D23_0 → Prop := fun d => In64 d.1 ∧ ok23_1 d.2
theorem c23 : Try.prog.cellsOf 23 = 3 := by kernel_rfl
theorem rp23 {H : Type} {enc : TypeId × Value → H} {w : World} : Rdr enc Try.prog w 23 D23_0 av23_0 ok23_0 := Rdr.struct Try.underlying23 c23 (RdrF.cons (off := 0) (n := 3) (c := 1) (av := (fun n : Int => [AV.lit (Value.int .i64 n)])) (av' := av23_1) (ok := In64) (ok' := ok23_1) rfl c3 (by decide) rd3 (RdrF.cons (off := 1) (n := 3) (c := 1) (av := (fun n : Int => [AV.lit (Value.int .i64 n)])) (av' := av23_2) (ok := In64) (ok' := ok23_2) rfl c3 (by decide) rd3 (RdrF.cons (off := 2) (n := 3) (c := 1) (av := (fun n : Int => [AV.lit (Value.int .i64 n)])) (av' := (fun _ : Unit => ([] : List AV))) (ok := In64) (ok' := (fun _ : Unit => True)) rfl c3 (by decide) rd3 (RdrF.nil (n := 3) (off := 3) (by decide)))))
theorem c27 : Try.prog.cellsOf 27 = 1 := by kernel_rfl
theorem rd27 {H : Type} {enc : TypeId × Value → H} {w : World} : Rdr enc Try.prog w 27 Int (fun n : Int => [AV.lit (Value.int .i8 n)]) In8 := Rdr.int Try.underlying27 c27 fun n h => wf_i8 h
theorem c24 : Try.prog.cellsOf 24 = 1 := by kernel_rfl
theorem rd24 {H : Type} {enc : TypeId × Value → H} {w : World} : Rdr enc Try.prog w 24 (List Int) (fun l : List Int => [AV.sl 1 (l.map (fun n : Int => [AV.lit (Value.int .i8 n)]))]) (fun l : List Int => ∀ d ∈ l, In8 d) := Rdr.slice Try.underlying24 c24 c27 (by decide) rd27
abbrev D26_1 : Type := (List Int) × Unit
abbrev av26_1 : D26_1 → List AV := fun d => (fun l : List Int => [AV.sl 1 (l.map (fun n : Int => [AV.lit (Value.int .i8 n)]))]) d.1 ++ (fun _ : Unit => ([] : List AV)) d.2
abbrev ok26_1 : D26_1 → Prop := fun d => (fun l : List Int => ∀ d ∈ l, In8 d) d.1 ∧ (fun _ : Unit => True) d.2
abbrev D26_0 : Type := D23_0 × D26_1
abbrev av26_0 : D26_0 → List AV := fun d => av23_0 d.1 ++ av26_1 d.2
abbrev ok26_0 : D26_0 → Prop := fun d => ok23_0 d.1 ∧ ok26_1 d.2
theorem c26 : Try.prog.cellsOf 26 = 4 := by kernel_rfl
theorem rp26 {H : Type} {enc : TypeId × Value → H} {w : World} : Rdr enc Try.prog w 26 D26_0 av26_0 ok26_0 := Rdr.struct Try.underlying26 c26 (RdrF.cons (off := 0) (n := 4) (c := 3) (av := av23_0) (av' := av26_1) (ok := ok23_0) (ok' := ok26_1) rfl c23 (by decide) rp23 (RdrF.cons (off := 3) (n := 4) (c := 1) (av := (fun l : List Int => [AV.sl 1 (l.map (fun n : Int => [AV.lit (Value.int .i8 n)]))])) (av' := (fun _ : Unit => ([] : List AV))) (ok := (fun l : List Int => ∀ d ∈ l, In8 d)) (ok' := (fun _ : Unit => True)) rfl c24 (by decide) rd24 (RdrF.nil (n := 4) (off := 4) (by decide))))
theorem rd26 {H : Type} {enc : TypeId × Value → H} {w : World} : Rdr enc Try.prog w 26 Ten tnC Ten.Ok := rp26.map (fun ⟨⟨x0, x1, x2, _⟩, x3, _⟩ => ⟨x0, x1, x2, x3⟩) (fun ⟨⟨x0, x1, x2, _⟩, x3, _⟩ => rfl) (fun ⟨⟨x0, x1, x2, _⟩, x3, _⟩ ⟨⟨h0, h1, h2, _⟩, h3, _⟩ => ⟨h0, h1, h2, h3⟩)
theorem c21 : Try.prog.cellsOf 21 = 1 := by kernel_rfl
theorem rd21 {H : Type} {enc : TypeId × Value → H} {w : World} : Rdr enc Try.prog w 21 Int (fun n : Int => [AV.lit (Value.int .i32 n)]) In32 := Rdr.int Try.underlying21 c21 fun n h => wf_i32 h
theorem c28 : Try.prog.cellsOf 28 = 1 := by kernel_rfl
theorem rd28 {H : Type} {enc : TypeId × Value → H} {w : World} : Rdr enc Try.prog w 28 (List Int) (fun l : List Int => [AV.sl 1 (l.map (fun n : Int => [AV.lit (Value.int .i32 n)]))]) (fun l : List Int => ∀ d ∈ l, In32 d) := Rdr.slice Try.underlying28 c28 c21 (by decide) rd21
abbrev D30_2 : Type := Int × Unit
abbrev av30_2 : D30_2 → List AV := fun d => (fun n : Int => [AV.lit (Value.int .i8 n)]) d.1 ++ (fun _ : Unit => ([] : List AV)) d.2
abbrev ok30_2 : D30_2 → Prop := fun d => In8 d.1 ∧ (fun _ : Unit => True) d.2
abbrev D30_1 : Type := Int × D30_2
abbrev av30_1 : D30_1 → List AV := fun d => (fun n : Int => [AV.lit (Value.int .i64 n)]) d.1 ++ av30_2 d.2
abbrev ok30_1 : D30_1 → Prop := fun d => In64 d.1 ∧ ok30_2 d.2
abbrev D30_0 : Type := Int × D30_1
abbrev av30_0 : D30_0 → List AV := fun d => (fun n : Int => [AV.lit (Value.int .i32 n)]) d.1 ++ av30_1 d.2
abbrev ok30_0 : D30_0 → Prop := fun d => In32 d.1 ∧ ok30_1 d.2
theorem c30 : Try.prog.cellsOf 30 = 3 := by kernel_rfl
theorem rp30 {H : Type} {enc : TypeId × Value → H} {w : World} : Rdr enc Try.prog w 30 D30_0 av30_0 ok30_0 := Rdr.struct Try.underlying30 c30 (RdrF.cons (off := 0) (n := 3) (c := 1) (av := (fun n : Int => [AV.lit (Value.int .i32 n)])) (av' := av30_1) (ok := In32) (ok' := ok30_1) rfl c21 (by decide) rd21 (RdrF.cons (off := 1) (n := 3) (c := 1) (av := (fun n : Int => [AV.lit (Value.int .i64 n)])) (av' := av30_2) (ok := In64) (ok' := ok30_2) rfl c3 (by decide) rd3 (RdrF.cons (off := 2) (n := 3) (c := 1) (av := (fun n : Int => [AV.lit (Value.int .i8 n)])) (av' := (fun _ : Unit => ([] : List AV))) (ok := In8) (ok' := (fun _ : Unit => True)) rfl c27 (by decide) rd27 (RdrF.nil (n := 3) (off := 3) (by decide)))))
abbrev D32_14 : Type := Int × Unit
abbrev av32_14 : D32_14 → List AV := fun d => (fun n : Int => [AV.lit (Value.int .i8 n)]) d.1 ++ (fun _ : Unit => ([] : List AV)) d.2
abbrev ok32_14 : D32_14 → Prop := fun d => In8 d.1 ∧ (fun _ : Unit => True) d.2
abbrev D32_13 : Type := Int × D32_14
abbrev av32_13 : D32_13 → List AV := fun d => (fun n : Int => [AV.lit (Value.int .i8 n)]) d.1 ++ av32_14 d.2
abbrev ok32_13 : D32_13 → Prop := fun d => In8 d.1 ∧ ok32_14 d.2
abbrev D32_12 : Type := D30_0 × D32_13
abbrev av32_12 : D32_12 → List AV := fun d => av30_0 d.1 ++ av32_13 d.2
abbrev ok32_12 : D32_12 → Prop := fun d => ok30_0 d.1 ∧ ok32_13 d.2
abbrev D32_11 : Type := D30_0 × D32_12
abbrev av32_11 : D32_11 → List AV := fun d => av30_0 d.1 ++ av32_12 d.2
abbrev ok32_11 : D32_11 → Prop := fun d => ok30_0 d.1 ∧ ok32_12 d.2
abbrev D32_10 : Type := (List Int) × D32_11
abbrev av32_10 : D32_10 → List AV := fun d => (fun l : List Int => [AV.sl 1 (l.map (fun n : Int => [AV.lit (Value.int .i32 n)]))]) d.1 ++ av32_11 d.2
abbrev ok32_10 : D32_10 → Prop := fun d => (fun l : List Int => ∀ d ∈ l, In32 d) d.1 ∧ ok32_11 d.2
abbrev D32_9 : Type := (List Int) × D32_10
abbrev av32_9 : D32_9 → List AV := fun d => (fun l : List Int => [AV.sl 1 (l.map (fun n : Int => [AV.lit (Value.int .i8 n)]))]) d.1 ++ av32_10 d.2
abbrev ok32_9 : D32_9 → Prop := fun d => (fun l : List Int => ∀ d ∈ l, In8 d) d.1 ∧ ok32_10 d.2
abbrev D32_8 : Type := Int × D32_9
abbrev av32_8 : D32_8 → List AV := fun d => (fun n : Int => [AV.lit (Value.int .i8 n)]) d.1 ++ av32_9 d.2
abbrev ok32_8 : D32_8 → Prop := fun d => In8 d.1 ∧ ok32_9 d.2
abbrev D32_7 : Type := Int × D32_8
abbrev av32_7 : D32_7 → List AV := fun d => (fun n : Int => [AV.lit (Value.int .i8 n)]) d.1 ++ av32_8 d.2
abbrev ok32_7 : D32_7 → Prop := fun d => In8 d.1 ∧ ok32_8 d.2
abbrev D32_6 : Type := Int × D32_7
abbrev av32_6 : D32_6 → List AV := fun d => (fun n : Int => [AV.lit (Value.int .i64 n)]) d.1 ++ av32_7 d.2
abbrev ok32_6 : D32_6 → Prop := fun d => In64 d.1 ∧ ok32_7 d.2
abbrev D32_5 : Type := Int × D32_6
abbrev av32_5 : D32_5 → List AV := fun d => (fun n : Int => [AV.lit (Value.int .i64 n)]) d.1 ++ av32_6 d.2
abbrev ok32_5 : D32_5 → Prop := fun d => In64 d.1 ∧ ok32_6 d.2
abbrev D32_4 : Type := Int × D32_5
abbrev av32_4 : D32_4 → List AV := fun d => (fun n : Int => [AV.lit (Value.int .i64 n)]) d.1 ++ av32_5 d.2
abbrev ok32_4 : D32_4 → Prop := fun d => In64 d.1 ∧ ok32_5 d.2
abbrev D32_3 : Type := Int × D32_4
abbrev av32_3 : D32_3 → List AV := fun d => (fun n : Int => [AV.lit (Value.int .i64 n)]) d.1 ++ av32_4 d.2
abbrev ok32_3 : D32_3 → Prop := fun d => In64 d.1 ∧ ok32_4 d.2
abbrev D32_2 : Type := Int × D32_3
abbrev av32_2 : D32_2 → List AV := fun d => (fun n : Int => [AV.lit (Value.int .i64 n)]) d.1 ++ av32_3 d.2
abbrev ok32_2 : D32_2 → Prop := fun d => In64 d.1 ∧ ok32_3 d.2
abbrev D32_1 : Type := Int × D32_2
abbrev av32_1 : D32_1 → List AV := fun d => (fun n : Int => [AV.lit (Value.int .i64 n)]) d.1 ++ av32_2 d.2
abbrev ok32_1 : D32_1 → Prop := fun d => In64 d.1 ∧ ok32_2 d.2
abbrev D32_0 : Type := Int × D32_1
abbrev av32_0 : D32_0 → List AV := fun d => (fun n : Int => [AV.lit (Value.int .i64 n)]) d.1 ++ av32_1 d.2
abbrev ok32_0 : D32_0 → Prop := fun d => In64 d.1 ∧ ok32_1 d.2
theorem c32 : Try.prog.cellsOf 32 = 19 := by kernel_rfl
theorem rp32 {H : Type} {enc : TypeId × Value → H} {w : World} : Rdr enc Try.prog w 32 D32_0 av32_0 ok32_0 := Rdr.struct Try.underlying32 c32 (RdrF.cons (off := 0) (n := 19) (c := 1) (av := (fun n : Int => [AV.lit (Value.int .i64 n)])) (av' := av32_1) (ok := In64) (ok' := ok32_1) rfl c3 (by decide) rd3 (RdrF.cons (off := 1) (n := 19) (c := 1) (av := (fun n : Int => [AV.lit (Value.int .i64 n)])) (av' := av32_2) (ok := In64) (ok' := ok32_2) rfl c3 (by decide) rd3 (RdrF.cons (off := 2) (n := 19) (c := 1) (av := (fun n : Int => [AV.lit (Value.int .i64 n)])) (av' := av32_3) (ok := In64) (ok' := ok32_3) rfl c3 (by decide) rd3 (RdrF.cons (off := 3) (n := 19) (c := 1) (av := (fun n : Int => [AV.lit (Value.int .i64 n)])) (av' := av32_4) (ok := In64) (ok' := ok32_4) rfl c3 (by decide) rd3 (RdrF.cons (off := 4) (n := 19) (c := 1) (av := (fun n : Int => [AV.lit (Value.int .i64 n)])) (av' := av32_5) (ok := In64) (ok' := ok32_5) rfl c3 (by decide) rd3 (RdrF.cons (off := 5) (n := 19) (c := 1) (av := (fun n : Int => [AV.lit (Value.int .i64 n)])) (av' := av32_6) (ok := In64) (ok' := ok32_6) rfl c3 (by decide) rd3 (RdrF.cons (off := 6) (n := 19) (c := 1) (av := (fun n : Int => [AV.lit (Value.int .i64 n)])) (av' := av32_7) (ok := In64) (ok' := ok32_7) rfl c3 (by decide) rd3 (RdrF.cons (off := 7) (n := 19) (c := 1) (av := (fun n : Int => [AV.lit (Value.int .i8 n)])) (av' := av32_8) (ok := In8) (ok' := ok32_8) rfl c27 (by decide) rd27 (RdrF.cons (off := 8) (n := 19) (c := 1) (av := (fun n : Int => [AV.lit (Value.int .i8 n)])) (av' := av32_9) (ok := In8) (ok' := ok32_9) rfl c27 (by decide) rd27 (RdrF.cons (off := 9) (n := 19) (c := 1) (av := (fun l : List Int => [AV.sl 1 (l.map (fun n : Int => [AV.lit (Value.int .i8 n)]))])) (av' := av32_10) (ok := (fun l : List Int => ∀ d ∈ l, In8 d)) (ok' := ok32_10) rfl c24 (by decide) rd24 (RdrF.cons (off := 10) (n := 19) (c := 1) (av := (fun l : List Int => [AV.sl 1 (l.map (fun n : Int => [AV.lit (Value.int .i32 n)]))])) (av' := av32_11) (ok := (fun l : List Int => ∀ d ∈ l, In32 d)) (ok' := ok32_11) rfl c28 (by decide) rd28 (RdrF.cons (off := 11) (n := 19) (c := 3) (av := av30_0) (av' := av32_12) (ok := ok30_0) (ok' := ok32_12) rfl c30 (by decide) rp30 (RdrF.cons (off := 14) (n := 19) (c := 3) (av := av30_0) (av' := av32_13) (ok := ok30_0) (ok' := ok32_13) rfl c30 (by decide) rp30 (RdrF.cons (off := 17) (n := 19) (c := 1) (av := (fun n : Int => [AV.lit (Value.int .i8 n)])) (av' := av32_14) (ok := In8) (ok' := ok32_14) rfl c27 (by decide) rd27 (RdrF.cons (off := 18) (n := 19) (c := 1) (av := (fun n : Int => [AV.lit (Value.int .i8 n)])) (av' := (fun _ : Unit => ([] : List AV))) (ok := In8) (ok' := (fun _ : Unit => True)) rfl c27 (by decide) rd27 (RdrF.nil (n := 19) (off := 19) (by decide)))))))))))))))))
theorem rd32 {H : Type} {enc : TypeId × Value → H} {w : World} : Rdr enc Try.prog w 32 Nod nodC Nod.Ok := rp32.map (fun ⟨x0, x1, x2, x3, x4, x5, x6, x7, x8, x9, x10, ⟨x11, x12, x13, _⟩, ⟨x14, x15, x16, _⟩, x17, x18, _⟩ => ⟨x0, x1, x2, x3, x4, x5, x6, x7, x8, x9, x10, x11, x12, x13, x14, x15, x16, x17, x18⟩) (fun ⟨x0, x1, x2, x3, x4, x5, x6, x7, x8, x9, x10, ⟨x11, x12, x13, _⟩, ⟨x14, x15, x16, _⟩, x17, x18, _⟩ => rfl) (fun ⟨x0, x1, x2, x3, x4, x5, x6, x7, x8, x9, x10, ⟨x11, x12, x13, _⟩, ⟨x14, x15, x16, _⟩, x17, x18, _⟩ ⟨h0, h1, h2, h3, h4, h5, h6, h7, h8, h9, h10, ⟨h11, h12, h13, _⟩, ⟨h14, h15, h16, _⟩, h17, h18, _⟩ => ⟨h0, h1, h2, h3, h4, h5, h6, h7, h8, h9, h10, h11, h12, h13, h14, h15, h16, h17, h18⟩)

theorem walk (w : World) (v0 : Value) (d0 : Ten) (v1 : Value) (d1 : Ten) (v2 : Value) (d2 : Nod) (v3 : Value) (d3 : Int) (v4 : Value) (d4 : Int) (o0 : Ten.Ok d0) (e0 : Rel (fun _ => none) (fun _ => False) w (.agg (tnC d0)) v0) (o1 : Ten.Ok d1) (e1 : Rel (fun _ => none) (fun _ => False) w (.agg (tnC d1)) v1) (o2 : Nod.Ok d2) (e2 : Rel (fun _ => none) (fun _ => False) w (.agg (nodC d2)) v2) (o3 : In8 d3) (e3 : Rel (fun _ => none) (fun _ => False) w (AV.lit (Value.int .i8 d3)) v3) (o4 : In8 d4) (e4 : Rel (fun _ => none) (fun _ => False) w (AV.lit (Value.int .i8 d4)) v4) :
    Calls Try.prog 3 #[v0, v1, v2, v3, v4] w fun e w' => e = .returned (.bool true) ∧ Below w.heap.size w w' :=
  law_of (joinTensors_v d0 d1 d2 d3 d4 o0 o1 o2 o3 o4) (.cons e0 (.cons e1 (.cons e2 (.cons e3 (.cons e4 (.nil w))))))

set_option maxRecDepth 100000 in
theorem lifted (os : Os) (started : os.Started) (H : Type) (enc : TypeId × Value → H) :
    ReturnsInHanded {} Try.checked os 3 .any (Rows.joinTensorsSpec.pre6 enc Try.prog Try.f3 Rows.joinTensorsRow.domain false) (Rows.joinTensorsSpec.post enc Try.prog Try.f3 false true false false) := by
  refine returnsInHanded_of_change (C := Try.checked) own started (by kernel_rfl) Try.func3
    (ChangeSpec.witness6 (enc := enc) (C := Try.checked) false ⟨#[], #[.agg #[.int .i64 0, .int .i64 0, .int .i64 0, .slice none 0 0], .agg #[.int .i64 0, .int .i64 0, .int .i64 0, .slice none 0 0], .agg #[.int .i64 0, .int .i64 0, .int .i64 0, .int .i64 0, .int .i64 0, .int .i64 0, .int .i64 0, .int .i8 0, .int .i8 0, .slice none 0 0, .slice none 0 0, .int .i32 0, .int .i64 0, .int .i8 0, .int .i32 0, .int .i64 0, .int .i8 0, .int .i8 0, .int .i8 0], .int .i8 0, .int .i8 0], []⟩ 8 (by kernel_rfl) (by kernel_rfl) (by kernel_rfl) (by kernel_rfl)) ?_
  intro W base args ds gs before hval0 hW hcnd _
  have hval : ∀ (j : Nat) t v, Try.f3.params[j]? = some t → args[j]? = some v → Value.okWide Try.prog W .any base t v := hval0
  have hW' := hW
  obtain ⟨p, q, hA0, hV, rfl, hfz, hnd⟩ := hW
  have hA : DataW.TrodAll enc Try.prog W 0 (fun _ => true) true Try.f3.params.toList args.toList ds p := hA0
  rw [Try.params3] at hA hval
  obtain ⟨v0, vs0, dd0, ds0, p0, q0, hargs, rfl, rfl, h0, r0⟩ := trodAll_cons hA
  obtain ⟨v1, vs1, dd1, ds1, p1, q1, rfl, rfl, rfl, h1, r1⟩ := trodAll_cons r0
  obtain ⟨v2, vs2, dd2, ds2, p2, q2, rfl, rfl, rfl, h2, r2⟩ := trodAll_cons r1
  obtain ⟨v3, vs3, dd3, ds3, p3, q3, rfl, rfl, rfl, h3, r3⟩ := trodAll_cons r2
  obtain ⟨v4, vs4, dd4, ds4, p4, q4, rfl, rfl, rfl, h4, r4⟩ := trodAll_cons r3
  obtain ⟨rfl, rfl, rfl⟩ := trodAll_nil r4
  obtain rfl : args = #[v0, v1, v2, v3, v4] := by cases args; simp_all
  obtain ⟨rfl, rfl⟩ := trodVars_none hV
  have k0 := h0
  have lt0 : ∀ x ∈ p0, x.block < W.heap.size := by obtain ⟨m, hm⟩ := k0; exact DataW.trod_lt m _ _ _ hm
  obtain ⟨d0, o0, e0⟩ := (rd26 (enc := enc) (w := W)).aggV Try.underlying26 (hval 0 26 v0 rfl rfl) h0
  have k1 := h1
  have lt1 : ∀ x ∈ p1, x.block < W.heap.size := by obtain ⟨m, hm⟩ := k1; exact DataW.trod_lt m _ _ _ hm
  obtain ⟨d1, o1, e1⟩ := (rd26 (enc := enc) (w := W)).aggV Try.underlying26 (hval 1 26 v1 rfl rfl) h1
  have k2 := h2
  have lt2 : ∀ x ∈ p2, x.block < W.heap.size := by obtain ⟨m, hm⟩ := k2; exact DataW.trod_lt m _ _ _ hm
  obtain ⟨d2, o2, e2⟩ := (rd32 (enc := enc) (w := W)).aggV Try.underlying32 (hval 2 32 v2 rfl rfl) h2
  have k3 := h3
  have lt3 : ∀ x ∈ p3, x.block < W.heap.size := by obtain ⟨m, hm⟩ := k3; exact DataW.trod_lt m _ _ _ hm
  obtain ⟨d3, o3, e3⟩ := Rdr.oneV (a := (fun n : Int => AV.lit (Value.int .i8 n))) (rd27 (enc := enc) (w := W)) (by obtain ⟨_, rfl⟩ := okWide_int Try.underlying27 (hval 3 27 v3 rfl rfl); rfl) c27 h3
  have k4 := h4
  have lt4 : ∀ x ∈ p4, x.block < W.heap.size := by obtain ⟨m, hm⟩ := k4; exact DataW.trod_lt m _ _ _ hm
  obtain ⟨d4, o4, e4⟩ := Rdr.oneV (a := (fun n : Int => AV.lit (Value.int .i8 n))) (rd27 (enc := enc) (w := W)) (by obtain ⟨_, rfl⟩ := okWide_int Try.underlying27 (hval 4 27 v4 rfl rfl); rfl) c27 h4
  clear hA0 hval0
  refine (walk W v0 d0 v1 d1 v2 d2 v3 d3 v4 d4 o0 e0 o1 e1 o2 e2 o3 e3 o4 e4).mono fun e W' ⟨he, bel⟩ => ?_
  subst he
  exact ⟨_, rfl, _, _, _, [], _, [], hW', trodAll_mk1 (shut_bool Try.underlying4 _), (trodAll_cons_mk (Below.trod laidOut (by kernel_rfl) (of_decide_eq_true (by kernel_rfl)) k0 bel lt0) (trodAll_cons_mk (Below.trod laidOut (by kernel_rfl) (of_decide_eq_true (by kernel_rfl)) k1 bel lt1) (trodAll_cons_mk (Below.trod laidOut (by kernel_rfl) (of_decide_eq_true (by kernel_rfl)) k2 bel lt2) (trodAll_cons_mk (Below.trod laidOut (by kernel_rfl) (of_decide_eq_true (by kernel_rfl)) k3 bel lt3) (trodAll_cons_mk (Below.trod laidOut (by kernel_rfl) (of_decide_eq_true (by kernel_rfl)) k4 bel lt4) trodAll_mk0))))), rfl, bel.frame _, fun h => by cases h⟩

theorem over : Rows.joinTensorsRow.holds Try.pinned (OpenSpec.ofChange Rows.joinTensorsSpec) :=
  OpenClaim.holds_of_wide 3 Try.f3 rfl rfl rfl rfl rfl rfl rfl ⟨rfl, rfl, rfl, rfl, rfl⟩ rfl rfl rfl rfl rfl (by kernel_rfl) Try.func3 (by kernel_rfl)
    (of_decide_eq_true (by kernel_rfl)) (by unfold Func.isWrapper; first | (rw [if_pos (by decide +kernel)]; kernel_rfl) | (rw [if_neg (by decide +kernel)]; exact ⟨rfl, rfl⟩))
    (fun os started H enc _ => lifted os started H enc)

theorem proved : Rows.JoinTensorsSaid := over
#print axioms proved
end Go.Proofs.Ytgimdjfbnbkpgaa.joinTensors
