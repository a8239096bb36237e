/- BundleCopies: for every input the law returns true, and each argument reads afterwards as before. No condition. -/
import Derived.Test.YtdmkhinckljddaaGreatRows
import Derived.WalkKit
import Derived.ProofKit
import Derived.OpenShut
import Derived.ShutString
import Derived.ChangeOld
import Derived.Below
import Derived.Test.YtdmkhinckljddaaGreatBundleCopiesG4
namespace Go.Proofs.YtdmkhinckljddaaGreat.bundleCopies
open Go.ChangeShapes Go.WideShapes Go.ChangeAt Go.RowKit
open Go.ChangeMaps (open_string shut_string)
set_option linter.unusedVariables false
set_option maxRecDepth 10000

theorem own : ownKnob Tryz.prog.godebug = none := by kernel_rfl
theorem laidOut : laidOutB Tryz.prog = true := by kernel_rfl
theorem c3 : Tryz.prog.cellsOf 3 = 1 := by kernel_rfl
theorem rd3 {H : Type} {enc : TypeId × Value → H} {w : World} : Rdr enc Tryz.prog w 3 Int (fun n : Int => [AV.lit (Value.int .i64 n)]) In64 := Rdr.int Tryz.underlying3 c3 fun n h => wf_i64 h
abbrev D23_2 : Type := Int × Unit
abbrev av23_2 : D23_2 → List AV := fun d => (fun n : Int => [AV.lit (Value.int .i64 n)]) d.1 ++ (fun _ : Unit => ([] : List AV)) d.2
abbrev ok23_2 : D23_2 → Prop := fun d => In64 d.1 ∧ (fun _ : Unit => True) d.2
abbrev D23_1 : Type := Int × D23_2
abbrev av23_1 : D23_1 → List AV := fun d => (fun n : Int => [AV.lit (Value.int .i64 n)]) d.1 ++ av23_2 d.2
abbrev ok23_1 : D23_1 → Prop := fun d => In64 d.1 ∧ ok23_2 d.2
abbrev D23_0 : Type := Int × D23_1
abbrev av23_0 : D23_0 → List AV := fun d => (fun n : Int => [AV.lit (Value.int .i64 n)]) d.1 ++ av23_1 d.2
abbrev ok23_0 : D23_0 → Prop := fun d => In64 d.1 ∧ ok23_1 d.2
theorem c23 : Tryz.prog.cellsOf 23 = 3 := by kernel_rfl
theorem rp23 {H : Type} {enc : TypeId × Value → H} {w : World} : Rdr enc Tryz.prog w 23 D23_0 av23_0 ok23_0 := Rdr.struct Tryz.underlying23 c23 (RdrF.cons (off := 0) (n := 3) (c := 1) (av := (fun n : Int => [AV.lit (Value.int .i64 n)])) (av' := av23_1) (ok := In64) (ok' := ok23_1) rfl c3 (by decide) rd3 (RdrF.cons (off := 1) (n := 3) (c := 1) (av := (fun n : Int => [AV.lit (Value.int .i64 n)])) (av' := av23_2) (ok := In64) (ok' := ok23_2) rfl c3 (by decide) rd3 (RdrF.cons (off := 2) (n := 3) (c := 1) (av := (fun n : Int => [AV.lit (Value.int .i64 n)])) (av' := (fun _ : Unit => ([] : List AV))) (ok := In64) (ok' := (fun _ : Unit => True)) rfl c3 (by decide) rd3 (RdrF.nil (n := 3) (off := 3) (by decide)))))
theorem c41 : Tryz.prog.cellsOf 41 = 1 := by kernel_rfl
theorem rd41 {H : Type} {enc : TypeId × Value → H} {w : World} : Rdr enc Tryz.prog w 41 Int (fun n : Int => [AV.lit (Value.int .i8 n)]) In8 := Rdr.int Tryz.underlying41 c41 fun n h => wf_i8 h
theorem c34 : Tryz.prog.cellsOf 34 = 1 := by kernel_rfl
theorem rd34 {H : Type} {enc : TypeId × Value → H} {w : World} : Rdr enc Tryz.prog w 34 (List Int) (fun l : List Int => [AV.sl 1 (l.map (fun n : Int => [AV.lit (Value.int .i8 n)]))]) (fun l : List Int => ∀ d ∈ l, In8 d) := Rdr.slice Tryz.underlying34 c34 c41 (by decide) rd41
theorem c21 : Tryz.prog.cellsOf 21 = 1 := by kernel_rfl
theorem rd21 {H : Type} {enc : TypeId × Value → H} {w : World} : Rdr enc Tryz.prog w 21 Int (fun n : Int => [AV.lit (Value.int .i32 n)]) In32 := Rdr.int Tryz.underlying21 c21 fun n h => wf_i32 h
theorem c35 : Tryz.prog.cellsOf 35 = 1 := by kernel_rfl
theorem rd35 {H : Type} {enc : TypeId × Value → H} {w : World} : Rdr enc Tryz.prog w 35 (List Int) (fun l : List Int => [AV.sl 1 (l.map (fun n : Int => [AV.lit (Value.int .i32 n)]))]) (fun l : List Int => ∀ d ∈ l, In32 d) := Rdr.slice Tryz.underlying35 c35 c21 (by decide) rd21
abbrev D43_2 : Type := Int × Unit
abbrev av43_2 : D43_2 → List AV := fun d => (fun n : Int => [AV.lit (Value.int .i8 n)]) d.1 ++ (fun _ : Unit => ([] : List AV)) d.2
abbrev ok43_2 : D43_2 → Prop := fun d => In8 d.1 ∧ (fun _ : Unit => True) d.2
abbrev D43_1 : Type := Int × D43_2
abbrev av43_1 : D43_1 → List AV := fun d => (fun n : Int => [AV.lit (Value.int .i64 n)]) d.1 ++ av43_2 d.2
abbrev ok43_1 : D43_1 → Prop := fun d => In64 d.1 ∧ ok43_2 d.2
abbrev D43_0 : Type := Int × D43_1
abbrev av43_0 : D43_0 → List AV := fun d => (fun n : Int => [AV.lit (Value.int .i32 n)]) d.1 ++ av43_1 d.2
abbrev ok43_0 : D43_0 → Prop := fun d => In32 d.1 ∧ ok43_1 d.2
theorem c43 : Tryz.prog.cellsOf 43 = 3 := by kernel_rfl
theorem rp43 {H : Type} {enc : TypeId × Value → H} {w : World} : Rdr enc Tryz.prog w 43 D43_0 av43_0 ok43_0 := Rdr.struct Tryz.underlying43 c43 (RdrF.cons (off := 0) (n := 3) (c := 1) (av := (fun n : Int => [AV.lit (Value.int .i32 n)])) (av' := av43_1) (ok := In32) (ok' := ok43_1) rfl c21 (by decide) rd21 (RdrF.cons (off := 1) (n := 3) (c := 1) (av := (fun n : Int => [AV.lit (Value.int .i64 n)])) (av' := av43_2) (ok := In64) (ok' := ok43_2) rfl c3 (by decide) rd3 (RdrF.cons (off := 2) (n := 3) (c := 1) (av := (fun n : Int => [AV.lit (Value.int .i8 n)])) (av' := (fun _ : Unit => ([] : List AV))) (ok := In8) (ok' := (fun _ : Unit => True)) rfl c41 (by decide) rd41 (RdrF.nil (n := 3) (off := 3) (by decide)))))
abbrev D45_14 : Type := Int × Unit
abbrev av45_14 : D45_14 → List AV := fun d => (fun n : Int => [AV.lit (Value.int .i8 n)]) d.1 ++ (fun _ : Unit => ([] : List AV)) d.2
abbrev ok45_14 : D45_14 → Prop := fun d => In8 d.1 ∧ (fun _ : Unit => True) d.2
abbrev D45_13 : Type := Int × D45_14
abbrev av45_13 : D45_13 → List AV := fun d => (fun n : Int => [AV.lit (Value.int .i8 n)]) d.1 ++ av45_14 d.2
abbrev ok45_13 : D45_13 → Prop := fun d => In8 d.1 ∧ ok45_14 d.2
abbrev D45_12 : Type := D43_0 × D45_13
abbrev av45_12 : D45_12 → List AV := fun d => av43_0 d.1 ++ av45_13 d.2
abbrev ok45_12 : D45_12 → Prop := fun d => ok43_0 d.1 ∧ ok45_13 d.2
abbrev D45_11 : Type := D43_0 × D45_12
abbrev av45_11 : D45_11 → List AV := fun d => av43_0 d.1 ++ av45_12 d.2
abbrev ok45_11 : D45_11 → Prop := fun d => ok43_0 d.1 ∧ ok45_12 d.2
abbrev D45_10 : Type := (List Int) × D45_11
abbrev av45_10 : D45_10 → List AV := fun d => (fun l : List Int => [AV.sl 1 (l.map (fun n : Int => [AV.lit (Value.int .i32 n)]))]) d.1 ++ av45_11 d.2
abbrev ok45_10 : D45_10 → Prop := fun d => (fun l : List Int => ∀ d ∈ l, In32 d) d.1 ∧ ok45_11 d.2
abbrev D45_9 : Type := (List Int) × D45_10
abbrev av45_9 : D45_9 → List AV := fun d => (fun l : List Int => [AV.sl 1 (l.map (fun n : Int => [AV.lit (Value.int .i8 n)]))]) d.1 ++ av45_10 d.2
abbrev ok45_9 : D45_9 → Prop := fun d => (fun l : List Int => ∀ d ∈ l, In8 d) d.1 ∧ ok45_10 d.2
abbrev D45_8 : Type := Int × D45_9
abbrev av45_8 : D45_8 → List AV := fun d => (fun n : Int => [AV.lit (Value.int .i8 n)]) d.1 ++ av45_9 d.2
abbrev ok45_8 : D45_8 → Prop := fun d => In8 d.1 ∧ ok45_9 d.2
abbrev D45_7 : Type := Int × D45_8
abbrev av45_7 : D45_7 → List AV := fun d => (fun n : Int => [AV.lit (Value.int .i8 n)]) d.1 ++ av45_8 d.2
abbrev ok45_7 : D45_7 → Prop := fun d => In8 d.1 ∧ ok45_8 d.2
abbrev D45_6 : Type := Int × D45_7
abbrev av45_6 : D45_6 → List AV := fun d => (fun n : Int => [AV.lit (Value.int .i64 n)]) d.1 ++ av45_7 d.2
abbrev ok45_6 : D45_6 → Prop := fun d => In64 d.1 ∧ ok45_7 d.2
abbrev D45_5 : Type := Int × D45_6
abbrev av45_5 : D45_5 → List AV := fun d => (fun n : Int => [AV.lit (Value.int .i64 n)]) d.1 ++ av45_6 d.2
abbrev ok45_5 : D45_5 → Prop := fun d => In64 d.1 ∧ ok45_6 d.2
abbrev D45_4 : Type := Int × D45_5
abbrev av45_4 : D45_4 → List AV := fun d => (fun n : Int => [AV.lit (Value.int .i64 n)]) d.1 ++ av45_5 d.2
abbrev ok45_4 : D45_4 → Prop := fun d => In64 d.1 ∧ ok45_5 d.2
abbrev D45_3 : Type := Int × D45_4
abbrev av45_3 : D45_3 → List AV := fun d => (fun n : Int => [AV.lit (Value.int .i64 n)]) d.1 ++ av45_4 d.2
abbrev ok45_3 : D45_3 → Prop := fun d => In64 d.1 ∧ ok45_4 d.2
abbrev D45_2 : Type := Int × D45_3
abbrev av45_2 : D45_2 → List AV := fun d => (fun n : Int => [AV.lit (Value.int .i64 n)]) d.1 ++ av45_3 d.2
abbrev ok45_2 : D45_2 → Prop := fun d => In64 d.1 ∧ ok45_3 d.2
abbrev D45_1 : Type := Int × D45_2
abbrev av45_1 : D45_1 → List AV := fun d => (fun n : Int => [AV.lit (Value.int .i64 n)]) d.1 ++ av45_2 d.2
abbrev ok45_1 : D45_1 → Prop := fun d => In64 d.1 ∧ ok45_2 d.2
abbrev D45_0 : Type := Int × D45_1
abbrev av45_0 : D45_0 → List AV := fun d => (fun n : Int => [AV.lit (Value.int .i64 n)]) d.1 ++ av45_1 d.2
abbrev ok45_0 : D45_0 → Prop := fun d => In64 d.1 ∧ ok45_1 d.2
theorem c45 : Tryz.prog.cellsOf 45 = 19 := by kernel_rfl
theorem rp45 {H : Type} {enc : TypeId × Value → H} {w : World} : Rdr enc Tryz.prog w 45 D45_0 av45_0 ok45_0 := Rdr.struct Tryz.underlying45 c45 (RdrF.cons (off := 0) (n := 19) (c := 1) (av := (fun n : Int => [AV.lit (Value.int .i64 n)])) (av' := av45_1) (ok := In64) (ok' := ok45_1) rfl c3 (by decide) rd3 (RdrF.cons (off := 1) (n := 19) (c := 1) (av := (fun n : Int => [AV.lit (Value.int .i64 n)])) (av' := av45_2) (ok := In64) (ok' := ok45_2) rfl c3 (by decide) rd3 (RdrF.cons (off := 2) (n := 19) (c := 1) (av := (fun n : Int => [AV.lit (Value.int .i64 n)])) (av' := av45_3) (ok := In64) (ok' := ok45_3) rfl c3 (by decide) rd3 (RdrF.cons (off := 3) (n := 19) (c := 1) (av := (fun n : Int => [AV.lit (Value.int .i64 n)])) (av' := av45_4) (ok := In64) (ok' := ok45_4) rfl c3 (by decide) rd3 (RdrF.cons (off := 4) (n := 19) (c := 1) (av := (fun n : Int => [AV.lit (Value.int .i64 n)])) (av' := av45_5) (ok := In64) (ok' := ok45_5) rfl c3 (by decide) rd3 (RdrF.cons (off := 5) (n := 19) (c := 1) (av := (fun n : Int => [AV.lit (Value.int .i64 n)])) (av' := av45_6) (ok := In64) (ok' := ok45_6) rfl c3 (by decide) rd3 (RdrF.cons (off := 6) (n := 19) (c := 1) (av := (fun n : Int => [AV.lit (Value.int .i64 n)])) (av' := av45_7) (ok := In64) (ok' := ok45_7) rfl c3 (by decide) rd3 (RdrF.cons (off := 7) (n := 19) (c := 1) (av := (fun n : Int => [AV.lit (Value.int .i8 n)])) (av' := av45_8) (ok := In8) (ok' := ok45_8) rfl c41 (by decide) rd41 (RdrF.cons (off := 8) (n := 19) (c := 1) (av := (fun n : Int => [AV.lit (Value.int .i8 n)])) (av' := av45_9) (ok := In8) (ok' := ok45_9) rfl c41 (by decide) rd41 (RdrF.cons (off := 9) (n := 19) (c := 1) (av := (fun l : List Int => [AV.sl 1 (l.map (fun n : Int => [AV.lit (Value.int .i8 n)]))])) (av' := av45_10) (ok := (fun l : List Int => ∀ d ∈ l, In8 d)) (ok' := ok45_10) rfl c34 (by decide) rd34 (RdrF.cons (off := 10) (n := 19) (c := 1) (av := (fun l : List Int => [AV.sl 1 (l.map (fun n : Int => [AV.lit (Value.int .i32 n)]))])) (av' := av45_11) (ok := (fun l : List Int => ∀ d ∈ l, In32 d)) (ok' := ok45_11) rfl c35 (by decide) rd35 (RdrF.cons (off := 11) (n := 19) (c := 3) (av := av43_0) (av' := av45_12) (ok := ok43_0) (ok' := ok45_12) rfl c43 (by decide) rp43 (RdrF.cons (off := 14) (n := 19) (c := 3) (av := av43_0) (av' := av45_13) (ok := ok43_0) (ok' := ok45_13) rfl c43 (by decide) rp43 (RdrF.cons (off := 17) (n := 19) (c := 1) (av := (fun n : Int => [AV.lit (Value.int .i8 n)])) (av' := av45_14) (ok := In8) (ok' := ok45_14) rfl c41 (by decide) rd41 (RdrF.cons (off := 18) (n := 19) (c := 1) (av := (fun n : Int => [AV.lit (Value.int .i8 n)])) (av' := (fun _ : Unit => ([] : List AV))) (ok := In8) (ok' := (fun _ : Unit => True)) rfl c41 (by decide) rd41 (RdrF.nil (n := 19) (off := 19) (by decide)))))))))))))))))
theorem rd45 {H : Type} {enc : TypeId × Value → H} {w : World} : Rdr enc Tryz.prog w 45 Nod nodC Nod.Ok := rp45.map (fun ⟨x0, x1, x2, x3, x4, x5, x6, x7, x8, x9, x10, ⟨x11, x12, x13, _⟩, ⟨x14, x15, x16, _⟩, x17, x18, _⟩ => ⟨x0, x1, x2, x3, x4, x5, x6, x7, x8, x9, x10, x11, x12, x13, x14, x15, x16, x17, x18⟩) (fun ⟨x0, x1, x2, x3, x4, x5, x6, x7, x8, x9, x10, ⟨x11, x12, x13, _⟩, ⟨x14, x15, x16, _⟩, x17, x18, _⟩ => rfl) (fun ⟨x0, x1, x2, x3, x4, x5, x6, x7, x8, x9, x10, ⟨x11, x12, x13, _⟩, ⟨x14, x15, x16, _⟩, x17, x18, _⟩ ⟨h0, h1, h2, h3, h4, h5, h6, h7, h8, h9, h10, ⟨h11, h12, h13, _⟩, ⟨h14, h15, h16, _⟩, h17, h18, _⟩ => ⟨h0, h1, h2, h3, h4, h5, h6, h7, h8, h9, h10, h11, h12, h13, h14, h15, h16, h17, h18⟩)
theorem c38 : Tryz.prog.cellsOf 38 = 1 := by kernel_rfl
theorem rd38 {H : Type} {enc : TypeId × Value → H} {w : World} : Rdr enc Tryz.prog w 38 (List Nod) (fun l : List Nod => [AV.sl 19 (l.map nodC)]) (fun l : List Nod => ∀ d ∈ l, Nod.Ok d) := Rdr.slice Tryz.underlying38 c38 c45 (by decide) rd45
theorem c4 : Tryz.prog.cellsOf 4 = 1 := by kernel_rfl
theorem rd4 {H : Type} {enc : TypeId × Value → H} {w : World} : Rdr enc Tryz.prog w 4 Bool (fun b : Bool => [AV.lit (Value.bool b)]) (fun _ : Bool => True) := Rdr.bool Tryz.underlying4 c4
abbrev D37_2 : Type := Int × Unit
abbrev av37_2 : D37_2 → List AV := fun d => (fun n : Int => [AV.lit (Value.int .i32 n)]) d.1 ++ (fun _ : Unit => ([] : List AV)) d.2
abbrev ok37_2 : D37_2 → Prop := fun d => In32 d.1 ∧ (fun _ : Unit => True) d.2
abbrev D37_1 : Type := (List Int) × D37_2
abbrev av37_1 : D37_1 → List AV := fun d => (fun l : List Int => [AV.sl 1 (l.map (fun n : Int => [AV.lit (Value.int .i32 n)]))]) d.1 ++ av37_2 d.2
abbrev ok37_1 : D37_1 → Prop := fun d => (fun l : List Int => ∀ d ∈ l, In32 d) d.1 ∧ ok37_2 d.2
abbrev D37_0 : Type := (List Int) × D37_1
abbrev av37_0 : D37_0 → List AV := fun d => (fun l : List Int => [AV.sl 1 (l.map (fun n : Int => [AV.lit (Value.int .i8 n)]))]) d.1 ++ av37_1 d.2
abbrev ok37_0 : D37_0 → Prop := fun d => (fun l : List Int => ∀ d ∈ l, In8 d) d.1 ∧ ok37_1 d.2
theorem c37 : Tryz.prog.cellsOf 37 = 3 := by kernel_rfl
theorem rp37 {H : Type} {enc : TypeId × Value → H} {w : World} : Rdr enc Tryz.prog w 37 D37_0 av37_0 ok37_0 := Rdr.struct Tryz.underlying37 c37 (RdrF.cons (off := 0) (n := 3) (c := 1) (av := (fun l : List Int => [AV.sl 1 (l.map (fun n : Int => [AV.lit (Value.int .i8 n)]))])) (av' := av37_1) (ok := (fun l : List Int => ∀ d ∈ l, In8 d)) (ok' := ok37_1) rfl c34 (by decide) rd34 (RdrF.cons (off := 1) (n := 3) (c := 1) (av := (fun l : List Int => [AV.sl 1 (l.map (fun n : Int => [AV.lit (Value.int .i32 n)]))])) (av' := av37_2) (ok := (fun l : List Int => ∀ d ∈ l, In32 d)) (ok' := ok37_2) rfl c35 (by decide) rd35 (RdrF.cons (off := 2) (n := 3) (c := 1) (av := (fun n : Int => [AV.lit (Value.int .i32 n)])) (av' := (fun _ : Unit => ([] : List AV))) (ok := In32) (ok' := (fun _ : Unit => True)) rfl c21 (by decide) rd21 (RdrF.nil (n := 3) (off := 3) (by decide)))))
abbrev D40_2 : Type := D37_0 × Unit
abbrev av40_2 : D40_2 → List AV := fun d => av37_0 d.1 ++ (fun _ : Unit => ([] : List AV)) d.2
abbrev ok40_2 : D40_2 → Prop := fun d => ok37_0 d.1 ∧ (fun _ : Unit => True) d.2
abbrev D40_1 : Type := Bool × D40_2
abbrev av40_1 : D40_1 → List AV := fun d => (fun b : Bool => [AV.lit (Value.bool b)]) d.1 ++ av40_2 d.2
abbrev ok40_1 : D40_1 → Prop := fun d => (fun _ : Bool => True) d.1 ∧ ok40_2 d.2
abbrev D40_0 : Type := (List Nod) × D40_1
abbrev av40_0 : D40_0 → List AV := fun d => (fun l : List Nod => [AV.sl 19 (l.map nodC)]) d.1 ++ av40_1 d.2
abbrev ok40_0 : D40_0 → Prop := fun d => (fun l : List Nod => ∀ d ∈ l, Nod.Ok d) d.1 ∧ ok40_1 d.2
theorem c40 : Tryz.prog.cellsOf 40 = 5 := by kernel_rfl
theorem rp40 {H : Type} {enc : TypeId × Value → H} {w : World} : Rdr enc Tryz.prog w 40 D40_0 av40_0 ok40_0 := Rdr.struct Tryz.underlying40 c40 (RdrF.cons (off := 0) (n := 5) (c := 1) (av := (fun l : List Nod => [AV.sl 19 (l.map nodC)])) (av' := av40_1) (ok := (fun l : List Nod => ∀ d ∈ l, Nod.Ok d)) (ok' := ok40_1) rfl c38 (by decide) rd38 (RdrF.cons (off := 1) (n := 5) (c := 1) (av := (fun b : Bool => [AV.lit (Value.bool b)])) (av' := av40_2) (ok := (fun _ : Bool => True)) (ok' := ok40_2) rfl c4 (by decide) rd4 (RdrF.cons (off := 2) (n := 5) (c := 3) (av := av37_0) (av' := (fun _ : Unit => ([] : List AV))) (ok := ok37_0) (ok' := (fun _ : Unit => True)) rfl c37 (by decide) rp37 (RdrF.nil (n := 5) (off := 5) (by decide)))))
theorem rd40 {H : Type} {enc : TypeId × Value → H} {w : World} : Rdr enc Tryz.prog w 40 Blc blcC Blc.Ok := rp40.map (fun ⟨x0, x1, ⟨x2, x3, x4, _⟩, _⟩ => ⟨x0, x1, x2, x3, x4⟩) (fun ⟨x0, x1, ⟨x2, x3, x4, _⟩, _⟩ => rfl) (fun ⟨x0, x1, ⟨x2, x3, x4, _⟩, _⟩ ⟨h0, _, ⟨h2, h3, h4, _⟩, _⟩ => ⟨h0, h2, h3, h4⟩)
theorem c31 : Tryz.prog.cellsOf 31 = 1 := by kernel_rfl
theorem rd31 {H : Type} {enc : TypeId × Value → H} {w : World} : Rdr enc Tryz.prog w 31 (List Blc) (fun l : List Blc => [AV.sl 5 (l.map blcC)]) (fun l : List Blc => ∀ d ∈ l, Blc.Ok d) := Rdr.slice Tryz.underlying31 c31 c40 (by decide) rd40
abbrev D33_0 : Type := (List Blc) × Unit
abbrev av33_0 : D33_0 → List AV := fun d => (fun l : List Blc => [AV.sl 5 (l.map blcC)]) d.1 ++ (fun _ : Unit => ([] : List AV)) d.2
abbrev ok33_0 : D33_0 → Prop := fun d => (fun l : List Blc => ∀ d ∈ l, Blc.Ok d) d.1 ∧ (fun _ : Unit => True) d.2
theorem c33 : Tryz.prog.cellsOf 33 = 1 := by kernel_rfl
theorem rp33 {H : Type} {enc : TypeId × Value → H} {w : World} : Rdr enc Tryz.prog w 33 D33_0 av33_0 ok33_0 := Rdr.struct Tryz.underlying33 c33 (RdrF.cons (off := 0) (n := 1) (c := 1) (av := (fun l : List Blc => [AV.sl 5 (l.map blcC)])) (av' := (fun _ : Unit => ([] : List AV))) (ok := (fun l : List Blc => ∀ d ∈ l, Blc.Ok d)) (ok' := (fun _ : Unit => True)) rfl c31 (by decide) rd31 (RdrF.nil (n := 1) (off := 1) (by decide)))
theorem rd33 {H : Type} {enc : TypeId × Value → H} {w : World} : Rdr enc Tryz.prog w 33 Mdl mdlC Mdl.Ok := rp33.map (fun ⟨x0, _⟩ => ⟨x0⟩) (fun ⟨x0, _⟩ => rfl) (fun ⟨x0, _⟩ ⟨h0, _⟩ => ⟨h0⟩)
theorem c24 : Tryz.prog.cellsOf 24 = 1 := by kernel_rfl
theorem rd24 {H : Type} {enc : TypeId × Value → H} {w : World} : Rdr enc Tryz.prog w 24 (List Mdl) (fun l : List Mdl => [AV.sl 1 (l.map mdlC)]) (fun l : List Mdl => ∀ d ∈ l, Mdl.Ok d) := Rdr.slice Tryz.underlying24 c24 c33 (by decide) rd33
abbrev D26_2 : Type := (List Mdl) × Unit
abbrev av26_2 : D26_2 → List AV := fun d => (fun l : List Mdl => [AV.sl 1 (l.map mdlC)]) d.1 ++ (fun _ : Unit => ([] : List AV)) d.2
abbrev ok26_2 : D26_2 → Prop := fun d => (fun l : List Mdl => ∀ d ∈ l, Mdl.Ok d) d.1 ∧ (fun _ : Unit => True) d.2
abbrev D26_1 : Type := Int × D26_2
abbrev av26_1 : D26_1 → List AV := fun d => (fun n : Int => [AV.lit (Value.int .i64 n)]) d.1 ++ av26_2 d.2
abbrev ok26_1 : D26_1 → Prop := fun d => In64 d.1 ∧ ok26_2 d.2
abbrev D26_0 : Type := D23_0 × D26_1
abbrev av26_0 : D26_0 → List AV := fun d => av23_0 d.1 ++ av26_1 d.2
abbrev ok26_0 : D26_0 → Prop := fun d => ok23_0 d.1 ∧ ok26_1 d.2
theorem c26 : Tryz.prog.cellsOf 26 = 5 := by kernel_rfl
theorem rp26 {H : Type} {enc : TypeId × Value → H} {w : World} : Rdr enc Tryz.prog w 26 D26_0 av26_0 ok26_0 := Rdr.struct Tryz.underlying26 c26 (RdrF.cons (off := 0) (n := 5) (c := 3) (av := av23_0) (av' := av26_1) (ok := ok23_0) (ok' := ok26_1) rfl c23 (by decide) rp23 (RdrF.cons (off := 3) (n := 5) (c := 1) (av := (fun n : Int => [AV.lit (Value.int .i64 n)])) (av' := av26_2) (ok := In64) (ok' := ok26_2) rfl c3 (by decide) rd3 (RdrF.cons (off := 4) (n := 5) (c := 1) (av := (fun l : List Mdl => [AV.sl 1 (l.map mdlC)])) (av' := (fun _ : Unit => ([] : List AV))) (ok := (fun l : List Mdl => ∀ d ∈ l, Mdl.Ok d)) (ok' := (fun _ : Unit => True)) rfl c24 (by decide) rd24 (RdrF.nil (n := 5) (off := 5) (by decide)))))
theorem rd26 {H : Type} {enc : TypeId × Value → H} {w : World} : Rdr enc Tryz.prog w 26 Bun bunC Bun.Ok := rp26.map (fun ⟨⟨x0, x1, x2, _⟩, x3, x4, _⟩ => ⟨x0, x1, x2, x3, x4⟩) (fun ⟨⟨x0, x1, x2, _⟩, x3, x4, _⟩ => rfl) (fun ⟨⟨x0, x1, x2, _⟩, x3, x4, _⟩ ⟨⟨h0, h1, h2, _⟩, h3, h4, _⟩ => ⟨h0, h1, h2, h3, h4⟩)

theorem walk (w : World) (v0 : Value) (d0 : Bun) (o0 : Bun.Ok d0) (e0 : Rel (fun _ => none) E0 w (.agg (bunC d0)) v0) :
    Calls Tryz.prog 3 #[v0] w fun e w' => e = .returned (.bool true) ∧ Below w.heap.size w w' :=
  law_of (bundleCopies_v d0) (.cons e0 (.nil w))

set_option maxRecDepth 100000 in
theorem lifted (os : Os) (started : os.Started) (H : Type) (enc : TypeId × Value → H) :
    ReturnsInHanded {} Tryz.checked os 3 .any (Rows.bundleCopiesSpec.pre6 enc Tryz.prog Tryz.f3 Rows.bundleCopiesRow.domain false) (Rows.bundleCopiesSpec.post enc Tryz.prog Tryz.f3 false true false false) := by
  refine returnsInHanded_of_change (C := Tryz.checked) own started (by kernel_rfl) Tryz.func3
    (ChangeSpec.witness6 (enc := enc) (C := Tryz.checked) false ⟨#[], #[.agg #[.int .i64 0, .int .i64 0, .int .i64 0, .int .i64 0, .slice none 0 0]], []⟩ 8 (by kernel_rfl) (by kernel_rfl) (by kernel_rfl) (by kernel_rfl)) ?_
  intro W base args ds gs before hval0 hW hcnd _
  have hval : ∀ (j : Nat) t v, Tryz.f3.params[j]? = some t → args[j]? = some v → Value.okWide Tryz.prog W .any base t v := hval0
  have hW' := hW
  obtain ⟨p, q, hA0, hV, rfl, hfz, hnd⟩ := hW
  have hA : DataW.TrodAll enc Tryz.prog W 0 (fun _ => true) true Tryz.f3.params.toList args.toList ds p := hA0
  rw [Tryz.params3] at hA hval
  obtain ⟨v0, vs0, dd0, ds0, p0, q0, hargs, rfl, rfl, h0, r0⟩ := trodAll_cons hA
  obtain ⟨rfl, rfl, rfl⟩ := trodAll_nil r0
  obtain rfl : args = #[v0] := by cases args; simp_all
  obtain ⟨rfl, rfl⟩ := trodVars_none hV
  have k0 := h0
  have lt0 : ∀ x ∈ p0, x.block < W.heap.size := by obtain ⟨m, hm⟩ := k0; exact DataW.trod_lt m _ _ _ hm
  obtain ⟨d0, o0, e0⟩ := (rd26 (enc := enc) (w := W)).aggV Tryz.underlying26 (hval 0 26 v0 rfl rfl) h0
  clear hA0 hval0
  refine (walk W v0 d0 o0 e0).mono fun e W' ⟨he, bel⟩ => ?_
  subst he
  exact ⟨_, rfl, _, _, _, [], _, [], hW', trodAll_mk1 (shut_bool Tryz.underlying4 _), (trodAll_cons_mk (Below.trod laidOut (by kernel_rfl) (of_decide_eq_true (by kernel_rfl)) k0 bel lt0) trodAll_mk0), rfl, bel.frame _, fun h => by cases h⟩

theorem over : Rows.bundleCopiesRow.holds Tryz.pinned (OpenSpec.ofChange Rows.bundleCopiesSpec) :=
  OpenClaim.holds_of_wide 3 Tryz.f3 rfl rfl rfl rfl rfl rfl rfl ⟨rfl, rfl, rfl, rfl, rfl⟩ rfl rfl rfl rfl rfl (by kernel_rfl) Tryz.func3 (by kernel_rfl)
    (of_decide_eq_true (by kernel_rfl)) (by unfold Func.isWrapper; first | (rw [if_pos (by decide +kernel)]; kernel_rfl) | (rw [if_neg (by decide +kernel)]; exact ⟨rfl, rfl⟩))
    (fun os started H enc _ => lifted os started H enc)

theorem proved : Rows.BundleCopiesSaid := over
#print axioms proved
end Go.Proofs.YtdmkhinckljddaaGreat.bundleCopies
