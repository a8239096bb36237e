/- A node with what its kind tells alone. No condition. -/
import Derived.Test.YtgecmooedhnenaaEq
namespace Go.Proofs.Ytgecmooedhnenaa
open Go.RowKit
set_option linter.unusedSimpArgs false
set_option linter.unusedVariables false
set_option linter.unnecessarySimpa false

set_option maxRecDepth 100000 in
set_option maxHeartbeats 2000000 in
theorem sumsK_v (k : Int)  : VC Try.prog 126 ([i64 k]) (bv ((k == 1 || k == 2) || k == 3)) := by
  exact VC.run (fn := Try.f126) (W := [.r [] [], .r [] [.op false, .op false, .sel 1, .op false, .op false, .sel 1]]) Try.func126 (by kernel_rfl) (.n)

set_option maxRecDepth 100000 in
set_option maxHeartbeats 2000000 in
theorem scaledK_v (k : Int)  : VC Try.prog 164 ([i64 k]) (bv (((k == 1 || k == 2) || k == 3) || k == 6 || k == 7)) := by
  have oz0 := @sumsK_v (k)
  exact VC.run (fn := Try.f164) (W := [.r [] [], .r [] [.callr (rO oz0), .op false, .op false, .sel 1, .op false, .op false, .sel 1]]) Try.func164 (by kernel_rfl) (.c oz0 <| .n)
/-- What a kind tells. -/
def plainN (n : Nod) : Nod := if n.kd = 1 then ⟨n.kd, n.na, 0, n.nk, n.ns, n.np, n.no, n.za, 0, n.w, n.b, n.qm, n.qs, n.qz, 0, 0, 0, n.lo, n.hi⟩ else if n.kd = 2 then ⟨n.kd, n.na, 0, n.nk, n.ns, n.np, 0, n.za, 0, n.w, n.b, n.qm, n.qs, n.qz, 0, 0, 0, n.lo, n.hi⟩ else if n.kd = 3 then ⟨n.kd, n.na, 0, 0, 0, 0, n.no, n.za, 0, n.w, n.b, n.qm, n.qs, n.qz, 0, 0, 0, n.lo, n.hi⟩ else if n.kd = 4 then ⟨n.kd, n.na, 0, n.nk, n.ns, n.np, 0, 0, 0, [], [], 0, 0, 0, 0, 0, 0, 0, 0⟩ else if n.kd = 5 then ⟨n.kd, n.na, 0, n.nk, n.ns, n.np, 0, 0, 0, [], [], 0, 0, 0, 0, 0, 0, 0, 0⟩ else if n.kd = 6 then ⟨n.kd, n.na, n.nb, 0, 0, 0, 0, n.za, n.zb, [], [], n.qm, n.qs, n.qz, n.rm, n.rs, 0, n.lo, n.hi⟩ else if n.kd = 7 then ⟨n.kd, n.na, 0, 0, 0, 0, 0, n.za, 0, [], [], n.qm, n.qs, n.qz, 0, 0, 0, n.lo, n.hi⟩ else if n.kd = 8 then ⟨n.kd, n.na, 0, 0, 0, n.np, 0, n.za, 0, [], [], 0, 0, 0, 0, 0, 0, 0, 0⟩ else ⟨n.kd, n.na, 0, 0, 0, 0, 0, 0, 0, [], [], 0, 0, 0, 0, 0, 0, 0, 0⟩
set_option maxRecDepth 100000 in
set_option maxHeartbeats 2000000 in
theorem plain1 (n : Nod) (hk : n.kd = 1) (hw : n.w.length ≤ 100000) (hb : n.b.length ≤ 100000) : VC Try.prog 163 ([nod n]) (nod ⟨n.kd, n.na, 0, n.nk, n.ns, n.np, n.no, n.za, 0, n.w, n.b, n.qm, n.qs, n.qz, 0, 0, 0, n.lo, n.hi⟩) := by
  have hk1 : In64 n.kd := ⟨by omega, by omega⟩
  have hs := nameEq_in (k := n.kd) (by omega) (by omega)
  have oz0 := @name_v (n.kd) hk1
  have oz3 := @clone8_v (n.w) (by omega)
  have oz4 := @clone32_v (n.b) (by omega)
  have oz5 := @scaledK_v (n.kd)
  exact VC.run (fn := Try.f163) (W := [.r [] [], .r [] [.callr (rO oz0)], .br false, .r [] [], .r [] [], .r [] [], .br true, .r [] [], .r [] [.callr (rO oz3), .callr (rO oz4)], .r [] [], .r [] [.callr (rO oz5)], .br true, .r [] [], .r [] []]) Try.func163 (by kernel_rfl) (.c oz0 <| .c hs <| .c (show (n.kd == 1) = true by (refine decide_eq_true ?_; omega)) <| .c oz3 <| .c oz4 <| .c oz5 <| .c (show (n.kd == 1 || n.kd == 2 || n.kd == 3 || n.kd == 6 || n.kd == 7) = true by (simp; omega)) <| .n)

set_option maxRecDepth 100000 in
set_option maxHeartbeats 2000000 in
theorem plain2 (n : Nod) (hk : n.kd = 2) (hw : n.w.length ≤ 100000) (hb : n.b.length ≤ 100000) : VC Try.prog 163 ([nod n]) (nod ⟨n.kd, n.na, 0, n.nk, n.ns, n.np, 0, n.za, 0, n.w, n.b, n.qm, n.qs, n.qz, 0, 0, 0, n.lo, n.hi⟩) := by
  have hk1 : In64 n.kd := ⟨by omega, by omega⟩
  have hs := nameEq_in (k := n.kd) (by omega) (by omega)
  have oz0 := @name_v (n.kd) hk1
  have oz4 := @clone8_v (n.w) (by omega)
  have oz5 := @clone32_v (n.b) (by omega)
  have oz6 := @scaledK_v (n.kd)
  exact VC.run (fn := Try.f163) (W := [.r [] [], .r [] [.callr (rO oz0)], .br false, .r [] [], .r [] [], .r [] [], .br false, .r [] [], .br true, .r [] [.callr (rO oz4), .callr (rO oz5)], .r [] [], .r [] [.callr (rO oz6)], .br true, .r [] [], .r [] []]) Try.func163 (by kernel_rfl) (.c oz0 <| .c hs <| .c (show (n.kd == 1) = false by (refine decide_eq_false ?_; omega)) <| .c (show (n.kd == 2) = true by (refine decide_eq_true ?_; omega)) <| .c oz4 <| .c oz5 <| .c oz6 <| .c (show (n.kd == 1 || n.kd == 2 || n.kd == 3 || n.kd == 6 || n.kd == 7) = true by (simp; omega)) <| .n)

set_option maxRecDepth 100000 in
set_option maxHeartbeats 2000000 in
theorem plain3 (n : Nod) (hk : n.kd = 3) (hw : n.w.length ≤ 100000) (hb : n.b.length ≤ 100000) : VC Try.prog 163 ([nod n]) (nod ⟨n.kd, n.na, 0, 0, 0, 0, n.no, n.za, 0, n.w, n.b, n.qm, n.qs, n.qz, 0, 0, 0, n.lo, n.hi⟩) := by
  have hk1 : In64 n.kd := ⟨by omega, by omega⟩
  have hs := nameEq_in (k := n.kd) (by omega) (by omega)
  have oz0 := @name_v (n.kd) hk1
  have oz7 := @clone8_v (n.w) (by omega)
  have oz8 := @clone32_v (n.b) (by omega)
  have oz9 := @scaledK_v (n.kd)
  exact VC.run (fn := Try.f163) (W := [.r [] [], .r [] [.callr (rO oz0)], .br false, .r [] [], .r [] [], .r [] [], .br false, .r [] [], .br false, .r [] [], .br false, .r [] [], .br false, .r [] [], .br true, .r [] [.callr (rO oz7), .callr (rO oz8)], .r [] [.callr (rO oz9)], .br true, .r [] [], .r [] []]) Try.func163 (by kernel_rfl) (.c oz0 <| .c hs <| .c (show (n.kd == 1) = false by (refine decide_eq_false ?_; omega)) <| .c (show (n.kd == 2) = false by (refine decide_eq_false ?_; omega)) <| .c (show (n.kd == 4) = false by (refine decide_eq_false ?_; omega)) <| .c (show (n.kd == 5) = false by (refine decide_eq_false ?_; omega)) <| .c (show (n.kd == 3) = true by (refine decide_eq_true ?_; omega)) <| .c oz7 <| .c oz8 <| .c oz9 <| .c (show (n.kd == 1 || n.kd == 2 || n.kd == 3 || n.kd == 6 || n.kd == 7) = true by (simp; omega)) <| .n)

set_option maxRecDepth 100000 in
set_option maxHeartbeats 2000000 in
theorem plain4 (n : Nod) (hk : n.kd = 4) (hw : n.w.length ≤ 100000) (hb : n.b.length ≤ 100000) : VC Try.prog 163 ([nod n]) (nod ⟨n.kd, n.na, 0, n.nk, n.ns, n.np, 0, 0, 0, [], [], 0, 0, 0, 0, 0, 0, 0, 0⟩) := by
  have hk1 : In64 n.kd := ⟨by omega, by omega⟩
  have hs := nameEq_in (k := n.kd) (by omega) (by omega)
  have oz0 := @name_v (n.kd) hk1
  have oz4 := (show (n.kd == 4) = true by (refine decide_eq_true ?_; omega))
  have oz6 := @scaledK_v (n.kd)
  exact (VC.run (fn := Try.f163) (W := [.r [] [], .r [] [.callr (rO oz0)], .br false, .r [] [], .r [] [], .r [] [], .br false, .r [] [], .br false, .r [] [], .br true, .br true, .r [] [], .r [] [.callr (rO oz6)], .br false, .r [] []]) (r := AV.agg [i64 n.kd, i64 n.na, i64 0, i64 n.nk, i64 n.ns, i64 n.np, i64 0, i8 0, i8 0, AV.lit (Value.slice none 0 0), AV.lit (Value.slice none 0 0), i32 0, i64 0, i8 0, i32 0, i64 0, i8 0, i8 0, i8 0]) Try.func163 (by kernel_rfl) (.c oz0 <| .c hs <| .c (show (n.kd == 1) = false by (refine decide_eq_false ?_; omega)) <| .c (show (n.kd == 2) = false by (refine decide_eq_false ?_; omega)) <| .c oz4 <| .c oz4 <| .c oz6 <| .c (show (n.kd == 1 || n.kd == 2 || n.kd == 3 || n.kd == 6 || n.kd == 7) = false by (simp; omega)) <| .n)).weak (WeakL.refl _) (Weak.agg (.cons (.refl _) (.cons (.refl _) (.cons (.refl _) (.cons (.refl _) (.cons (.refl _) (.cons (.refl _) (.cons (.refl _) (.cons (.refl _) (.cons (.refl _) (.cons (Weak.nil _) (.cons (Weak.nil _) (.cons (.refl _) (.cons (.refl _) (.cons (.refl _) (.cons (.refl _) (.cons (.refl _) (.cons (.refl _) (.cons (.refl _) (.cons (.refl _) .nil))))))))))))))))))))

set_option maxRecDepth 100000 in
set_option maxHeartbeats 2000000 in
theorem plain5 (n : Nod) (hk : n.kd = 5) (hw : n.w.length ≤ 100000) (hb : n.b.length ≤ 100000) : VC Try.prog 163 ([nod n]) (nod ⟨n.kd, n.na, 0, n.nk, n.ns, n.np, 0, 0, 0, [], [], 0, 0, 0, 0, 0, 0, 0, 0⟩) := by
  have hk1 : In64 n.kd := ⟨by omega, by omega⟩
  have hs := nameEq_in (k := n.kd) (by omega) (by omega)
  have oz0 := @name_v (n.kd) hk1
  have oz6 := @scaledK_v (n.kd)
  exact (VC.run (fn := Try.f163) (W := [.r [] [], .r [] [.callr (rO oz0)], .br false, .r [] [], .r [] [], .r [] [], .br false, .r [] [], .br false, .r [] [], .br false, .r [] [], .br true, .r [] [], .r [] [.callr (rO oz6)], .br false, .r [] []]) (r := AV.agg [i64 n.kd, i64 n.na, i64 0, i64 n.nk, i64 n.ns, i64 n.np, i64 0, i8 0, i8 0, AV.lit (Value.slice none 0 0), AV.lit (Value.slice none 0 0), i32 0, i64 0, i8 0, i32 0, i64 0, i8 0, i8 0, i8 0]) Try.func163 (by kernel_rfl) (.c oz0 <| .c hs <| .c (show (n.kd == 1) = false by (refine decide_eq_false ?_; omega)) <| .c (show (n.kd == 2) = false by (refine decide_eq_false ?_; omega)) <| .c (show (n.kd == 4) = false by (refine decide_eq_false ?_; omega)) <| .c (show (n.kd == 5) = true by (refine decide_eq_true ?_; omega)) <| .c oz6 <| .c (show (n.kd == 1 || n.kd == 2 || n.kd == 3 || n.kd == 6 || n.kd == 7) = false by (simp; omega)) <| .n)).weak (WeakL.refl _) (Weak.agg (.cons (.refl _) (.cons (.refl _) (.cons (.refl _) (.cons (.refl _) (.cons (.refl _) (.cons (.refl _) (.cons (.refl _) (.cons (.refl _) (.cons (.refl _) (.cons (Weak.nil _) (.cons (Weak.nil _) (.cons (.refl _) (.cons (.refl _) (.cons (.refl _) (.cons (.refl _) (.cons (.refl _) (.cons (.refl _) (.cons (.refl _) (.cons (.refl _) .nil))))))))))))))))))))

set_option maxRecDepth 100000 in
set_option maxHeartbeats 2000000 in
theorem plain6 (n : Nod) (hk : n.kd = 6) (hw : n.w.length ≤ 100000) (hb : n.b.length ≤ 100000) : VC Try.prog 163 ([nod n]) (nod ⟨n.kd, n.na, n.nb, 0, 0, 0, 0, n.za, n.zb, [], [], n.qm, n.qs, n.qz, n.rm, n.rs, 0, n.lo, n.hi⟩) := by
  have hk1 : In64 n.kd := ⟨by omega, by omega⟩
  have hs := nameEq_in (k := n.kd) (by omega) (by omega)
  have oz0 := @name_v (n.kd) hk1
  have oz8 := @scaledK_v (n.kd)
  exact (VC.run (fn := Try.f163) (W := [.r [] [], .r [] [.callr (rO oz0)], .br false, .r [] [], .r [] [], .r [] [], .br false, .r [] [], .br false, .r [] [], .br false, .r [] [], .br false, .r [] [], .br false, .r [] [], .br true, .r [] [], .r [] [.callr (rO oz8)], .br true, .r [] [], .r [] []]) (r := AV.agg [i64 n.kd, i64 n.na, i64 n.nb, i64 0, i64 0, i64 0, i64 0, i8 n.za, i8 n.zb, AV.lit (Value.slice none 0 0), AV.lit (Value.slice none 0 0), i32 n.qm, i64 n.qs, i8 n.qz, i32 n.rm, i64 n.rs, i8 0, i8 n.lo, i8 n.hi]) Try.func163 (by kernel_rfl) (.c oz0 <| .c hs <| .c (show (n.kd == 1) = false by (refine decide_eq_false ?_; omega)) <| .c (show (n.kd == 2) = false by (refine decide_eq_false ?_; omega)) <| .c (show (n.kd == 4) = false by (refine decide_eq_false ?_; omega)) <| .c (show (n.kd == 5) = false by (refine decide_eq_false ?_; omega)) <| .c (show (n.kd == 3) = false by (refine decide_eq_false ?_; omega)) <| .c (show (n.kd == 6) = true by (refine decide_eq_true ?_; omega)) <| .c oz8 <| .c (show (n.kd == 1 || n.kd == 2 || n.kd == 3 || n.kd == 6 || n.kd == 7) = true by (simp; omega)) <| .n)).weak (WeakL.refl _) (Weak.agg (.cons (.refl _) (.cons (.refl _) (.cons (.refl _) (.cons (.refl _) (.cons (.refl _) (.cons (.refl _) (.cons (.refl _) (.cons (.refl _) (.cons (.refl _) (.cons (Weak.nil _) (.cons (Weak.nil _) (.cons (.refl _) (.cons (.refl _) (.cons (.refl _) (.cons (.refl _) (.cons (.refl _) (.cons (.refl _) (.cons (.refl _) (.cons (.refl _) .nil))))))))))))))))))))

set_option maxRecDepth 100000 in
set_option maxHeartbeats 2000000 in
theorem plain7 (n : Nod) (hk : n.kd = 7) (hw : n.w.length ≤ 100000) (hb : n.b.length ≤ 100000) : VC Try.prog 163 ([nod n]) (nod ⟨n.kd, n.na, 0, 0, 0, 0, 0, n.za, 0, [], [], n.qm, n.qs, n.qz, 0, 0, 0, n.lo, n.hi⟩) := by
  have hk1 : In64 n.kd := ⟨by omega, by omega⟩
  have hs := nameEq_in (k := n.kd) (by omega) (by omega)
  have oz0 := @name_v (n.kd) hk1
  have oz9 := @scaledK_v (n.kd)
  exact (VC.run (fn := Try.f163) (W := [.r [] [], .r [] [.callr (rO oz0)], .br false, .r [] [], .r [] [], .r [] [], .br false, .r [] [], .br false, .r [] [], .br false, .r [] [], .br false, .r [] [], .br false, .r [] [], .br false, .r [] [], .br false, .r [] [.callr (rO oz9)], .br true, .r [] [], .r [] []]) (r := AV.agg [i64 n.kd, i64 n.na, i64 0, i64 0, i64 0, i64 0, i64 0, i8 n.za, i8 0, AV.lit (Value.slice none 0 0), AV.lit (Value.slice none 0 0), i32 n.qm, i64 n.qs, i8 n.qz, i32 0, i64 0, i8 0, i8 n.lo, i8 n.hi]) Try.func163 (by kernel_rfl) (.c oz0 <| .c hs <| .c (show (n.kd == 1) = false by (refine decide_eq_false ?_; omega)) <| .c (show (n.kd == 2) = false by (refine decide_eq_false ?_; omega)) <| .c (show (n.kd == 4) = false by (refine decide_eq_false ?_; omega)) <| .c (show (n.kd == 5) = false by (refine decide_eq_false ?_; omega)) <| .c (show (n.kd == 3) = false by (refine decide_eq_false ?_; omega)) <| .c (show (n.kd == 6) = false by (refine decide_eq_false ?_; omega)) <| .c (show (n.kd == 8) = false by (refine decide_eq_false ?_; omega)) <| .c oz9 <| .c (show (n.kd == 1 || n.kd == 2 || n.kd == 3 || n.kd == 6 || n.kd == 7) = true by (simp; omega)) <| .n)).weak (WeakL.refl _) (Weak.agg (.cons (.refl _) (.cons (.refl _) (.cons (.refl _) (.cons (.refl _) (.cons (.refl _) (.cons (.refl _) (.cons (.refl _) (.cons (.refl _) (.cons (.refl _) (.cons (Weak.nil _) (.cons (Weak.nil _) (.cons (.refl _) (.cons (.refl _) (.cons (.refl _) (.cons (.refl _) (.cons (.refl _) (.cons (.refl _) (.cons (.refl _) (.cons (.refl _) .nil))))))))))))))))))))

set_option maxRecDepth 100000 in
set_option maxHeartbeats 2000000 in
theorem plain8 (n : Nod) (hk : n.kd = 8) (hw : n.w.length ≤ 100000) (hb : n.b.length ≤ 100000) : VC Try.prog 163 ([nod n]) (nod ⟨n.kd, n.na, 0, 0, 0, n.np, 0, n.za, 0, [], [], 0, 0, 0, 0, 0, 0, 0, 0⟩) := by
  have hk1 : In64 n.kd := ⟨by omega, by omega⟩
  have hs := nameEq_in (k := n.kd) (by omega) (by omega)
  have oz0 := @name_v (n.kd) hk1
  have oz9 := @scaledK_v (n.kd)
  exact (VC.run (fn := Try.f163) (W := [.r [] [], .r [] [.callr (rO oz0)], .br false, .r [] [], .r [] [], .r [] [], .br false, .r [] [], .br false, .r [] [], .br false, .r [] [], .br false, .r [] [], .br false, .r [] [], .br false, .r [] [], .br true, .r [] [], .r [] [.callr (rO oz9)], .br false, .r [] []]) (r := AV.agg [i64 n.kd, i64 n.na, i64 0, i64 0, i64 0, i64 n.np, i64 0, i8 n.za, i8 0, AV.lit (Value.slice none 0 0), AV.lit (Value.slice none 0 0), i32 0, i64 0, i8 0, i32 0, i64 0, i8 0, i8 0, i8 0]) Try.func163 (by kernel_rfl) (.c oz0 <| .c hs <| .c (show (n.kd == 1) = false by (refine decide_eq_false ?_; omega)) <| .c (show (n.kd == 2) = false by (refine decide_eq_false ?_; omega)) <| .c (show (n.kd == 4) = false by (refine decide_eq_false ?_; omega)) <| .c (show (n.kd == 5) = false by (refine decide_eq_false ?_; omega)) <| .c (show (n.kd == 3) = false by (refine decide_eq_false ?_; omega)) <| .c (show (n.kd == 6) = false by (refine decide_eq_false ?_; omega)) <| .c (show (n.kd == 8) = true by (refine decide_eq_true ?_; omega)) <| .c oz9 <| .c (show (n.kd == 1 || n.kd == 2 || n.kd == 3 || n.kd == 6 || n.kd == 7) = false by (simp; omega)) <| .n)).weak (WeakL.refl _) (Weak.agg (.cons (.refl _) (.cons (.refl _) (.cons (.refl _) (.cons (.refl _) (.cons (.refl _) (.cons (.refl _) (.cons (.refl _) (.cons (.refl _) (.cons (.refl _) (.cons (Weak.nil _) (.cons (Weak.nil _) (.cons (.refl _) (.cons (.refl _) (.cons (.refl _) (.cons (.refl _) (.cons (.refl _) (.cons (.refl _) (.cons (.refl _) (.cons (.refl _) .nil))))))))))))))))))))

set_option maxRecDepth 100000 in
set_option maxHeartbeats 2000000 in
theorem plain9 (n : Nod) (hk : n.kd = 9) (hw : n.w.length ≤ 100000) (hb : n.b.length ≤ 100000) : VC Try.prog 163 ([nod n]) (nod ⟨n.kd, n.na, 0, 0, 0, 0, 0, 0, 0, [], [], 0, 0, 0, 0, 0, 0, 0, 0⟩) := by
  have hk1 : In64 n.kd := ⟨by omega, by omega⟩
  have hs := nameEq_in (k := n.kd) (by omega) (by omega)
  have oz0 := @name_v (n.kd) hk1
  have oz9 := @scaledK_v (n.kd)
  exact (VC.run (fn := Try.f163) (W := [.r [] [], .r [] [.callr (rO oz0)], .br false, .r [] [], .r [] [], .r [] [], .br false, .r [] [], .br false, .r [] [], .br false, .r [] [], .br false, .r [] [], .br false, .r [] [], .br false, .r [] [], .br false, .r [] [.callr (rO oz9)], .br false, .r [] []]) (r := AV.agg [i64 n.kd, i64 n.na, i64 0, i64 0, i64 0, i64 0, i64 0, i8 0, i8 0, AV.lit (Value.slice none 0 0), AV.lit (Value.slice none 0 0), i32 0, i64 0, i8 0, i32 0, i64 0, i8 0, i8 0, i8 0]) Try.func163 (by kernel_rfl) (.c oz0 <| .c hs <| .c (show (n.kd == 1) = false by (refine decide_eq_false ?_; omega)) <| .c (show (n.kd == 2) = false by (refine decide_eq_false ?_; omega)) <| .c (show (n.kd == 4) = false by (refine decide_eq_false ?_; omega)) <| .c (show (n.kd == 5) = false by (refine decide_eq_false ?_; omega)) <| .c (show (n.kd == 3) = false by (refine decide_eq_false ?_; omega)) <| .c (show (n.kd == 6) = false by (refine decide_eq_false ?_; omega)) <| .c (show (n.kd == 8) = false by (refine decide_eq_false ?_; omega)) <| .c oz9 <| .c (show (n.kd == 1 || n.kd == 2 || n.kd == 3 || n.kd == 6 || n.kd == 7) = false by (simp; omega)) <| .n)).weak (WeakL.refl _) (Weak.agg (.cons (.refl _) (.cons (.refl _) (.cons (.refl _) (.cons (.refl _) (.cons (.refl _) (.cons (.refl _) (.cons (.refl _) (.cons (.refl _) (.cons (.refl _) (.cons (Weak.nil _) (.cons (Weak.nil _) (.cons (.refl _) (.cons (.refl _) (.cons (.refl _) (.cons (.refl _) (.cons (.refl _) (.cons (.refl _) (.cons (.refl _) (.cons (.refl _) .nil))))))))))))))))))))
end Go.Proofs.Ytgecmooedhnenaa

