/- A bias is in each sum of its channel. No condition. -/
import Derived.Test.YtcegfkmelcjdhaaCvG
namespace Go.Proofs.Ytcegfkmelcjdhaa
open Go.RowKit
set_option linter.unusedSimpArgs false
set_option linter.unusedVariables false
set_option linter.unnecessarySimpa false

/-- A node with a greater bias at one place. -/
def biasN (n : Nod) (o : Nat) (by' : Int) : Nod := { n with b := n.b.set o (IntKind.i32.wrap (n.b.getD o 0 + by')) }
/-- A node with weights of 0. -/
def zeroN (n : Nod) : Nod := { n with w := List.replicate n.w.length 0 }
theorem w32_in (x : Int) : In32 (IntKind.i32.wrap x) := by
  have := IntKind.wrap_i32 x
  constructor <;> (rw [this]; omega)
theorem biasN_ok {n : Nod} (h : n.Ok) (o : Nat) (v : Int) : (biasN n o v).Ok := by
  refine ⟨h.kd, h.na, h.nb, h.nk, h.ns, h.np, h.no, h.za, h.zb, h.w, fun x hx => ?_, h.qm, h.qs, h.qz, h.rm, h.rs, h.rz, h.lo, h.hi⟩
  rcases List.mem_or_eq_of_mem_set hx with hx | rfl
  · exact h.b x hx
  · exact w32_in _
theorem zeroN_ok {n : Nod} (h : n.Ok) : (zeroN n).Ok := by
  refine ⟨h.kd, h.na, h.nb, h.nk, h.ns, h.np, h.no, h.za, h.zb, fun x hx => ?_, h.b, h.qm, h.qs, h.qz, h.rm, h.rs, h.rz, h.lo, h.hi⟩
  rw [(List.mem_replicate.1 hx).2]; exact ⟨by decide, by decide⟩
theorem biasN_e (t : Shp) (n : Nod) (o : Nat) (v : Int) : convE t (biasN n o v) = convE t n := by
  unfold convE
  show (if (slideE t n.nk n.ns n.np n.no).2 ≠ 0 then _ else if (n.w.length : Int) ≠ n.no * n.nk * n.nk * t.c ∨ 16384 < (n.w.length : Int) ∨ ((n.b.set o _).length : Int) ≠ n.no then _ else _) = _
  rw [List.length_set]; rfl
theorem zeroN_e (t : Shp) (n : Nod) : convE t (zeroN n) = convE t n := by
  unfold convE
  show (if (slideE t n.nk n.ns n.np n.no).2 ≠ 0 then _ else if ((List.replicate n.w.length (0 : Int)).length : Int) ≠ n.no * n.nk * n.nk * t.c ∨ 16384 < ((List.replicate n.w.length (0 : Int)).length : Int) ∨ (n.b.length : Int) ≠ n.no then _ else _) = _
  rw [List.length_replicate]; rfl
theorem biasN_cv {T : Ten} {n : Nod} (ok : CvOk T n) (o : Nat) (v : Int) : CvOk T (biasN n o v) := ⟨ok.ok, biasN_ok ok.okn o v, ok.r, by rw [biasN_e]; exact ok.e⟩
theorem zeroN_cv {T : Ten} {n : Nod} (ok : CvOk T n) : CvOk T (zeroN n) := ⟨ok.ok, zeroN_ok ok.okn, ok.r, by rw [zeroN_e]; exact ok.e⟩
theorem zeroN_row (T : Ten) (n : Nod) (h w o : Int) (i : Nat) : rowE T (zeroN n) h w o i = 0 := by
  unfold rowE
  refine sumN_zero _ fun j _ => ?_
  unfold colE
  split
  · refine sumN_zero _ fun c _ => ?_
    unfold cterm
    have : gt (zeroN n).w ((o * (zeroN n).nk + i) * (zeroN n).nk * T.c + (j : Int) * T.c + (c : Int)) = 0 := by
      show (List.replicate n.w.length (0 : Int)).getD _ 0 = 0
      rw [List.getD_eq_getElem?_getD, List.getElem?_replicate]; split <;> rfl
    simp only [zeroN, gt, List.getD_eq_getElem?_getD, List.getElem?_replicate]
    split <;> simp
  · rfl
theorem bias_get {T : Ten} {n : Nod} (ok : CvOk T n) (o : Nat) (ho : (o : Int) < n.no) (v : Int) {i : Nat} (h : i < (convOf T n).1.d.length) :
    (convOf T (biasN n o v)).1.d.getD i 0 = if (i : Int) % n.no = o then IntKind.i32.wrap ((convOf T n).1.d.getD i 0 + v) else (convOf T n).1.d.getD i 0 := by
  have ok2 := biasN_cv ok o v
  have h2 : i < (convOf T (biasN n o v)).1.d.length := by
    rw [convOf_count ok] at h; rw [convOf_count ok2, biasN_e]; exact h
  rw [convOf_get ok h, convOf_get ok2 h2, biasN_e]
  show IntKind.i32.wrap (accN ((n.b.set o (IntKind.i32.wrap (n.b.getD o 0 + v))).getD ((i : Int) % n.no).toNat 0) (rowE T n ((i : Int) / n.no / (convE ⟨T.h, T.x, T.c⟩ n).1.x) ((i : Int) / n.no % (convE ⟨T.h, T.x, T.c⟩ n).1.x) ((i : Int) % n.no)) n.nk.toNat) = _
  unfold sumE
  rw [accN_eq, accN_eq]
  have hb := ok.n.bl
  have hn := ok.n.o1
  have hm := Int.emod_nonneg (i : Int) (show n.no ≠ 0 by omega)
  have hm2 := Int.emod_lt_of_pos (i : Int) (show 0 < n.no by omega)
  by_cases e : (i : Int) % n.no = o
  · rw [if_pos e, e, Int.toNat_natCast, List.getD_eq_getElem?_getD, List.getElem?_set_self (by omega), Option.getD_some]
    simp only [IntKind.wrap_i32]; omega
  · rw [if_neg e, List.getD_eq_getElem?_getD (l := n.b.set _ _), List.getElem?_set_ne (by omega), ← List.getD_eq_getElem?_getD]
theorem zero_get {T : Ten} {n : Nod} (ok : CvOk T n) {i : Nat} (h : i < (convOf T n).1.d.length) :
    (convOf T (zeroN n)).1.d.getD i 0 = n.b.getD ((i : Int) % n.no).toNat 0 := by
  have ok2 := zeroN_cv ok
  have h2 : i < (convOf T (zeroN n)).1.d.length := by
    rw [convOf_count ok] at h; rw [convOf_count ok2, zeroN_e]; exact h
  rw [convOf_get ok2 h2]
  unfold sumE
  rw [accN_eq, sumN_zero _ fun k _ => zeroN_row T n _ _ _ k, Int.add_zero]
  exact IntWalk.i32_in _ (gt32 ok.okn.b _)
theorem bias_len {T : Ten} {n : Nod} (ok : CvOk T n) (o : Nat) (v : Int) : (convOf T (biasN n o v)).1.d.length = (convOf T n).1.d.length := by
  rw [convOf_count ok, convOf_count (biasN_cv ok o v), biasN_e]; rfl
theorem zero_len {T : Ten} {n : Nod} (ok : CvOk T n) : (convOf T (zeroN n)).1.d.length = (convOf T n).1.d.length := by
  rw [convOf_count ok, convOf_count (zeroN_cv ok), zeroN_e]; rfl
end Go.Proofs.Ytcegfkmelcjdhaa

