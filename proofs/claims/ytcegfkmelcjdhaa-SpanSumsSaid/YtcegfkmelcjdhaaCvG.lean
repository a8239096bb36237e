/- The numbers that a window makes, one by one. No condition. -/
import Derived.Test.YtcegfkmelcjdhaaCvS
namespace Go.Proofs.Ytcegfkmelcjdhaa
open Go.RowKit
set_option linter.unusedSimpArgs false
set_option linter.unusedVariables false
set_option linter.unnecessarySimpa false

/-- A number that a window made. -/
theorem outL_get (T : Ten) (n : Nod) (h1 : 1 ≤ n.no) : ∀ (k i : Nat), i < k * n.no.toNat → (outL T n k).getD i 0 =
    cvS T n ((i : Int) / n.no / (convE ⟨T.h, T.x, T.c⟩ n).1.x) ((i : Int) / n.no % (convE ⟨T.h, T.x, T.c⟩ n).1.x) ((i : Int) % n.no)
  | 0, i, h => by omega
  | k + 1, i, h => by
    rw [outL]
    by_cases hi : i < k * n.no.toNat
    · rw [List.getD_eq_getElem?_getD, List.getElem?_append_left (by rw [outL_len]; exact hi), ← List.getD_eq_getElem?_getD]
      exact outL_get T n h1 k i hi
    · obtain ⟨o, rfl⟩ : ∃ o, i = k * n.no.toNat + o := ⟨i - k * n.no.toNat, by omega⟩
      rw [Nat.add_mul, Nat.one_mul] at h
      have ho : o < n.no.toNat := by omega
      rw [List.getD_eq_getElem?_getD, List.getElem?_append_right (by rw [outL_len]; omega), outL_len, Nat.add_sub_cancel_left, List.getElem?_map, List.getElem?_range ho]
      simp only [Option.map_some, Option.getD_some]
      have e : ((k * n.no.toNat + o : Nat) : Int) = (k : Int) * n.no + (o : Int) := by
        rw [Int.natCast_add, Int.natCast_mul, Int.toNat_of_nonneg (by omega)]
      have e1 : ((k : Int) * n.no + (o : Int)) / n.no = k := by
        rw [Int.add_comm, Int.add_mul_ediv_right _ _ (by omega), Int.ediv_eq_zero_of_lt (by omega) (by omega)]; omega
      have e2 : ((k : Int) * n.no + (o : Int)) % n.no = o := by
        rw [Int.add_comm, Int.add_mul_emod_self_right, Int.emod_eq_of_lt (by omega) (by omega)]
      rw [e, e1, e2]
theorem convOf_d {T : Ten} {n : Nod} (ok : CvOk T n) : (convOf T n).1 = ⟨(convE ⟨T.h, T.x, T.c⟩ n).1.h, (convE ⟨T.h, T.x, T.c⟩ n).1.x, (convE ⟨T.h, T.x, T.c⟩ n).1.c, outL T n ((convE ⟨T.h, T.x, T.c⟩ n).1.h * (convE ⟨T.h, T.x, T.c⟩ n).1.x).toNat⟩ := by
  unfold convOf
  rw [if_neg (by simp [ok.r]), if_neg (by simpa using ok.e)]
theorem convOf_e {T : Ten} {n : Nod} (ok : T.Ok) (okn : n.Ok) (h : (convOf T n).2 = 0) : CvOk T n := by
  unfold convOf at h
  split at h
  · simp at h
  · split at h
    · rename_i h1 h2; exact absurd h h2
    · rename_i h1 h2; exact ⟨ok, okn, by simpa using h1, by simpa using h2⟩
theorem convOf_no {T : Ten} {n : Nod} (h : (convOf T n).2 ≠ 0) : (convOf T n).1.d = [] := by
  unfold convOf at h ⊢
  split
  · rfl
  · split
    · rfl
    · rename_i h1 h2; rw [if_neg h1, if_neg h2] at h; simp at h
theorem convOf_0 {T : Ten} {n : Nod} (ok : CvOk T n) : (convOf T n).2 = 0 := by
  unfold convOf
  rw [if_neg (by simp [ok.r]), if_neg (by simpa using ok.e)]
theorem convOf_get {T : Ten} {n : Nod} (ok : CvOk T n) {i : Nat} (h : i < (convOf T n).1.d.length) : (convOf T n).1.d.getD i 0 =
    IntKind.i32.wrap (sumE T n ((i : Int) / n.no / (convE ⟨T.h, T.x, T.c⟩ n).1.x) ((i : Int) / n.no % (convE ⟨T.h, T.x, T.c⟩ n).1.x) ((i : Int) % n.no)) := by
  rw [convOf_d ok] at h ⊢
  simp only at h ⊢
  rw [outL_len] at h
  rw [outL_get T n ok.n.o1 _ i h, cvS_eq ok]
theorem convOf_count {T : Ten} {n : Nod} (ok : CvOk T n) : (convOf T n).1.d.length = ((convE ⟨T.h, T.x, T.c⟩ n).1.h * (convE ⟨T.h, T.x, T.c⟩ n).1.x).toNat * n.no.toNat := by
  rw [convOf_d ok]; exact outL_len _ _ _
end Go.Proofs.Ytcegfkmelcjdhaa

