/- Ranges: the least and the greatest of some numbers. No condition. -/
import Derived.Test.YtolpecacibmkjaaAt
namespace Go.Proofs.Ytolpecacibmkjaa
open Go.RowKit

def loOf (x : Int) (l : List Int) : Int := l.foldl (fun a y => if y < a then y else a) x
def hiOf (x : Int) (l : List Int) : Int := l.foldl (fun a y => if a < y then y else a) x

set_option maxHeartbeats 800000 in
set_option maxRecDepth 100000 in
theorem spanOf_any (x : Int) (v : Value) (l : List Int) (w : World) (hv : Rd w v (l.map (Value.int .i64))) (hl : l.length ≤ 1000) :
    Calls Try.prog 52 #[.int .i64 x, v] w fun e w' => e = .returned (.agg #[.int .i64 (loOf x l), .int .i64 (hiOf x l)]) ∧ Below w.heap.size w w' := by
  obtain ⟨ao, ca, rfl, _, ha⟩ := hv
  simp only [List.length_map]
  go_enter Try.func52, Try.ntmps52
  go_wp2
  go_loopw [7, 13] (fun o i wr => ∃ (k : Nat), i = .int .i64 k ∧ k ≤ l.length ∧ At wr w.heap.size 41 #[.int .i64 0, .int .i64 0] ∧ At wr (w.heap.size + 1) 41 #[.int .i64 (loOf x (l.take k)), .int .i64 (hiOf x (l.take k))] ∧ Below w.heap.size w wr) (fun _ i _ => l.length - (intOf i).toNat)
  case atStart =>
    refine ⟨0, rfl, by omega, (At.new _ _ _).alloc _, ?_, ((Below.refl _ _).alloc (Nat.le_refl _) _).alloc (by simp) _⟩
    have := At.new (w.alloc (.cells #[.int .i64 0, .int .i64 0] 41)) 41 #[.int .i64 x, .int .i64 x]
    simpa [loOf, hiOf] using this
  case round =>
    obtain ⟨k, rfl, hk, ha0, ha1, hb⟩ := hrel
    have c0 := ha1.cell 0
    have c1 := ha1.cell 1
    have f0 := ha1.free 0
    have f1 := ha1.free 1
    have g0 := ha0.cell 0
    have g1 := ha0.cell 1
    have h0 := ha0.free 0
    have h1 := ha0.free 1
    simp only [List.getElem?_toArray, List.getElem?_cons_zero, List.getElem?_cons_succ] at c0 c1 g0 g1
    by_cases hlt : k < l.length
    · obtain ⟨b, o, rfl, hc⟩ := ha (by intro h; simp at h; subst h; simp at hlt)
      have hcell := bl_get hb (hc k (by simpa using hlt))
      simp only [List.getElem_map] at hcell
      obtain ⟨y, hy⟩ : ∃ y, y = l[k] := ⟨_, rfl⟩
      rw [← hy] at hcell
      have HY := Lib.hid hy
      obtain ⟨L, hL⟩ : ∃ L, L = loOf x (l.take k) := ⟨_, rfl⟩
      obtain ⟨G, hG⟩ : ∃ G, G = hiOf x (l.take k) := ⟨_, rfl⟩
      rw [← hL] at c0 ha1
      rw [← hG] at c1 ha1
      have HL := Lib.hid hL; have HG := Lib.hid hG; clear hL hG hy hc ha
      go_wp2
      go_roundw
      case rel =>
        refine ⟨k + 1, by go_num, by omega, (ha0.other (by simp) _).other (by simp) _, ?_, (hb.setCell (by simp) _).setCell (by simp) _⟩
        have h9 := (ha1.set 0 (Value.int .i64 (if y < L then y else L))).set 1 (Value.int .i64 (if G < y then y else G))
        have e1 : loOf x (l.take (k + 1)) = if y < L then y else L := by
          rw [HL.out, HY.out]; unfold loOf; rw [List.take_succ_eq_append_getElem hlt, List.foldl_append]; rfl
        have e2 : hiOf x (l.take (k + 1)) = if G < y then y else G := by
          rw [HG.out, HY.out]; unfold hiOf; rw [List.take_succ_eq_append_getElem hlt, List.foldl_append]; rfl
        rw [e1, e2]; exact h9
      case measure => simp [intOf]; omega
    · go_wp2
      have e : l.take k = l := by rw [List.take_of_length_le]; omega
      rw [e]
      have h9 := (ha0.set 0 (Value.int .i64 (loOf x l))).set 1 (Value.int .i64 (hiOf x l))
      refine bodyPost_ret (v := .agg #[.int .i64 (loOf x l), .int .i64 (hiOf x l)]) ?_ rfl ⟨rfl, (hb.setCell (by simp) _).setCell (by simp) _⟩
      exact results_cell_row rfl _ _ w.heap.size 41 #[.int .i64 (loOf x l), .int .i64 (hiOf x l)] (0, 0) _ rfl h9 Try.underlying41 rfl (by kernel_rfl)
end Go.Proofs.Ytolpecacibmkjaa
