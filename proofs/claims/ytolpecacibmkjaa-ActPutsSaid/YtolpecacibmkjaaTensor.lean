/- Tensors: how they read; whether they may be; whether two are the same. No condition. -/
import Derived.Test.YtolpecacibmkjaaShape
import Derived.Test.YtolpecacibmkjaaOwn
import Derived.Outline
namespace Go.Proofs.Ytolpecacibmkjaa
open Go.RowKit

/-- A tensor's sides and its numbers. -/
structure Tns where
  h : Int
  x : Int
  c : Int
  d : List Int

structure Tns.Ok (T : Tns) : Prop where
  h0 : -9223372036854775808 ≤ T.h
  h1 : T.h ≤ 9223372036854775807
  x0 : -9223372036854775808 ≤ T.x
  x1 : T.x ≤ 9223372036854775807
  c0 : -9223372036854775808 ≤ T.c
  c1 : T.c ≤ 9223372036854775807

/-- The value u reads as the tensor T (numbers of kind k). -/
def TnV (k : IntKind) (w : World) (u : Value) (T : Tns) : Prop := ∃ v, u = .agg #[.int .i64 T.h, .int .i64 T.x, .int .i64 T.c, v] ∧ Rd w v (T.d.map (Value.int k))
theorem TnV.below {k : IntKind} {B : Nat} {w w' : World} {u : Value} {T : Tns} (h : TnV k w u T) (hb : Below B w w') (hB : w.heap.size ≤ B) : TnV k w' u T := by
  obtain ⟨v, hu, hv⟩ := h; exact ⟨v, hu, hv.below hb hB⟩
def Tns.none : Tns := ⟨0, 0, 0, []⟩
theorem Tns.none_ok : Tns.none.Ok := ⟨by decide, by decide, by decide, by decide, by decide, by decide⟩
theorem TnV.none (k : IntKind) (w : World) : TnV k w (.agg #[.int .i64 0, .int .i64 0, .int .i64 0, .slice none 0 0]) Tns.none := ⟨_, rfl, Rd.nil w⟩

/-- A tensor may be. -/
def tRight (T : Tns) : Bool := decide (0 < elems T.h T.x T.c) && decide (elems T.h T.x T.c = (T.d.length : Int))

set_option maxHeartbeats 1600000 in
set_option maxRecDepth 100000 in
theorem same_any (u1 u2 : Value) (T : Tns) (w : World) (h1 : TnV .i8 w u1 T) (h2 : TnV .i8 w u2 T) (hl : T.d.length ≤ 1099511627776) :
    Calls Try.prog 40 #[u1, u2] w fun e w' => e = .returned (.bool true) ∧ Below w.heap.size w w' := by
  obtain ⟨v1, rfl, hv1⟩ := h1
  obtain ⟨v2, rfl, hv2⟩ := h2
  obtain ⟨a1, c1, rfl, hle1, hm1, ha1⟩ := hv1.ints
  obtain ⟨a2, c2, rfl, hle2, hm2, ha2⟩ := hv2.ints
  go_enter Try.func40, Try.ntmps40
  go_wp2_with fail
  obtain ⟨w1, hw1⟩ : ∃ w1, w1 = (w.alloc (.cells #[.int .i64 T.h, .int .i64 T.x, .int .i64 T.c, .slice a1 T.d.length c1] 66)).alloc (.cells #[.int .i64 T.h, .int .i64 T.x, .int .i64 T.c, .slice a2 T.d.length c2] 66) := ⟨_, rfl⟩
  have hb1 : Below w.heap.size w w1 := by rw [hw1]; exact ((Below.refl _ _).alloc (Nat.le_refl _) _).alloc (by simp) _
  have hA := (At.new w 66 #[.int .i64 T.h, .int .i64 T.x, .int .i64 T.c, .slice a1 T.d.length c1]).alloc (.cells #[.int .i64 T.h, .int .i64 T.x, .int .i64 T.c, .slice a2 T.d.length c2] 66)
  have hB := At.new (w.alloc (.cells #[.int .i64 T.h, .int .i64 T.x, .int .i64 T.c, .slice a1 T.d.length c1] 66)) 66 #[.int .i64 T.h, .int .i64 T.x, .int .i64 T.c, .slice a2 T.d.length c2]
  rw [show (w.alloc (.cells #[.int .i64 T.h, .int .i64 T.x, .int .i64 T.c, .slice a1 T.d.length c1] 66)).heap.size = w.heap.size + 1 from by simp] at hB
  rw [← hw1] at hA hB ⊢
  have d3 := hA.cell 3
  have e3 := hB.cell 3
  simp only [List.getElem?_toArray, List.getElem?_cons_zero, List.getElem?_cons_succ] at d3 e3
  clear hw1 hA hB
  go_loopw [5] (fun i wr => ∃ (k : Nat), i = .int .i64 k ∧ k ≤ T.d.length ∧ Below w1.heap.size w1 wr) (fun i _ => T.d.length - (intOf i).toNat)
  case atStart => exact ⟨0, rfl, by omega, Below.refl _ _⟩
  case round =>
    obtain ⟨k, rfl, hk, hb⟩ := hrel
    have f3 := bl_get hb d3
    have g3 := bl_get hb e3
    by_cases hlt : k < T.d.length
    · obtain ⟨b1, o1, rfl, hc1⟩ := ha1 (by intro h; rw [h] at hlt; simp at hlt)
      obtain ⟨b2, o2, rfl, hc2⟩ := ha2 (by intro h; rw [h] at hlt; simp at hlt)
      have p1 := bl_get hb (bl_get hb1 (hc1 k hlt))
      have p2 := bl_get hb (bl_get hb1 (hc2 k hlt))
      obtain ⟨y, hy⟩ : ∃ y, y = T.d[k] := ⟨_, rfl⟩
      rw [← hy] at p1 p2
      have hltB : decide ((k : Int) < (T.d.length : Int)) = true := by rw [decide_eq_true_eq]; omega
      have kk0 : (0 : Int) ≤ (k : Int) := by omega
      have kk1 : (k : Int) < (T.d.length : Int) := by omega
      clear hy hc1 hc2 ha1 ha2
      go_wp2_with fail
      go_quiet (fail)
      go_wp2_with fail
      go_roundw
      case rel => exact ⟨k + 1, by go_num, by omega, bl_drawn hb _⟩
      case measure => simp [intOf]; omega
    · go_wp2
      go_ret
      exact ⟨rfl, hb1.trans (hb.mono hb1.size)⟩
end Go.Proofs.Ytolpecacibmkjaa
