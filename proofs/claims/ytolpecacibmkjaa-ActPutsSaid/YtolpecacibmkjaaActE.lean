/- ActPuts: sums become numbers. No condition. -/
import Derived.Test.YtolpecacibmkjaaActD
import Derived.Outline
namespace Go.Proofs.Ytolpecacibmkjaa
open Go.RowKit

set_option maxHeartbeats 1600000 in
set_option maxRecDepth 100000 in
theorem actPuts_walk (u : Value) (T : Tns) (ok : T.Ok) (n : Nd) (okn : n.Ok) (w : World) (h : TnV .i32 w u T) (hb32 : ∀ x ∈ T.d, -2147483648 ≤ x ∧ x ≤ 2147483647) :
    Calls Try.prog 11 #[u, .agg n.cs] w fun e w' => e = .returned (.bool true) ∧ Below w.heap.size w w' := by
  have hT := h
  obtain ⟨v, rfl, hv⟩ := h
  obtain ⟨a, c, rfl, hle, hm, ha⟩ := hv.ints
  have hn := NdAt.new (w.alloc (.cells #[.int .i64 T.h, .int .i64 T.x, .int .i64 T.c, .slice a T.d.length c] 64)) n 51
  rw [show (w.alloc (.cells #[.int .i64 T.h, .int .i64 T.x, .int .i64 T.c, .slice a T.d.length c] 64)).heap.size = w.heap.size + 1 from by simp] at hn
  clear ha
  have HB := Lib.hid hb32; clear hb32
  by_cases hlen : T.d.length ≤ 1024
  · go_enter Try.func11, Try.ntmps11
    go_wp2_with (refine wpList_loadN hn rfl _ rfl rfl ?_)
    refine (actPut_any _ T ok n okn _ (hT.below (((Below.refl _ _).alloc (Nat.le_refl _) _).alloc (by simp) _) (Nat.le_refl _)) HB.out (by omega)).mono ?_
    rintro e w1 ⟨r, rfl, hr, hb1⟩
    obtain ⟨hA, hN, hb, hs⟩ := blk2 hb1
    have hn1 := hn.below hb1
    have d0 := hA.cell 0
    have d1 := hA.cell 1
    have d2 := hA.cell 2
    have d3 := hA.cell 3
    simp only [List.getElem?_toArray, List.getElem?_cons_zero, List.getElem?_cons_succ] at d0 d1 d2 d3
    obtain ⟨P, hP⟩ : ∃ P, P = put21 T n := ⟨_, rfl⟩
    rw [← hP] at hr ⊢
    have HP := Lib.hid hP
    obtain ⟨S, C⟩ := P
    obtain ⟨v2, rfl, hv2⟩ := hr
    obtain ⟨a2, c2, rfl, hle2, hm2, _⟩ := hv2.ints
    clear hP hb1 hA hN hn
    dsimp only at hv2 hle2 ⊢
    have hn2 := hn1.below ((Below.refl _ _).alloc (Nat.le_refl _) (.cells #[.int .i64 S.h, .int .i64 S.x, .int .i64 S.c, .slice a2 S.d.length c2] 66))
    have hne : ¬ w.heap.size = w1.heap.size := by omega
    have hne' : ¬ w1.heap.size = w.heap.size := by omega
    have hlt : w.heap.size < w1.heap.size := by omega
    go_wp2_with (refine wpList_loadN hn2 rfl _ rfl rfl ?_)
    refine (refActPut_any _ T ok n okn _ (hT.below (hb.alloc hb.size _) (Nat.le_refl _)) HB.out (by omega)).mono ?_
    rintro e w2 ⟨r, rfl, hr, hb2⟩
    rw [← HP.out] at hr ⊢
    obtain ⟨v3, rfl, hv3⟩ := hr
    obtain ⟨a3, c3, rfl, hle3, hm3, _⟩ := hv3.ints
    dsimp only at hv3 hle3 ⊢
    obtain ⟨hA, hb12, hs2⟩ := blk1 hb2
    have hbw2 : Below w.heap.size w w2 := bl_step hb hb12
    have e0 := hA.cell 0
    have e1 := hA.cell 1
    have e2 := hA.cell 2
    have e3 := hA.cell 3
    simp only [List.getElem?_toArray, List.getElem?_cons_zero, List.getElem?_cons_succ] at e0 e1 e2 e3
    have hv2' := (hv2.below hb12 (Nat.le_refl _)).below ((Below.refl _ _).alloc (Nat.le_refl _) (.cells #[.int .i64 S.h, .int .i64 S.x, .int .i64 S.c, .slice a3 S.d.length c3] 66)) (Nat.le_refl _)
    have hv3' := hv3.below ((Below.refl _ _).alloc (Nat.le_refl _) (.cells #[.int .i64 S.h, .int .i64 S.x, .int .i64 S.c, .slice a3 S.d.length c3] 66)) (Nat.le_refl _)
    have hSl : Hid (S.d.length ≤ 1000000) := by
      have e := HP.out
      refine Lib.hid ?_
      have : S = (put21 T n).1 := by rw [← e]
      rw [this]; unfold put21
      split
      · simp [Tns.none]
      · split
        · simp [Tns.none]
        · simp only []; unfold heldL; split <;> simp; omega
    have hne2 : ¬ w1.heap.size = w2.heap.size := by omega
    have hne2' : ¬ w2.heap.size = w1.heap.size := by omega
    have hlt2 : w1.heap.size < w2.heap.size := by omega
    have HS1 : Hid (TnV .i8 (w2.alloc (.cells #[.int .i64 S.h, .int .i64 S.x, .int .i64 S.c, .slice a3 S.d.length c3] 66)) (.agg #[.int .i64 S.h, .int .i64 S.x, .int .i64 S.c, .slice a2 S.d.length c2]) S) := Lib.hid ⟨_, rfl, hv2'⟩
    have HS2 : Hid (TnV .i8 (w2.alloc (.cells #[.int .i64 S.h, .int .i64 S.x, .int .i64 S.c, .slice a3 S.d.length c3] 66)) (.agg #[.int .i64 S.h, .int .i64 S.x, .int .i64 S.c, .slice a3 S.d.length c3]) S) := Lib.hid ⟨_, rfl, hv3'⟩
    clear hv2' hv3' hv3 hv2 hA hn1 hn2 d0 d1 d2 d3
    go_wp2_with fail
    refine (same_any _ _ S _ HS1.out HS2.out (by have := hSl.out; omega)).mono ?_
    rintro e w3 ⟨rfl, hb3⟩
    go_wp2_with fail
    refine (known21_any _).mono ?_
    rintro e w4 ⟨rfl, hb4⟩
    go_wp2
    go_ret
    exact ⟨rfl, bl_step (hbw2.trans (((Below.refl _ _).alloc hbw2.size _).trans (hb3.mono (by have := hbw2.size; simp; omega)))) hb4⟩
  · go_enter Try.func11, Try.ntmps11
    go_wp2_with (go_at_call 37; refine (known21_any _).mono ?_; rintro e w9 ⟨rfl, hb9⟩)
    go_ret
    exact ⟨rfl, (((Below.refl _ _).alloc (Nat.le_refl _) _).alloc (by simp) _).trans (hb9.mono (by simp; omega))⟩
end Go.Proofs.Ytolpecacibmkjaa
