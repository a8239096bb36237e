/- A reader of bytes: many numbers. No condition. -/
import Derived.Test.YtlganffeaapebaaOctC
import Derived.Outline
namespace Go.Proofs.Ytlganffeaapebaa
open Go.RowKit

theorem Upd.below2 {G : Nat → Prop} {B : Nat} {a w w' : World} (h : Upd G a w) (hb : Below B w w') (hB : a.heap.size ≤ B) : Upd G a w' :=
  ⟨hb.os.trans h.os, hb.tape.trans h.tape, hb.output.trans h.output, Nat.le_trans h.size hb.size, fun k hk hn => (hb.block k (by omega)).trans (h.block k hk hn)⟩

set_option maxHeartbeats 1600000 in
set_option maxRecDepth 100000 in
theorem allWide_ok (B g : Nat) (xs bs : List Int) (w : World) (h : RdSt B w g (wideL xs ++ bs)) (hB : B ≤ w.heap.size) (hx : ∀ x ∈ xs, -2147483648 ≤ x ∧ x ≤ 2147483647) (hb : ∀ x ∈ bs, 0 ≤ x ∧ x ≤ 255) (hl : bs.length ≤ 300000) (hlx : xs.length ≤ 50000) :
    Calls Try.prog 63 #[.pointer (some ⟨g, 0, none⟩), .int .i64 xs.length, .func (.func 64) #[.pointer (some ⟨g, 0, none⟩)] #[]] w fun e w' => ∃ r, e = .returned r ∧ Own w.heap.size w' 21 r (xs.map (Value.int .i32)) ∧ RdSt B w' g bs ∧ Upd (· = g) w w' := by
  obtain ⟨i0, hi, hz0, hz1, hz2⟩ := info_parts (show (Try.prog.info? 21).map (fun i => (i.zero, i.size, i.bytes)) = some (some (.int .i32 0), 1, 4) from by kernel_rfl)
  have HX := Lib.hid hx; clear hx
  have HS := Lib.hid h
  obtain ⟨ao, cap, h1, h2, h3, h4⟩ := h
  have d0 := h1.cell 0
  have d1 := h1.cell 1
  simp only [List.getElem?_toArray, List.getElem?_cons_zero, List.getElem?_cons_succ] at d0 d1
  have hwl := wideL_len xs HX.out
  have hwm : xs.length ≤ (wideL xs).length := by
    have : ∀ l : List Int, l.length ≤ (wideL l).length := by
      intro l
      induction l with
      | nil => simp
      | cons x l ih =>
        rw [wideL_cons, List.length_append, List.length_cons]
        have := List.length_pos_iff.2 (putL_ne (foldN x).toNat)
        omega
    exact this xs
  obtain ⟨M, hM⟩ : ∃ M, M = (wideL xs ++ bs).length := ⟨_, rfl⟩
  have hM1 : xs.length ≤ M := by rw [hM, List.length_append]; omega
  rw [← hM] at d0
  clear h1 h2 h4 hM hwl hwm
  by_cases hz : xs = []
  · subst hz
    have HS2 : Hid (RdSt B w g bs) := HS
    clear HS
    go_enter Try.func63, Try.ntmps63
    go_wp2
    go_ret
    exact ⟨_, rfl, Own.nil _ _ _, HS2.out, Upd.refl _ _⟩
  · have hpos : 0 < xs.length := List.length_pos_iff.2 hz
    have p1 : (1 : Int) ≤ (xs.length : Int) := by omega
    have p2 : (xs.length : Int) ≤ (M : Int) := by omega
    have hd1 : decide ((xs.length : Int) < 1) = false := by rw [decide_eq_false_iff_not]; omega
    have hd2 : decide ((M : Int) < (xs.length : Int)) = false := by rw [decide_eq_false_iff_not]; omega
    have hd3 : decide (M < xs.length) = false := by rw [decide_eq_false_iff_not]; omega
    clear hz
    go_enter Try.func63, Try.ntmps63
    go_wp2_with fail
    go_loopw [7, 31] (fun r i wr => ∃ (k : Nat), i = .int .i64 k ∧ k ≤ xs.length ∧ Own w.heap.size wr 21 r ((xs.take k).map (Value.int .i32)) ∧ RdSt B wr g (wideL (xs.drop k) ++ bs) ∧ Upd (· = g) w wr) (fun _ i _ => xs.length - (intOf i).toNat)
    case atStart => exact ⟨0, rfl, by omega, Own.nil _ _ _, HS.out, Upd.refl _ _⟩
    case round =>
      obtain ⟨k, rfl, hk, hown, hrs, hu⟩ := hrel
      have HRS := Lib.hid hrs; clear hrs
      have HO := Lib.hid hown; clear hown
      by_cases hlt : k < xs.length
      · obtain ⟨x0, x1⟩ := HX.out xs[k] (List.getElem_mem hlt)
        have hst : (xs.take (k + 1)).map (Value.int .i32) = (xs.take k).map (Value.int .i32) ++ [.int .i32 xs[k]] := by
          rw [List.take_succ_eq_append_getElem hlt, List.map_append]; rfl
        have hdr : wideL (xs.drop k) ++ bs = putL (foldN xs[k]).toNat ++ (wideL (xs.drop (k + 1)) ++ bs) := by
          rw [List.drop_eq_getElem_cons hlt, wideL_cons, List.append_assoc]
        have hrl : (wideL (xs.drop (k + 1)) ++ bs).length ≤ 900000 := by
          have := wideL_len (xs.drop (k + 1)) (fun y hy => HX.out y (List.mem_of_mem_drop hy))
          rw [List.length_drop] at this; rw [List.length_append]; omega
        have hrx : ∀ y ∈ wideL (xs.drop (k + 1)) ++ bs, 0 ≤ y ∧ y ≤ 255 := by
          intro y hy
          rcases List.mem_append.1 hy with h | h
          · exact wideL_rng _ y h
          · exact hb y h
        have hlk : ((xs.take k).map (Value.int .i32)).length ≤ 1000000 := by simp; omega
        obtain ⟨x, hx⟩ : ∃ x, x = xs[k] := ⟨_, rfl⟩
        obtain ⟨rest, hrest⟩ : ∃ r, r = wideL (xs.drop (k + 1)) ++ bs := ⟨_, rfl⟩
        have HRS2 := Lib.hid (hdr ▸ HRS.out)
        rw [← hx, ← hrest] at HRS2
        rw [← hrest] at hrl hrx
        rw [← hx] at hst x0 x1
        have HST := Lib.hid hst; have HLK := Lib.hid hlk; have HRE := Lib.hid hrest; have HRX := Lib.hid hrx
        have kk0 : (0 : Int) ≤ (k : Int) := by omega
        have kk1 : (k : Int) < (xs.length : Int) := by omega
        clear hst hx hlk hdr hrest hrx HRS
        go_wp2_with fail
        refine (int32_ok B g rest x _ HRS2.out (Nat.le_trans hB hu.size) HRX.out hrl x0 x1).mono ?_
        rintro e w2 ⟨rfl, hs2, hu2⟩
        have HS2 := Lib.hid hs2; clear hs2
        have hu12 := hu.trans hu2
        have HO2 := Lib.hid (HO.out.upd hu2 (by intro k hk; omega))
        go_wp2_with (at_builtin; refine hold ?_)
        refine unheld ?_
        refine wpList_app1 rfl _ _ 63 rfl w.heap.size 21 i0 (.int .i32 0) 4 Try.underlying63 hi hz0 hz1 hz2 (by decide) rfl _ _ w2 (.int .i32 x) _ HO2.out rfl rfl rfl (by have := HLK.out; omega) hu12.size ?_
        intro v' w' hown' hb'
        have HO3 := Lib.hid hown'; clear hown'
        have HS3 := Lib.hid (HS2.out.below (hb'.mono hB))
        go_wp2_with fail
        go_roundw
        case rel => exact ⟨k + 1, by go_num, by omega, by rw [HST.out]; exact HO3.out, by rw [← HRE.out]; exact HS3.out, hu12.below2 hb' (Nat.le_refl _)⟩
        case measure => simp [intOf]; omega
      · obtain rfl : k = xs.length := by omega
        have HRS2 := HRS.out
        rw [List.drop_length] at HRS2
        have HRS3 : Hid (RdSt B wr g bs) := Lib.hid HRS2
        have HO2 := HO.out
        rw [List.take_length] at HO2
        have HO3 := Lib.hid HO2
        obtain ⟨ao', cap', g1, g2, g3, g4⟩ := HRS2
        have e1 := g1.cell 1
        simp only [List.getElem?_toArray, List.getElem?_cons_zero, List.getElem?_cons_succ] at e1
        clear g1 g2 g3 g4 HO HO2 HRS
        go_wp2_with fail
        go_ret
        exact ⟨_, rfl, HO3.out, HRS3.out, hu⟩
end Go.Proofs.Ytlganffeaapebaa
