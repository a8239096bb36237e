/- A reader of bytes: small numbers, its making, its end. No condition. -/
import Derived.Test.YtlganffeaapebaaOctD
import Derived.Outline
namespace Go.Proofs.Ytlganffeaapebaa
open Go.RowKit

theorem Own.blk {B : Nat} {w : World} {e : TypeId} {a : Addr} {n c : Nat} {xs : List Value} (h : Own B w e (.slice (some a) n c) xs) : B ≤ a.block ∧ a.block < w.heap.size := by
  obtain ⟨hl, hcase⟩ := h
  rcases hcase with ⟨h, hn⟩ | ⟨g, cap, cur, h, hg, hh, hn, hcap, hsz, htake⟩
  · injection h with h; simp at h
  · injection h with h
    injection h with h
    subst h
    exact ⟨hg, (Array.getElem?_eq_some_iff.1 hh).1⟩

set_option maxHeartbeats 1600000 in
set_option maxRecDepth 100000 in
theorem allSmall_ok (B g : Nat) (xs bs : List Int) (w : World) (h : RdSt B w g (smallL xs ++ bs)) (hB : B ≤ w.heap.size) (hx : ∀ x ∈ xs, -128 ≤ x ∧ x ≤ 127) (hb : ∀ x ∈ bs, 0 ≤ x ∧ x ≤ 255) (hl : bs.length ≤ 300000) (hlx : xs.length ≤ 50000) :
    Calls Try.prog 65 #[.pointer (some ⟨g, 0, none⟩), .int .i64 xs.length, .func (.func 66) #[.pointer (some ⟨g, 0, none⟩)] #[]] w fun e w' => ∃ r, e = .returned r ∧ Own w.heap.size w' 85 r (xs.map (Value.int .i8)) ∧ RdSt B w' g bs ∧ Upd (· = g) w w' := by
  obtain ⟨i0, hi, hz0, hz1, hz2⟩ := info_parts (show (Try.prog.info? 85).map (fun i => (i.zero, i.size, i.bytes)) = some (some (.int .i8 0), 1, 1) from by kernel_rfl)
  have HX := Lib.hid hx; clear hx
  have HS := Lib.hid h
  obtain ⟨ao, cap, h1, h2, h3, h4⟩ := h
  have d0 := h1.cell 0
  have d1 := h1.cell 1
  simp only [List.getElem?_toArray, List.getElem?_cons_zero, List.getElem?_cons_succ] at d0 d1
  have hwm : xs.length ≤ (smallL xs).length := by simp [smallL]
  obtain ⟨M, hM⟩ : ∃ M, M = (smallL xs ++ bs).length := ⟨_, rfl⟩
  have hM1 : xs.length ≤ M := by rw [hM, List.length_append]; omega
  rw [← hM] at d0
  clear h1 h2 h4 hM hwm
  by_cases hz : xs = []
  · subst hz
    have HS2 : Hid (RdSt B w g bs) := HS
    clear HS
    go_enter Try.func65, Try.ntmps65
    go_wp2
    go_ret
    exact ⟨_, rfl, Own.nil _ _ _, HS2.out, Upd.refl _ _⟩
  · have hpos : 0 < xs.length := List.length_pos_iff.2 hz
    have p1 : (1 : Int) ≤ (xs.length : Int) := by omega
    have p2 : (xs.length : Int) ≤ (M : Int) := by omega
    have hd1 : decide ((xs.length : Int) < 1) = false := by rw [decide_eq_false_iff_not]; omega
    have hd2 : decide ((M : Int) < (xs.length : Int)) = false := by rw [decide_eq_false_iff_not]; omega
    have hd3 : decide (M < xs.length) = false := by rw [decide_eq_false_iff_not]; omega
    clear hz
    go_enter Try.func65, Try.ntmps65
    go_wp2_with fail
    go_loopw [7, 31] (fun r i wr => ∃ (k : Nat), i = .int .i64 k ∧ k ≤ xs.length ∧ Own w.heap.size wr 85 r ((xs.take k).map (Value.int .i8)) ∧ RdSt B wr g (smallL (xs.drop k) ++ bs) ∧ Upd (· = g) w wr) (fun _ i _ => xs.length - (intOf i).toNat)
    case atStart => exact ⟨0, rfl, by omega, Own.nil _ _ _, HS.out, Upd.refl _ _⟩
    case round =>
      obtain ⟨k, rfl, hk, hown, hrs, hu⟩ := hrel
      have HRS := Lib.hid hrs; clear hrs
      have HO := Lib.hid hown; clear hown
      by_cases hlt : k < xs.length
      · obtain ⟨x0, x1⟩ := HX.out xs[k] (List.getElem_mem hlt)
        have hst : (xs.take (k + 1)).map (Value.int .i8) = (xs.take k).map (Value.int .i8) ++ [.int .i8 xs[k]] := by
          rw [List.take_succ_eq_append_getElem hlt, List.map_append]; rfl
        have hdr : smallL (xs.drop k) ++ bs = (xs[k] % 256) :: (smallL (xs.drop (k + 1)) ++ bs) := by
          rw [List.drop_eq_getElem_cons hlt]; rfl
        have hrl : (smallL (xs.drop (k + 1)) ++ bs).length ≤ 900000 := by
          rw [List.length_append]; simp only [smallL, List.length_map, List.length_drop]; omega
        have hlk : ((xs.take k).map (Value.int .i8)).length ≤ 1000000 := by simp; omega
        obtain ⟨x, hx⟩ : ∃ x, x = xs[k] := ⟨_, rfl⟩
        obtain ⟨rest, hrest⟩ : ∃ r, r = smallL (xs.drop (k + 1)) ++ bs := ⟨_, rfl⟩
        have HRS2 := Lib.hid (hdr ▸ HRS.out)
        rw [← hx, ← hrest] at HRS2
        rw [← hrest] at hrl
        rw [← hx] at hst x0 x1
        have HST := Lib.hid hst; have HLK := Lib.hid hlk; have HRE := Lib.hid hrest; have hwr : IntKind.i8.wrap (x % 256) = x := by simp only [IntKind.wrap, IntKind.bits, IntKind.signed]; simp; omega
        have kk0 : (0 : Int) ≤ (k : Int) := by omega
        have kk1 : (k : Int) < (xs.length : Int) := by omega
        clear hst hx hlk hdr hrest HRS
        go_wp2_with fail
        refine (byte8_ok B g (x % 256) rest _ HRS2.out hrl (by omega) (by omega)).mono ?_
        rintro e w2 ⟨rfl, hs2, hu2⟩
        rw [hwr]
        clear hwr
        have HS2 := Lib.hid hs2; clear hs2
        have hu12 := hu.trans hu2
        have HO2 := Lib.hid (HO.out.upd hu2 (by intro k hk; omega))
        go_wp2_with (at_builtin; refine hold ?_)
        refine unheld ?_
        refine wpList_app1 rfl _ _ 62 rfl w.heap.size 85 i0 (.int .i8 0) 1 Try.underlying62 hi hz0 hz1 hz2 (by decide) rfl _ _ w2 (.int .i8 x) _ HO2.out rfl rfl rfl (by have := HLK.out; omega) hu12.size ?_
        intro v' w' hown' hb'
        have HO3 := Lib.hid hown'; clear hown'
        have HS3 := Lib.hid (HS2.out.below (hb'.mono hB))
        go_wp2_with fail
        go_roundw
        case rel => exact ⟨k + 1, by go_num, by omega, by rw [HST.out]; exact HO3.out, by rw [← HRE.out]; exact HS3.out, hu12.below2 hb' (Nat.le_refl _)⟩
        case measure => simp [intOf]; omega
      · obtain rfl : k = xs.length := by omega
        have HRS2 := HRS.out
        rw [List.drop_length] at HRS2
        have HRS3 : Hid (RdSt B wr g bs) := Lib.hid HRS2
        have HO2 := HO.out
        rw [List.take_length] at HO2
        have HO3 := Lib.hid HO2
        obtain ⟨ao', cap', g1, g2, g3, g4⟩ := HRS2
        have e1 := g1.cell 1
        simp only [List.getElem?_toArray, List.getElem?_cons_zero, List.getElem?_cons_succ] at e1
        clear g1 g2 g3 g4 HO HO2 HRS
        go_wp2_with fail
        go_ret
        exact ⟨_, rfl, HO3.out, HRS3.out, hu⟩

set_option maxHeartbeats 800000 in
set_option maxRecDepth 100000 in
theorem wideR_ok (B g : Nat) (xs bs : List Int) (w : World) (h : RdSt B w g (wideL xs ++ bs)) (hB : B ≤ w.heap.size) (hx : ∀ x ∈ xs, -2147483648 ≤ x ∧ x ≤ 2147483647) (hb : ∀ x ∈ bs, 0 ≤ x ∧ x ≤ 255) (hl : bs.length ≤ 300000) (hlx : xs.length ≤ 50000) :
    Calls Try.prog 48 #[.pointer (some ⟨g, 0, none⟩), .int .i64 xs.length] w fun e w' => ∃ r, e = .returned r ∧ Own w.heap.size w' 21 r (xs.map (Value.int .i32)) ∧ RdSt B w' g bs ∧ Upd (· = g) w w' := by
  have HX := Lib.hid hx; have HS := Lib.hid h; clear hx h
  go_enter Try.func48, Try.ntmps48
  go_wp2_with fail
  refine (allWide_ok B g xs bs w HS.out hB HX.out hb hl hlx).mono ?_
  rintro e w1 ⟨r, rfl, h1, h2, h3⟩
  go_wp2
  go_ret
  exact ⟨_, rfl, h1, h2, h3⟩

set_option maxHeartbeats 800000 in
set_option maxRecDepth 100000 in
theorem smallR_ok (B g : Nat) (xs bs : List Int) (w : World) (h : RdSt B w g (smallL xs ++ bs)) (hB : B ≤ w.heap.size) (hx : ∀ x ∈ xs, -128 ≤ x ∧ x ≤ 127) (hb : ∀ x ∈ bs, 0 ≤ x ∧ x ≤ 255) (hl : bs.length ≤ 300000) (hlx : xs.length ≤ 50000) :
    Calls Try.prog 49 #[.pointer (some ⟨g, 0, none⟩), .int .i64 xs.length] w fun e w' => ∃ r, e = .returned r ∧ Own w.heap.size w' 85 r (xs.map (Value.int .i8)) ∧ RdSt B w' g bs ∧ Upd (· = g) w w' := by
  have HX := Lib.hid hx; have HS := Lib.hid h; clear hx h
  go_enter Try.func49, Try.ntmps49
  go_wp2_with fail
  refine (allSmall_ok B g xs bs w HS.out hB HX.out hb hl hlx).mono ?_
  rintro e w1 ⟨r, rfl, h1, h2, h3⟩
  go_wp2
  go_ret
  exact ⟨_, rfl, h1, h2, h3⟩

set_option maxHeartbeats 800000 in
set_option maxRecDepth 100000 in
theorem left_ok (B g : Nat) (bs : List Int) (w : World) (h : RdSt B w g bs) :
    Calls Try.prog 52 #[.pointer (some ⟨g, 0, none⟩)] w fun e w' => e = .returned (.int .i64 bs.length) ∧ w = w' := by
  obtain ⟨ao, cap, h1, h2, h3, h4⟩ := h
  have d0 := h1.cell 0
  simp only [List.getElem?_toArray, List.getElem?_cons_zero, List.getElem?_cons_succ] at d0
  clear h1 h2 h3 h4
  go_enter Try.func52, Try.ntmps52
  go_wp2
  go_ret
  exact ⟨rfl, rfl⟩

set_option maxHeartbeats 800000 in
set_option maxRecDepth 100000 in
theorem end_ok (B g : Nat) (bs : List Int) (w : World) (h : RdSt B w g bs) :
    Calls Try.prog 53 #[.pointer (some ⟨g, 0, none⟩)] w fun e w' => e = .returned (.int .i64 (if 0 < bs.length then 24 else 0)) ∧ w = w' := by
  obtain ⟨ao, cap, h1, h2, h3, h4⟩ := h
  have d0 := h1.cell 0
  have d1 := h1.cell 1
  simp only [List.getElem?_toArray, List.getElem?_cons_zero, List.getElem?_cons_succ] at d0 d1
  clear h1 h2 h3 h4
  by_cases hz : 0 < bs.length
  · have hz2 : (0 : Int) < (bs.length : Int) := by omega
    rw [if_pos hz]
    clear hz
    go_enter Try.func53, Try.ntmps53
    go_wp2
    go_ret
    exact ⟨rfl, rfl⟩
  · rw [if_neg hz]
    have hz2 : bs.length = 0 := by omega
    rw [hz2] at d0
    clear hz hz2
    go_enter Try.func53, Try.ntmps53
    go_wp2
    go_ret
    exact ⟨rfl, rfl⟩

set_option maxHeartbeats 800000 in
set_option maxRecDepth 100000 in
theorem read_any (v : Value) (bs : List Int) (w : World) (hv : Rd w v (bs.map (Value.int .u8))) (hl : bs.length ≤ 1000000) :
    Calls Try.prog 46 #[v] w fun e w' => ∃ g, e = .returned (.pointer (some ⟨g, 0, none⟩)) ∧ w.heap.size ≤ g ∧ RdSt w'.heap.size w' g bs ∧ Below w.heap.size w w' := by
  obtain ⟨i0, hi, hz0, hz1, hz2⟩ := info_parts (show (Try.prog.info? 5).map (fun i => (i.zero, i.size, i.bytes)) = some (some (.int .u8 0), 1, 1) from by kernel_rfl)
  have HV := Lib.hid hv
  obtain ⟨a, c, rfl, hle, hm, ha⟩ := hv.ints
  clear hv ha
  go_enter Try.func46, Try.ntmps46
  go_wp2_with (at_builtin; refine hold ?_)
  refine unheld ?_
  refine wpList_appS rfl _ _ 24 rfl w.heap.size 5 i0 (.int .u8 0) 1 Try.underlying24 hi hz0 hz1 hz2 (by decide) rfl _ _ _ _ (Own.nil _ _ _) HV.out rfl rfl (ints_one _ _) (by simp; omega) (Nat.le_refl _) ?_
  intro v' w' hown' hb'
  rw [List.nil_append] at hown'
  obtain ⟨a', c', rfl, hle', hm', ha'⟩ := hown'.ints
  have HO := Lib.hid hown'; clear hown'
  go_wp2_with fail
  go_ret
  refine ⟨_, rfl, hb'.size, ⟨a', c', At.new _ _ _, HO.out.rd.below ((Below.refl _ _).alloc (Nat.le_refl _) _) (Nat.le_refl _), by simp, fun x hx => ?_⟩, hb'.trans ((Below.refl _ _).alloc hb'.size _)⟩
  subst hx
  have := HO.out.blk.2
  exact ⟨by simp; omega, by omega⟩
end Go.Proofs.Ytlganffeaapebaa
