/- Dice: one throw, of the program and of the document. No condition. -/
import Derived.Test.YtlganffeaapebaaUpd
import Derived.Test.YtlganffeaapebaaOwn
namespace Go.Proofs.Ytlganffeaapebaa
open Go.RowKit

/-- The state behind a throw, and what is thrown. -/
def dst (s : Int) : Int := (s + 11400714819323198485) % 18446744073709551616
def dmix (z : Int) : Int :=
  let a := bits .xor .u64 z (z / 1073741824) * 13787848793156543929 % 18446744073709551616
  let b := bits .xor .u64 a (a / 134217728) * 10723151780598845931 % 18446744073709551616
  bits .xor .u64 b (b / 2147483648)

set_option maxHeartbeats 800000 in
set_option maxRecDepth 100000 in
theorem next_any (s : Int) (g : Nat) (w : World) (hs : At w g 84 #[.int .u64 s]) :
    Calls Try.prog 32 #[.pointer (some ⟨g, 0, none⟩)] w fun e w' => e = .returned (.int .u64 (dmix (dst s))) ∧ w' = w.setCell ⟨g, 0, none⟩ (.int .u64 (dst s)) := by
  have c0 := hs.cell 0
  have f0 := hs.free 0
  simp only [List.getElem?_toArray, List.getElem?_cons_zero] at c0
  go_enter Try.func32, Try.ntmps32
  go_wp2
  go_ret
  exact ⟨rfl, rfl⟩
set_option maxHeartbeats 800000 in
set_option maxRecDepth 100000 in
theorem refNext_any (s : Int) (g : Nat) (w : World) (hs : At w g 57 #[.int .u64 s]) :
    Calls Try.prog 33 #[.pointer (some ⟨g, 0, none⟩)] w fun e w' => e = .returned (.int .u64 (dmix (dst s))) ∧ w' = w.setCell ⟨g, 0, none⟩ (.int .u64 (dst s)) := by
  have c0 := hs.cell 0
  have f0 := hs.free 0
  simp only [List.getElem?_toArray, List.getElem?_cons_zero] at c0
  go_enter Try.func33, Try.ntmps33
  go_wp2
  go_ret
  exact ⟨rfl, rfl⟩

theorem dmix_nonneg (z : Int) : 0 ≤ dmix z := by
  unfold dmix
  show 0 ≤ IntKind.u64.wrap _
  rw [IntKind.wrap_u64]; omega
/-- A throw below n, and the state behind it. -/
def dbel (s n : Int) : Int := if n < 1 then 0 else dmix (dst s) % n
def dbst (s n : Int) : Int := if n < 1 then s else dst s
theorem dbel_bd (s n : Int) (h : 1 ≤ n) : 0 ≤ dbel s n ∧ dbel s n < n := by
  unfold dbel; rw [if_neg (by omega)]; exact ⟨Int.emod_nonneg _ (by omega), Int.emod_lt_of_pos _ (by omega)⟩

set_option maxHeartbeats 800000 in
set_option maxRecDepth 100000 in
theorem below_any (s n : Int) (g : Nat) (w : World) (hs : At w g 84 #[.int .u64 s]) (n0 : -9223372036854775808 ≤ n) (n1 : n ≤ 9223372036854775807) :
    Calls Try.prog 34 #[.pointer (some ⟨g, 0, none⟩), .int .i64 n] w fun e w' => e = .returned (.int .i64 (dbel s n)) ∧ At w' g 84 #[.int .u64 (dbst s n)] ∧ Upd (· = g) w w' := by
  by_cases h : n < 1
  · have e1 : dbel s n = 0 := by unfold dbel; rw [if_pos h]
    have e2 : dbst s n = s := by unfold dbst; rw [if_pos h]
    rw [e1, e2]
    clear e1 e2
    go_enter Try.func34, Try.ntmps34
    go_wp2
    go_ret
    exact ⟨rfl, hs, Upd.refl _ _⟩
  · have e1 : dbel s n = dmix (dst s) % n := by unfold dbel; rw [if_neg h]
    have e2 : dbst s n = dst s := by unfold dbst; rw [if_neg h]
    rw [e1, e2]
    have hn : 1 ≤ n := by omega
    have m0 : 0 ≤ dmix (dst s) % n := Int.emod_nonneg _ (by omega)
    have m1 : dmix (dst s) % n < n := Int.emod_lt_of_pos _ (by omega)
    have hd0 := dmix_nonneg (dst s)
    clear e1 e2 h
    have HS := Lib.hid hs
    go_enter Try.func34, Try.ntmps34
    go_wp2_with fail
    refine (next_any s g _ HS.out).mono ?_
    rintro e w' ⟨rfl, rfl⟩
    go_wp2
    go_ret
    exact ⟨rfl, HS.out.set 0 _, Upd.one _ _ _ _⟩
set_option maxHeartbeats 800000 in
set_option maxRecDepth 100000 in
theorem refBelow_any (s n : Int) (g : Nat) (w : World) (hs : At w g 57 #[.int .u64 s]) (n0 : -9223372036854775808 ≤ n) (n1 : n ≤ 9223372036854775807) :
    Calls Try.prog 35 #[.pointer (some ⟨g, 0, none⟩), .int .i64 n] w fun e w' => e = .returned (.int .i64 (dbel s n)) ∧ At w' g 57 #[.int .u64 (dbst s n)] ∧ Upd (· = g) w w' := by
  by_cases h : n < 1
  · have e1 : dbel s n = 0 := by unfold dbel; rw [if_pos h]
    have e2 : dbst s n = s := by unfold dbst; rw [if_pos h]
    rw [e1, e2]
    clear e1 e2
    go_enter Try.func35, Try.ntmps35
    go_wp2
    go_ret
    exact ⟨rfl, hs, Upd.refl _ _⟩
  · have e1 : dbel s n = dmix (dst s) % n := by unfold dbel; rw [if_neg h]
    have e2 : dbst s n = dst s := by unfold dbst; rw [if_neg h]
    rw [e1, e2]
    have hn : 1 ≤ n := by omega
    have m0 : 0 ≤ dmix (dst s) % n := Int.emod_nonneg _ (by omega)
    have m1 : dmix (dst s) % n < n := Int.emod_lt_of_pos _ (by omega)
    have hd0 := dmix_nonneg (dst s)
    clear e1 e2 h
    have HS := Lib.hid hs
    go_enter Try.func35, Try.ntmps35
    go_wp2_with fail
    refine (refNext_any s g _ HS.out).mono ?_
    rintro e w' ⟨rfl, rfl⟩
    go_wp2
    go_ret
    exact ⟨rfl, HS.out.set 0 _, Upd.one _ _ _ _⟩

/-- The state behind i throws below m, and what they are, from f on. -/
def nst (s m : Int) : Nat → Int
  | 0 => s
  | i + 1 => dbst (nst s m i) m
def nums (s f m : Int) (n : Nat) : List Int := (List.range n).map fun i => f + dbel (nst s m i) m
theorem nums_len (s f m : Int) (n : Nat) : (nums s f m n).length = n := by simp [nums]
theorem nums_get (s f m : Int) (n i : Nat) (h : i < n) : (nums s f m n)[i]? = some (f + dbel (nst s m i) m) := by simp [nums, h]

set_option maxHeartbeats 1600000 in
set_option maxRecDepth 100000 in
theorem numbers_any (s f m : Int) (n : Nat) (g : Nat) (w : World) (hs : At w g 84 #[.int .u64 s]) (n1 : 1 ≤ n) (n2 : n ≤ 16384) (f0 : -32768 ≤ f) (f1 : f ≤ 32767) (m0 : 1 ≤ m) (m1 : m ≤ 65536) :
    Calls Try.prog 36 #[.pointer (some ⟨g, 0, none⟩), .int .i64 (n : Int), .int .i64 f, .int .i64 m] w fun e w' => ∃ v, e = .returned v ∧ Own w.heap.size w' 3 v ((nums s f m n).map (Value.int .i64)) ∧ At w' g 84 #[.int .u64 (nst s m n)] ∧ Upd (· = g) w w' := by
  obtain ⟨i0, hi, hz0, hz1, hz2⟩ := info_parts (show (Try.prog.info? 3).map (fun i => (i.zero, i.size, i.bytes)) = some (some (.int .i64 0), 1, 8) from by kernel_rfl)
  have HS := Lib.hid hs
  have hlen : ((nums s f m n).map (Value.int .i64)).length = n := by simp [nums_len]
  have HL := Lib.hid hlen; clear hlen hs
  have b1 : decide ((n : Int) < 1) = false := by rw [decide_eq_false_iff_not]; omega
  have b2 : decide (16384 < (n : Int)) = false := by rw [decide_eq_false_iff_not]; omega
  go_enter Try.func36, Try.ntmps36
  go_wp2_with (at_make; refine wpList_makeO w rfl _ _ 51 rfl 3 i0 (.int .i64 0) 8 Try.underlying51 hi hz0 hz1 hz2 (by decide) rfl _ _ n rfl rfl (by omega) ?_)
  intro w1 hown hb1
  obtain ⟨g1, hg1⟩ : ∃ g1, g1 = w.heap.size := ⟨_, rfl⟩
  have hgs : g < w.heap.size := HS.out.lt
  have hs1 := HS.out.below hb1 HS.out.lt
  rw [← hg1] at hown ⊢
  have HG := Lib.hid hg1; clear hg1
  go_wp2_with fail
  go_loopw [11, 28] (fun _ i wr => ∃ (k : Nat), i = .int .i64 k ∧ k ≤ n ∧ Own g1 wr 3 (.slice (some ⟨g1, 0, none⟩) n n) (fill ((nums s f m n).map (Value.int .i64)) (List.replicate n (.int .i64 0)) k) ∧ At wr g 84 #[.int .u64 (nst s m k)] ∧ Upd (· = g) w wr ∧ g1 < wr.heap.size) (fun _ i _ => n - (intOf i).toNat)
  case atStart => exact ⟨0, rfl, by omega, by rw [fill_zero]; exact hown, hs1, Upd.of_below hb1, (hown.at (by intro h; have := congrArg List.length h; simp at this; omega)).2.2.2.1⟩
  case round =>
    obtain ⟨k, rfl, hk, hown, hs, hu, hgl⟩ := hrel
    have hgg : g ≠ g1 := by rw [HG.out]; omega
    have hgg' : ∀ k, g1 ≤ k → ¬ k = g := fun k hk e => by subst e; have := HG.out; omega
    by_cases hlt : k < n
    · obtain ⟨r0, r1⟩ := dbel_bd (nst s m k) m m0
      have HSK := Lib.hid hs
      have HO := Lib.hid hown
      clear hs hown
      obtain ⟨D, hD⟩ : ∃ D, D = dbel (nst s m k) m := ⟨_, rfl⟩
      rw [← hD] at r0 r1
      have HD := Lib.hid hD; clear hD
      go_wp2_with fail
      refine ((below_any (nst s m k) m g _ HSK.out (by omega) (by omega)).mono (fun e w' h => show e = .returned (.int .i64 D) ∧ _ from ⟨by rw [HD.out]; exact h.1, h.2⟩)).mono ?_
      rintro e w2 ⟨rfl, hs2, hu2⟩
      have hown2 := HO.out.upd hu2 hgg'
      obtain ⟨h1, h2, h3, h4, h5, h6, h7⟩ := hown2.at (by intro h; have := congrArg List.length h; rw [fill_len _ _ (by simp [nums_len])] at this; simp [nums_len] at this; omega)
      have hl := fill_len ((nums s f m n).map (Value.int .i64)) (List.replicate n (.int .i64 0)) (by simp [nums_len]) k
      rw [HL.out] at hl
      obtain ⟨y, c9⟩ : ∃ y, w2.cell? ⟨g1, k, none⟩ = some y := ⟨_, h5 k (by omega)⟩
      have f9 := h6 k
      have H7 := Lib.hid (h7 k (.int .i64 (f + D)) (by omega))
      have HS2 := Lib.hid hs2
      have HHL := Lib.hid hl
      clear h5 h6 h7 hs2 hown2 hl h1 h2
      go_wp2_with fail
      go_roundw
      case rel =>
        refine ⟨k + 1, by go_num, by omega, ?_, HS2.out.other (by simp; omega) _, (hu.trans hu2).set (.inr (by show w.heap.size ≤ g1; rw [← HG.out]; exact Nat.le_refl _)) _, by simpa using h4⟩
        have := H7.out
        rwa [fill_set _ _ (by simp [nums_len]) k (by rw [HL.out]; exact hlt) _ (by rw [List.getElem?_map, nums_get _ _ _ _ _ hlt, HD.out]; rfl)] at this
      case measure => simp [intOf]; omega
    · obtain rfl : k = n := by omega
      have e := fill_all ((nums s f m k).map (Value.int .i64)) (List.replicate k (.int .i64 0)) (by simp [nums_len])
      rw [HL.out] at e
      rw [e] at hown
      clear e
      go_wp2
      go_ret
      exact ⟨_, rfl, by rw [← HG.out]; exact hown, hs, hu⟩

set_option maxHeartbeats 800000 in
set_option maxRecDepth 100000 in
theorem numbersNo_any (f m n : Int) (g : Nat) (w : World) (h : n < 1) :
    Calls Try.prog 36 #[.pointer (some ⟨g, 0, none⟩), .int .i64 n, .int .i64 f, .int .i64 m] w fun e w' => e = .returned (.slice none 0 0) ∧ w = w' := by
  go_enter Try.func36, Try.ntmps36
  go_wp2
  go_ret
  exact ⟨rfl, rfl⟩

theorem numbersU_any (s f m n : Int) (g : Nat) (w : World) (hs : At w g 84 #[.int .u64 s]) (n2 : n ≤ 16384) (f0 : -32768 ≤ f) (f1 : f ≤ 32767) (m0 : 1 ≤ m) (m1 : m ≤ 65536) :
    Calls Try.prog 36 #[.pointer (some ⟨g, 0, none⟩), .int .i64 n, .int .i64 f, .int .i64 m] w fun e w' => ∃ v, e = .returned v ∧ Own w.heap.size w' 3 v ((nums s f m n.toNat).map (Value.int .i64)) ∧ At w' g 84 #[.int .u64 (nst s m n.toNat)] ∧ Upd (· = g) w w' := by
  by_cases h : n < 1
  · have h0 : n.toNat = 0 := by omega
    rw [h0]
    exact (numbersNo_any f m n g w h).mono fun e w' ⟨h1, h2⟩ => ⟨_, h1, by rw [← h2]; exact Own.nil _ _ _, by rw [← h2]; exact hs, by rw [← h2]; exact Upd.refl _ _⟩
  · obtain ⟨N, rfl⟩ := Int.eq_ofNat_of_zero_le (show 0 ≤ n by omega)
    rw [Int.toNat_natCast]
    exact numbers_any s f m N g w hs (by omega) (by omega) f0 f1 m0 m1

set_option maxHeartbeats 800000 in
set_option maxRecDepth 100000 in
theorem roll_any (s : Int) (w : World) : Calls Try.prog 31 #[.int .u64 s] w fun e w' => e = .returned (.pointer (some ⟨w.heap.size, 0, none⟩)) ∧ w' = w.alloc (.cells #[.int .u64 s] 84) := by
  go_enter Try.func31, Try.ntmps31
  go_wp2
  go_ret
  exact ⟨rfl, rfl⟩

theorem kn49 : dmix (dst 0) = 16294208416658607535 := by decide +kernel
set_option maxHeartbeats 800000 in
set_option maxRecDepth 100000 in
theorem known49_any (w : World) : Calls Try.prog 37 #[] w fun e w' => e = .returned (.bool true) ∧ Below w.heap.size w w' := by
  go_enter Try.func37, Try.ntmps37
  go_wp2_with fail
  refine (roll_any _ _).mono ?_
  rintro e w1 ⟨rfl, rfl⟩
  go_wp2_with fail
  refine (next_any 0 w.heap.size _ (At.new _ _ _)).mono ?_
  rintro e w1 ⟨rfl, rfl⟩
  rw [kn49]
  go_wp2
  go_ret
  exact ⟨rfl, (Below.refl _ _).alloc (Nat.le_refl _) _⟩
end Go.Proofs.Ytlganffeaapebaa
