/- Ranges: what a scale makes of one; the document's row. No condition. -/
import Derived.Test.YtolpecacibmkjaaSpanF
import Derived.Test.YtolpecacibmkjaaFixD
import Derived.Outline
namespace Go.Proofs.Ytolpecacibmkjaa
open Go.RowKit

/-- The range of one weight, by its two ends. -/
def oneX (p q : Int) (gaps : Bool) : Int × Int := if gaps = true then (loOf 0 [loOf p [q], hiOf p [q]], hiOf 0 [loOf p [q], hiOf p [q]]) else (loOf p [q], hiOf p [q])
theorem oneR_X (v lo hi z : Int) (gaps : Bool) : oneR v lo hi z gaps = oneX (v * (lo - z)) (v * (hi - z)) gaps := rfl
/-- A number held within 32 bits. -/
def cl32 (a : Int) : Int := let b := if a < -2147483648 then -2147483648 else a; if 2147483647 < b then 2147483647 else b
theorem cl32_bd (a : Int) : -2147483648 ≤ cl32 a ∧ cl32 a ≤ 2147483647 := by
  unfold cl32; simp only []; split <;> split <;> omega
def aftLo (a b m s z lo hi : Int) : Int := if heldQ (cl32 b) m s z lo hi < heldQ (cl32 a) m s z lo hi then heldQ (cl32 b) m s z lo hi else heldQ (cl32 a) m s z lo hi
def aftHi (a b m s z lo hi : Int) : Int := if heldQ (cl32 a) m s z lo hi < heldQ (cl32 b) m s z lo hi then heldQ (cl32 b) m s z lo hi else heldQ (cl32 a) m s z lo hi

theorem cl32_cases (a : Int) : (a < -2147483648 ∧ cl32 a = -2147483648) ∨ (-2147483648 ≤ a ∧ 2147483647 < a ∧ cl32 a = 2147483647) ∨ (-2147483648 ≤ a ∧ a ≤ 2147483647 ∧ cl32 a = a) := by
  unfold cl32; simp only []
  by_cases h1 : a < -2147483648
  · exact .inl ⟨h1, by rw [if_pos h1]; rfl⟩
  · by_cases h2 : 2147483647 < a
    · exact .inr (.inl ⟨by omega, h2, by rw [if_neg h1, if_pos h2]⟩)
    · exact .inr (.inr ⟨by omega, by omega, by rw [if_neg h1, if_neg h2]⟩)
theorem after_cells {w w1 : World} {a b m s z : Int} (hb : Below ((w.alloc (.cells #[.int .i64 a, .int .i64 b] 41)).alloc (.cells #[.int .i32 m, .int .i64 s, .int .i8 z] 28)).heap.size ((w.alloc (.cells #[.int .i64 a, .int .i64 b] 41)).alloc (.cells #[.int .i32 m, .int .i64 s, .int .i8 z] 28)) w1) :
    (w1.cell? ⟨w.heap.size, 1, none⟩ = some (.int .i64 b)) ∧ w1.cell? ⟨w.heap.size + 1, 0, none⟩ = some (.int .i32 m) ∧ w1.cell? ⟨w.heap.size + 1, 1, none⟩ = some (.int .i64 s) ∧ w1.cell? ⟨w.heap.size + 1, 2, none⟩ = some (.int .i8 z) := by
  have h1 := ((At.new w 41 #[.int .i64 a, .int .i64 b]).alloc (.cells #[.int .i32 m, .int .i64 s, .int .i8 z] 28)).below hb (by simp only [World.size_alloc]; omega)
  have h2 := (At.new (w.alloc (.cells #[.int .i64 a, .int .i64 b] 41)) 28 #[.int .i32 m, .int .i64 s, .int .i8 z]).below hb (by simp)
  rw [show (w.alloc (.cells #[.int .i64 a, .int .i64 b] 41)).heap.size = w.heap.size + 1 from by simp] at h2
  exact ⟨h1.cell 1, h2.cell 0, h2.cell 1, h2.cell 2⟩
set_option maxHeartbeats 1600000 in
set_option maxRecDepth 100000 in
theorem after_any (a b m s z lo hi : Int) (w : World) (a0 : -9223372036854775808 ≤ a) (a1 : a ≤ 9223372036854775807) (b0 : -9223372036854775808 ≤ b) (b1 : b ≤ 9223372036854775807) (m0 : -2147483648 ≤ m) (m1 : m ≤ 2147483647) (z0 : -128 ≤ z) (z1 : z ≤ 127) (l0 : -128 ≤ lo) (l1 : lo ≤ 127) (k0 : -128 ≤ hi) (k1 : hi ≤ 127) :
    Calls Try.prog 32 #[.agg #[.int .i64 a, .int .i64 b], .agg #[.int .i32 m, .int .i64 s, .int .i8 z], .int .i8 lo, .int .i8 hi] w fun e w' => e = .returned (.tuple #[.int .i8 (aftLo a b m s z lo hi), .int .i8 (aftHi a b m s z lo hi)]) ∧ Below w.heap.size w w' := by
  obtain ⟨A0, A1⟩ := cl32_bd a
  obtain ⟨B0, B1⟩ := cl32_bd b
  have Ca := cl32_cases a
  have Cb := cl32_cases b
  have F := Lib.hid (show aftLo a b m s z lo hi = (if heldQ (cl32 b) m s z lo hi < heldQ (cl32 a) m s z lo hi then heldQ (cl32 b) m s z lo hi else heldQ (cl32 a) m s z lo hi) ∧ aftHi a b m s z lo hi = (if heldQ (cl32 a) m s z lo hi < heldQ (cl32 b) m s z lo hi then heldQ (cl32 b) m s z lo hi else heldQ (cl32 a) m s z lo hi) from ⟨rfl, rfl⟩)
  rcases Ca with ⟨h1, ca⟩ | ⟨h1, h2, ca⟩ | ⟨h1, h2, ca⟩ <;> rcases Cb with ⟨h3, cb⟩ | ⟨h3, h4, cb⟩ | ⟨h3, h4, cb⟩
  all_goals
    rw [ca, cb] at F
    clear ca cb A0 A1 B0 B1
    go_enter Try.func32, Try.ntmps32
    go_wp2_with fail
    refine (held_any _ m s z lo hi _ (by omega) (by omega) m0 m1 z0 z1 l0 l1 k0 k1).mono ?_
    rintro e w1 ⟨rfl, hb1⟩
    obtain ⟨c0, c1⟩ := after_cells hb1
    obtain ⟨d0, d1, d2⟩ := c1
    go_wp2_with fail
    refine (held_any _ m s z lo hi _ (by omega) (by omega) m0 m1 z0 z1 l0 l1 k0 k1).mono ?_
    rintro e w2 ⟨rfl, hb2⟩
    go_wp2_with fail
    all_goals
      go_ret2
      refine ⟨?_, ?_⟩
      · rw [F.out.1, F.out.2]
        first
          | rfl
          | (simp only [ite_self]; rfl)
          | ((repeat' split) <;> first | rfl | (exfalso; omega))
      exact bl_step (((Below.refl _ _).alloc (Nat.le_refl _) _).alloc (by simp) _ |>.trans (hb1.mono (by simp only [World.size_alloc]; omega))) hb2

theorem refAfter_cells {w w1 : World} {m s z : Int} (hb : Below (w.alloc (.cells #[.int .i32 m, .int .i64 s, .int .i8 z] 28)).heap.size (w.alloc (.cells #[.int .i32 m, .int .i64 s, .int .i8 z] 28)) w1) :
    w1.cell? ⟨w.heap.size, 0, none⟩ = some (.int .i32 m) ∧ w1.cell? ⟨w.heap.size, 1, none⟩ = some (.int .i64 s) ∧ w1.cell? ⟨w.heap.size, 2, none⟩ = some (.int .i8 z) := by
  have h2 := (At.new w 28 #[.int .i32 m, .int .i64 s, .int .i8 z]).below hb (by simp)
  exact ⟨h2.cell 0, h2.cell 1, h2.cell 2⟩
set_option maxHeartbeats 1600000 in
set_option maxRecDepth 100000 in
theorem refAfter_any (a b m s z lo hi : Int) (w : World) (a0 : -9223372036854775808 ≤ a) (a1 : a ≤ 9223372036854775807) (b0 : -9223372036854775808 ≤ b) (b1 : b ≤ 9223372036854775807) (m0 : -2147483648 ≤ m) (m1 : m ≤ 2147483647) (z0 : -128 ≤ z) (z1 : z ≤ 127) (l0 : -128 ≤ lo) (l1 : lo ≤ 127) (k0 : -128 ≤ hi) (k1 : hi ≤ 127) :
    Calls Try.prog 33 #[.int .i64 a, .int .i64 b, .agg #[.int .i32 m, .int .i64 s, .int .i8 z], .int .i8 lo, .int .i8 hi] w fun e w' => e = .returned (.tuple #[.int .i8 (aftLo a b m s z lo hi), .int .i8 (aftHi a b m s z lo hi)]) ∧ Below w.heap.size w w' := by
  have Ca := cl32_cases a
  have Cb := cl32_cases b
  have F := Lib.hid (show aftLo a b m s z lo hi = (if heldQ (cl32 b) m s z lo hi < heldQ (cl32 a) m s z lo hi then heldQ (cl32 b) m s z lo hi else heldQ (cl32 a) m s z lo hi) ∧ aftHi a b m s z lo hi = (if heldQ (cl32 a) m s z lo hi < heldQ (cl32 b) m s z lo hi then heldQ (cl32 b) m s z lo hi else heldQ (cl32 a) m s z lo hi) from ⟨rfl, rfl⟩)
  rcases Ca with ⟨h1, ca⟩ | ⟨h1, h2, ca⟩ | ⟨h1, h2, ca⟩ <;> rcases Cb with ⟨h3, cb⟩ | ⟨h3, h4, cb⟩ | ⟨h3, h4, cb⟩
  all_goals
    rw [ca, cb] at F
    clear ca cb
    go_enter Try.func33, Try.ntmps33
    go_wp2_with fail
    refine (refHeld_any _ m s z lo hi _ (by omega) (by omega) m0 m1 z0 z1 l0 l1 k0 k1).mono ?_
    rintro e w1 ⟨rfl, hb1⟩
    obtain ⟨d0, d1, d2⟩ := refAfter_cells hb1
    go_wp2_with fail
    refine (refHeld_any _ m s z lo hi _ (by omega) (by omega) m0 m1 z0 z1 l0 l1 k0 k1).mono ?_
    rintro e w2 ⟨rfl, hb2⟩
    go_wp2_with fail
    all_goals
      go_ret2
      refine ⟨?_, ?_⟩
      · rw [F.out.1, F.out.2]
        first
          | rfl
          | (simp only [ite_self]; rfl)
          | ((repeat' split) <;> first | rfl | (exfalso; omega))
      exact bl_step ((Below.refl _ _).alloc (Nat.le_refl _) _ |>.trans (hb1.mono (by simp only [World.size_alloc]; omega))) hb2

theorem min0 (p q : Int) : (if (0 : Int) < (if q < p then q else p) then 0 else (if q < p then q else p)) = (oneX p q true).1 := by
  unfold oneX loOf hiOf
  simp only [List.foldl_cons, List.foldl_nil, if_true]
  (repeat' split) <;> omega
theorem max0 (p q : Int) : (if (if p < q then q else p) < (0 : Int) then 0 else (if p < q then q else p)) = (oneX p q true).2 := by
  unfold oneX loOf hiOf
  simp only [List.foldl_cons, List.foldl_nil, if_true]
  (repeat' split) <;> omega

set_option maxHeartbeats 1600000 in
set_option maxRecDepth 100000 in
theorem refRow_any (v : Value) (xs : List Int) (bias lo hi z : Int) (gaps : Bool) (w : World) (hv : Rd w v (xs.map (Value.int .i8))) (hl : xs.length ≤ 1099511627776) (hx : ∀ x ∈ xs, -128 ≤ x ∧ x ≤ 127)
    (b0 : -2147483648 ≤ bias) (b1 : bias ≤ 2147483647) (l0 : -128 ≤ lo) (l1 : lo ≤ 127) (k0 : -128 ≤ hi) (k1 : hi ≤ 127) (z0 : -128 ≤ z) (z1 : z ≤ 127) :
    Calls Try.prog 34 #[v, .int .i32 bias, .int .i8 lo, .int .i8 hi, .int .i8 z, .bool gaps] w fun e w' => e = .returned (.tuple #[.int .i64 (rowLo xs bias lo hi z gaps), .int .i64 (rowHi xs bias lo hi z gaps)]) ∧ Below w.heap.size w w' := by
  obtain ⟨ao, ca, rfl, hle, hm, ha⟩ := hv.ints
  have HX := Lib.hid hx; clear hx
  go_enter Try.func34, Try.ntmps34
  go_wp2_with fail
  go_loopw [14, 15, 16, 17, 18, 19, 20] (fun a b i _ _ _ _ wr => ∃ (k : Nat), i = .int .i64 k ∧ k ≤ xs.length ∧ a = .int .i64 (rowLo (xs.take k) bias lo hi z gaps) ∧ b = .int .i64 (rowHi (xs.take k) bias lo hi z gaps) ∧ Below w.heap.size w wr) (fun _ _ i _ _ _ _ _ => xs.length - (intOf i).toNat)
  case atStart => exact ⟨0, rfl, by omega, rfl, rfl, Below.refl _ _⟩
  case round =>
    obtain ⟨k, rfl, hk, rfl, rfl, hb⟩ := hrel
    by_cases hlt : k < xs.length
    · obtain ⟨b, o, rfl, hc⟩ := ha (by intro h; subst h; simp at hlt)
      have hcell := bl_get hb (hc k hlt)
      obtain ⟨v0, v1⟩ := HX.out xs[k] (List.getElem_mem hlt)
      have t1 := rowLo_take xs k hlt bias lo hi z gaps
      have t2 := rowHi_take xs k hlt bias lo hi z gaps
      obtain ⟨L0, L1, G0, G1⟩ := rowLo_bd (xs.take k) bias lo hi z gaps (fun x hx => HX.out x (List.mem_of_mem_take hx)) (by simp; omega) b0 b1 l0 l1 k0 k1 z0 z1
      obtain ⟨y, hy⟩ : ∃ y, y = xs[k] := ⟨_, rfl⟩
      rw [← hy] at hcell v0 v1 t1 t2
      obtain ⟨p0, p1⟩ := mul_bd8 y (lo - z) v0 v1 (by omega) (by omega)
      obtain ⟨q0, q1⟩ := mul_bd8 y (hi - z) v0 v1 (by omega) (by omega)
      obtain ⟨R0, R1, R2, R3⟩ := oneR_bd y lo hi z gaps v0 v1 l0 l1 k0 k1 z0 z1
      rw [oneR_X] at t1 t2 R0 R1 R2 R3
      obtain ⟨L, hL⟩ : ∃ L, L = rowLo (xs.take k) bias lo hi z gaps := ⟨_, rfl⟩
      obtain ⟨G, hG⟩ : ∃ G, G = rowHi (xs.take k) bias lo hi z gaps := ⟨_, rfl⟩
      rw [← hL] at L0 L1 t1 ⊢
      rw [← hG] at G0 G1 t2 ⊢
      have T1 := Lib.hid t1; have T2 := Lib.hid t2
      have hltB : decide ((k : Int) < (xs.length : Int)) = true := by rw [decide_eq_true_eq]; omega
      have kk0 : (0 : Int) ≤ (k : Int) := by omega
      have kk1 : (k : Int) < (xs.length : Int) := by omega
      clear hy hL hG t1 t2 hc ha
      obtain ⟨P, hP⟩ : ∃ P, P = y * (lo - z) := ⟨_, rfl⟩
      obtain ⟨Q, hQ⟩ : ∃ Q, Q = y * (hi - z) := ⟨_, rfl⟩
      have hm0 := min0 P Q
      have hm1 := max0 P Q
      have hn0 : (if Q < P then Q else P) = (oneX P Q false).1 := rfl
      have hn1 : (if P < Q then Q else P) = (oneX P Q false).2 := rfl
      rw [hP, hQ] at hm0 hm1 hn0 hn1
      have M0 := Lib.hid hm0; have M1 := Lib.hid hm1; have N0 := Lib.hid hn0; have N1 := Lib.hid hn1
      clear hm0 hm1 hn0 hn1 hP hQ
      cases gaps with
      | false =>
        rw [← N0.out] at R0 R1 T1
        rw [← N1.out] at R2 R3 T2
        go_wp2_with fail
        go_quiet (fail)
        go_wp2_with fail
        all_goals go_roundw
        case rel => exact ⟨k + 1, by go_num, by omega, by rw [T1.out], by rw [T2.out], bl_drawn hb _⟩
        case measure => simp [intOf]; omega
      | true =>
        rw [← M0.out] at R0 R1 T1
        rw [← M1.out] at R2 R3 T2
        go_wp2_with fail
        go_quiet (fail)
        go_wp2_with fail
        all_goals go_roundw
        case rel => exact ⟨k + 1, by go_num, by omega, by rw [T1.out], by rw [T2.out], bl_drawn hb _⟩
        case measure => simp [intOf]; omega
    · have hkk : xs.take k = xs := List.take_of_length_le (by omega)
      rw [hkk]
      go_wp2
      go_ret2
      exact ⟨rfl, hb⟩
end Go.Proofs.Ytolpecacibmkjaa
