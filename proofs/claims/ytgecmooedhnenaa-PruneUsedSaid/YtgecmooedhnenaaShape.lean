/- How many numbers a shape has, by the program and by the document. No condition. -/
import Derived.Test.YtgecmooedhnenaaTimes
namespace Go.Proofs.Ytgecmooedhnenaa
open Go.RowKit

/-- How many numbers a shape has; 0: it may not be. -/
def elems (h w c : Int) : Int := if 1 ≤ h ∧ h ≤ 16 ∧ 1 ≤ w ∧ w ≤ 16 ∧ 1 ≤ c ∧ c ≤ 1024 ∧ h * w * c ≤ 1024 then h * w * c else 0
theorem elems_bd (h w c : Int) : 0 ≤ elems h w c ∧ elems h w c ≤ 1024 := by
  unfold elems
  split
  · rename_i hh
    obtain ⟨h1, h2, w1, w2, c1, c2, hp⟩ := hh
    exact ⟨Int.mul_nonneg (Int.mul_nonneg (by omega) (by omega)) (by omega), hp⟩
  · omega

/-- A product step by step: 1 ≤ side, and never above 1024. -/
def prodTo : List Int → Int → Option Int
  | [], n => some n
  | x :: l, n => if 1 ≤ x ∧ n * x ≤ 1024 then prodTo l (n * x) else none
theorem prodTo_elems (h w c : Int) (h16 : h ≤ 16) (w16 : w ≤ 16) : (prodTo [h, w, c] 1).getD 0 = elems h w c := by
  unfold elems
  simp only [prodTo, Int.one_mul]
  by_cases h1 : 1 ≤ h
  · by_cases w1 : 1 ≤ w
    · by_cases c1 : 1 ≤ c
      · have p1 : 1 ≤ h * w := by have := Int.mul_le_mul h1 w1 (by omega) (by omega); simpa using this
        have p2 : c ≤ h * w * c := by have := Int.mul_le_mul_of_nonneg_right p1 (show 0 ≤ c by omega); simpa using this
        have p3 : h * w ≤ h * w * c := by have := Int.mul_le_mul_of_nonneg_left c1 (show 0 ≤ h * w by omega); simpa using this
        by_cases hp : h * w * c ≤ 1024
        · rw [if_pos ⟨h1, by omega⟩, if_pos ⟨w1, by omega⟩, if_pos ⟨c1, hp⟩, if_pos ⟨h1, h16, w1, w16, c1, by omega, hp⟩]; rfl
        · rw [if_neg (c := 1 ≤ h ∧ h ≤ 16 ∧ _) (fun x => hp x.2.2.2.2.2.2)]
          split
          · split
            · rw [if_neg (fun x => hp x.2)]; rfl
            · rfl
          · rfl
      · rw [if_neg (c := 1 ≤ h ∧ h ≤ 16 ∧ _) (fun x => c1 x.2.2.2.2.1)]
        split
        · split
          · rw [if_neg (fun x => c1 x.1)]; rfl
          · rfl
        · rfl
    · rw [if_neg (c := 1 ≤ h ∧ h ≤ 16 ∧ _) (fun x => w1 x.2.2.1)]
      split
      · rw [if_neg (fun x => w1 x.1)]; rfl
      · rfl
  · rw [if_neg (c := 1 ≤ h ∧ h ≤ 16 ∧ _) (fun x => h1 x.1), if_neg (fun x => h1 x.1)]; rfl

set_option maxHeartbeats 1600000 in
set_option maxRecDepth 100000 in
theorem product_any (x y z : Int) (w : World) (x0 : -9223372036854775808 ≤ x) (x1 : x ≤ 9223372036854775807) (y0 : -9223372036854775808 ≤ y) (y1 : y ≤ 9223372036854775807) (z0 : -9223372036854775808 ≤ z) (z1 : z ≤ 9223372036854775807) :
    Calls Try.prog 189 #[.agg #[.int .i64 x, .int .i64 y, .int .i64 z]] w fun e w' => e = .returned (.int .i64 ((prodTo [x, y, z] 1).getD 0)) ∧ Below w.heap.size w w' := by
  go_enter Try.func189, Try.ntmps189
  go_wp2_with fail
  obtain ⟨w1, hw1⟩ : ∃ w1, w1 = w.alloc (.cells #[.int .i64 x, .int .i64 y, .int .i64 z] 250) := ⟨_, rfl⟩
  have ha := At.new w 250 #[.int .i64 x, .int .i64 y, .int .i64 z]
  have hb1 : Below w.heap.size w w1 := by rw [hw1]; exact (Below.refl _ _).alloc (Nat.le_refl _) _
  rw [← hw1] at ha ⊢
  clear hw1
  go_loop [2, 3, 4, 5, 6, 7] (fun r n _ _ _ i => ∃ (k : Nat) (N : Int), r = .int .i64 0 ∧ i = .int .i64 k ∧ k ≤ 3 ∧ n = .int .i64 N ∧ 1 ≤ N ∧ N ≤ 1024 ∧ prodTo ([x, y, z].drop k) N = prodTo [x, y, z] 1) (fun _ _ _ _ _ i => 3 - (intOf i).toNat)
  case atStart => exact ⟨0, 1, rfl, rfl, by omega, rfl, by omega, by omega, rfl⟩
  case round =>
    obtain ⟨k, N, rfl, rfl, hk, rfl, N0, N1, hp⟩ := hrel
    by_cases hlt : k < 3
    · obtain ⟨v, hv, v0, v1, hd⟩ : ∃ v, w1.cell? ⟨w.heap.size, k, none⟩ = some (.int .i64 v) ∧ -9223372036854775808 ≤ v ∧ v ≤ 9223372036854775807 ∧ [x, y, z].drop k = v :: [x, y, z].drop (k + 1) := by
        match k, hlt with
        | 0, _ => exact ⟨x, ha.cell 0, x0, x1, rfl⟩
        | 1, _ => exact ⟨y, ha.cell 1, y0, y1, rfl⟩
        | 2, _ => exact ⟨z, ha.cell 2, z0, z1, rfl⟩
      rw [hd] at hp
      have HP := Lib.hid hp
      have kk0 : (0 : Int) ≤ (k : Int) := by omega
      have kk1 : (k : Int) < 3 := by omega
      clear hp hd
      go_wp2_with fail
      refine (times_any N v _ (by omega) (by omega) v0 v1).mono ?_
      rintro e w' ⟨q, r, rfl, hqr, rfl⟩
      rcases hqr with ⟨rfl, rfl, q0, q1⟩ | ⟨rfl, hq⟩
      · by_cases hv1 : v < 1
        · have HN : Hid ((prodTo [x, y, z] 1).getD 0 = 0) := by
            refine Lib.hid ?_
            rw [← HP.out]; simp only [prodTo]; rw [if_neg (by omega)]; rfl
          go_wp2_with fail
          go_ret
          exact ⟨by rw [HN.out]; rfl, hb1⟩
        · by_cases hb : 1024 < N * v
          · have HN : Hid ((prodTo [x, y, z] 1).getD 0 = 0) := by
              refine Lib.hid ?_
              rw [← HP.out]; simp only [prodTo]; rw [if_neg (by omega)]; rfl
            go_wp2_with fail
            go_ret
            exact ⟨by rw [HN.out]; rfl, hb1⟩
          · have hpos : 1 ≤ N * v := by have := Int.mul_le_mul N0 (show 1 ≤ v by omega) (by omega) (by omega); simpa using this
            go_wp2_with fail
            go_round
            case rel => exact ⟨k + 1, N * v, rfl, by go_num, by omega, rfl, hpos, by omega, by rw [← HP.out]; simp only [prodTo]; rw [if_pos (by omega)]⟩
            case measure => simp [intOf]; omega
      · have HN : Hid ((prodTo [x, y, z] 1).getD 0 = 0) := by
          refine Lib.hid ?_
          rw [← HP.out]; simp only [prodTo]; rw [if_neg ?_]; rfl
          intro hh
          have : 0 ≤ N * v := Int.mul_nonneg (by omega) (by omega)
          omega
        go_wp2_with fail
        go_ret
        exact ⟨by rw [HN.out]; rfl, hb1⟩
    · obtain rfl : k = 3 := by omega
      have hp' : some N = prodTo [x, y, z] 1 := hp
      have HN : Hid ((prodTo [x, y, z] 1).getD 0 = N) := by refine Lib.hid ?_; rw [← hp']; rfl
      clear hp hp'
      go_wp2_with fail
      go_ret
      exact ⟨by rw [HN.out]; rfl, hb1⟩

set_option maxHeartbeats 800000 in
set_option maxRecDepth 100000 in
theorem elems_any (h x c : Int) (w : World) (h0 : -9223372036854775808 ≤ h) (h1 : h ≤ 9223372036854775807) (x0 : -9223372036854775808 ≤ x) (x1 : x ≤ 9223372036854775807) (c0 : -9223372036854775808 ≤ c) (c1 : c ≤ 9223372036854775807) :
    Calls Try.prog 124 #[.agg #[.int .i64 h, .int .i64 x, .int .i64 c]] w fun e w' => e = .returned (.int .i64 (elems h x c)) ∧ Below w.heap.size w w' := by
  by_cases hh : 16 < h
  · have HE : Hid (elems h x c = 0) := by refine Lib.hid ?_; unfold elems; rw [if_neg (by omega)]
    go_enter Try.func124, Try.ntmps124
    go_wp2
    go_ret
    exact ⟨by rw [HE.out]; rfl, (Below.refl _ _).alloc (Nat.le_refl _) _⟩
  · by_cases hx : 16 < x
    · have HE : Hid (elems h x c = 0) := by refine Lib.hid ?_; unfold elems; rw [if_neg (by omega)]
      go_enter Try.func124, Try.ntmps124
      go_wp2
      go_ret
      exact ⟨by rw [HE.out]; rfl, (Below.refl _ _).alloc (Nat.le_refl _) _⟩
    · have HE := Lib.hid (prodTo_elems h x c (by omega) (by omega))
      go_enter Try.func124, Try.ntmps124
      go_wp2_with fail
      refine (product_any h x c _ h0 h1 x0 x1 c0 c1).mono ?_
      rintro e w' ⟨rfl, hb⟩
      rw [HE.out]
      go_wp2
      go_ret
      exact ⟨rfl, ((Below.refl _ _).alloc (Nat.le_refl _) _).trans (hb.mono (by simp))⟩

set_option maxHeartbeats 1600000 in
set_option maxRecDepth 100000 in
theorem refElems_any (h x c : Int) (w : World) (h0 : -9223372036854775808 ≤ h) (h1 : h ≤ 9223372036854775807) (x0 : -9223372036854775808 ≤ x) (x1 : x ≤ 9223372036854775807) (c0 : -9223372036854775808 ≤ c) (c1 : c ≤ 9223372036854775807) :
    Calls Try.prog 61 #[.agg #[.int .i64 h, .int .i64 x, .int .i64 c]] w fun e w' => e = .returned (.int .i64 (elems h x c)) ∧ Below w.heap.size w w' := by
  by_cases hr : 1 ≤ h ∧ h ≤ 16 ∧ 1 ≤ x ∧ x ≤ 16 ∧ 1 ≤ c ∧ c ≤ 1024
  · obtain ⟨a1, a2, a3, a4, a5, a6⟩ := hr
    have p1 : h * x ≤ 256 := by have := Int.mul_le_mul a2 a4 (by omega) (by omega); simpa using this
    have p0 : 1 ≤ h * x := by have := Int.mul_le_mul a1 a3 (by omega) (by omega); simpa using this
    have q1 : h * x * c ≤ 262144 := by have := Int.mul_le_mul p1 a6 (by omega) (by omega); simpa using this
    have q0 : 0 ≤ h * x * c := Int.mul_nonneg (by omega) (by omega)
    by_cases hp : 1024 < h * x * c
    · have HE : Hid (elems h x c = 0) := by refine Lib.hid ?_; unfold elems; rw [if_neg (fun y => by have := y.2.2.2.2.2.2; omega)]
      go_enter Try.func61, Try.ntmps61
      go_wp2
      go_ret
      exact ⟨by rw [HE.out]; rfl, (Below.refl _ _).alloc (Nat.le_refl _) _⟩
    · have HE : Hid (elems h x c = h * x * c) := by refine Lib.hid ?_; unfold elems; rw [if_pos ⟨a1, a2, a3, a4, a5, a6, by omega⟩]
      go_enter Try.func61, Try.ntmps61
      go_wp2
      go_ret
      exact ⟨by rw [HE.out]; rfl, (Below.refl _ _).alloc (Nat.le_refl _) _⟩
  · have HE : Hid (elems h x c = 0) := by refine Lib.hid ?_; unfold elems; rw [if_neg (fun y => hr ⟨y.1, y.2.1, y.2.2.1, y.2.2.2.1, y.2.2.2.2.1, y.2.2.2.2.2.1⟩)]
    have hor : h < 1 ∨ (1 ≤ h ∧ 16 < h) ∨ (1 ≤ h ∧ h ≤ 16 ∧ x < 1) ∨ (1 ≤ h ∧ h ≤ 16 ∧ 1 ≤ x ∧ 16 < x) ∨ (1 ≤ h ∧ h ≤ 16 ∧ 1 ≤ x ∧ x ≤ 16 ∧ c < 1) ∨ (1 ≤ h ∧ h ≤ 16 ∧ 1 ≤ x ∧ x ≤ 16 ∧ 1 ≤ c ∧ 1024 < c) := by omega
    clear hr
    rcases hor with g | ⟨g1, g⟩ | ⟨g1, g2, g⟩ | ⟨g1, g2, g3, g⟩ | ⟨g1, g2, g3, g4, g⟩ | ⟨g1, g2, g3, g4, g5, g⟩
    all_goals
      go_enter Try.func61, Try.ntmps61
      go_wp2
      go_ret
      exact ⟨by rw [HE.out]; rfl, (Below.refl _ _).alloc (Nat.le_refl _) _⟩
end Go.Proofs.Ytgecmooedhnenaa
