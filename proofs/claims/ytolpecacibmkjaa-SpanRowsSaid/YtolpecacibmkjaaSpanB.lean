/- Ranges: between which numbers a row of weights lies (span.Row). No condition. -/
import Derived.Test.YtolpecacibmkjaaSpanA
namespace Go.Proofs.Ytolpecacibmkjaa
open Go.RowKit

/-- The range of one weight. -/
def oneR (v lo hi z : Int) (gaps : Bool) : Int × Int :=
  let a := loOf (v * (lo - z)) [v * (hi - z)]; let b := hiOf (v * (lo - z)) [v * (hi - z)]
  if gaps = true then (loOf 0 [a, b], hiOf 0 [a, b]) else (a, b)
def rowLo (xs : List Int) (bias lo hi z : Int) (gaps : Bool) : Int := xs.foldl (fun s v => s + (oneR v lo hi z gaps).1) bias
def rowHi (xs : List Int) (bias lo hi z : Int) (gaps : Bool) : Int := xs.foldl (fun s v => s + (oneR v lo hi z gaps).2) bias

theorem mul_bd8 (a m : Int) (a0 : -128 ≤ a) (a1 : a ≤ 127) (m0 : -255 ≤ m) (m1 : m ≤ 255) : -32640 ≤ a * m ∧ a * m ≤ 32640 := by
  have h1 : (a.natAbs * m.natAbs : Nat) ≤ 128 * 255 := Nat.mul_le_mul (by omega) (by omega)
  have := Int.natAbs_mul a m
  omega

theorem oneR_bd (v lo hi z : Int) (gaps : Bool) (v0 : -128 ≤ v) (v1 : v ≤ 127) (l0 : -128 ≤ lo) (l1 : lo ≤ 127) (k0 : -128 ≤ hi) (k1 : hi ≤ 127) (z0 : -128 ≤ z) (z1 : z ≤ 127) :
    -32640 ≤ (oneR v lo hi z gaps).1 ∧ (oneR v lo hi z gaps).1 ≤ 32640 ∧ -32640 ≤ (oneR v lo hi z gaps).2 ∧ (oneR v lo hi z gaps).2 ≤ 32640 := by
  obtain ⟨a0, a1⟩ := mul_bd8 v (lo - z) v0 v1 (by omega) (by omega)
  obtain ⟨b0, b1⟩ := mul_bd8 v (hi - z) v0 v1 (by omega) (by omega)
  unfold oneR loOf hiOf
  generalize v * (lo - z) = p at *
  generalize v * (hi - z) = q at *
  cases gaps <;> simp [List.foldl] <;> (repeat' split) <;> omega

theorem row_take (f : Int → Int) (xs : List Int) (k : Nat) (hk : k < xs.length) (b : Int) : (xs.take (k + 1)).foldl (fun s v => s + f v) b = (xs.take k).foldl (fun s v => s + f v) b + f xs[k] := by
  rw [List.take_succ_eq_append_getElem hk, List.foldl_append]; rfl
theorem rowLo_take (xs : List Int) (k : Nat) (hk : k < xs.length) (bias lo hi z : Int) (gaps : Bool) : rowLo (xs.take (k + 1)) bias lo hi z gaps = rowLo (xs.take k) bias lo hi z gaps + (oneR xs[k] lo hi z gaps).1 :=
  row_take (fun v => (oneR v lo hi z gaps).1) xs k hk bias
theorem rowHi_take (xs : List Int) (k : Nat) (hk : k < xs.length) (bias lo hi z : Int) (gaps : Bool) : rowHi (xs.take (k + 1)) bias lo hi z gaps = rowHi (xs.take k) bias lo hi z gaps + (oneR xs[k] lo hi z gaps).2 :=
  row_take (fun v => (oneR v lo hi z gaps).2) xs k hk bias
theorem row_bd (f : Int → Int) (C : Int) : ∀ (xs : List Int) (b : Int), (∀ x ∈ xs, -C ≤ f x ∧ f x ≤ C) → b - C * xs.length ≤ xs.foldl (fun s v => s + f v) b ∧ xs.foldl (fun s v => s + f v) b ≤ b + C * xs.length
  | [], b, _ => by simp
  | x :: l, b, h => by
    have h1 := h x (by simp)
    have h2 := row_bd f C l (b + f x) (fun y hy => h y (by simp [hy]))
    simp only [List.foldl_cons, List.length_cons]
    have : C * ((l.length + 1 : Nat) : Int) = C * l.length + C := by rw [Int.natCast_add, Int.mul_add]; simp
    omega

theorem rowLo_bd (xs : List Int) (bias lo hi z : Int) (gaps : Bool) (hx : ∀ x ∈ xs, -128 ≤ x ∧ x ≤ 127) (hl : xs.length ≤ 1099511627776) (b0 : -2147483648 ≤ bias) (b1 : bias ≤ 2147483647) (l0 : -128 ≤ lo) (l1 : lo ≤ 127) (k0 : -128 ≤ hi) (k1 : hi ≤ 127) (z0 : -128 ≤ z) (z1 : z ≤ 127) :
    -36000000000000000 ≤ rowLo xs bias lo hi z gaps ∧ rowLo xs bias lo hi z gaps ≤ 36000000000000000 ∧ -36000000000000000 ≤ rowHi xs bias lo hi z gaps ∧ rowHi xs bias lo hi z gaps ≤ 36000000000000000 := by
  have h1 := row_bd (fun v => (oneR v lo hi z gaps).1) 32640 xs bias (fun x hxx => by have := oneR_bd x lo hi z gaps (hx x hxx).1 (hx x hxx).2 l0 l1 k0 k1 z0 z1; exact ⟨this.1, this.2.1⟩)
  have h2 := row_bd (fun v => (oneR v lo hi z gaps).2) 32640 xs bias (fun x hxx => by have := oneR_bd x lo hi z gaps (hx x hxx).1 (hx x hxx).2 l0 l1 k0 k1 z0 z1; exact ⟨this.2.2.1, this.2.2.2⟩)
  unfold rowLo rowHi
  omega

theorem Rd.new1 (w : World) (t : TypeId) (x : Value) : Rd (w.alloc (.cells #[x] t)) (.slice (some ⟨w.heap.size, 0, none⟩) 1 1) [x] :=
  ⟨_, 1, rfl, ⟨Nat.le_refl _, by simp [maxLen], by simp⟩, fun _ => ⟨w.heap.size, 0, rfl, fun j hj => by
    have : j = 0 := by simpa using hj
    subst this
    rw [World.cell?_alloc_at _ _ _ _ rfl]; rfl⟩⟩
theorem Rd.new2 (w : World) (t : TypeId) (x y : Value) : Rd (w.alloc (.cells #[x, y] t)) (.slice (some ⟨w.heap.size, 0, none⟩) 2 2) [x, y] :=
  ⟨_, 2, rfl, ⟨Nat.le_refl _, by simp [maxLen], by simp⟩, fun _ => ⟨w.heap.size, 0, rfl, fun j hj => by
    have : j < 2 := by simpa using hj
    match j, this with
    | 0, _ => rw [World.cell?_alloc_at _ _ _ _ rfl]; rfl
    | 1, _ => rw [World.cell?_alloc_at _ _ _ _ rfl]; rfl⟩⟩

set_option maxHeartbeats 1600000 in
set_option maxRecDepth 100000 in
theorem spanRow_any (v : Value) (xs : List Int) (bias lo hi z : Int) (gaps : Bool) (w : World) (hv : Rd w v (xs.map (Value.int .i8))) (hl : xs.length ≤ 1099511627776) (hx : ∀ x ∈ xs, -128 ≤ x ∧ x ≤ 127)
    (b0 : -2147483648 ≤ bias) (b1 : bias ≤ 2147483647) (l0 : -128 ≤ lo) (l1 : lo ≤ 127) (k0 : -128 ≤ hi) (k1 : hi ≤ 127) (z0 : -128 ≤ z) (z1 : z ≤ 127) :
    Calls Try.prog 28 #[v, .int .i32 bias, .int .i8 lo, .int .i8 hi, .int .i8 z, .bool gaps] w fun e w' => e = .returned (.agg #[.int .i64 (rowLo xs bias lo hi z gaps), .int .i64 (rowHi xs bias lo hi z gaps)]) ∧ Below w.heap.size w w' := by
  obtain ⟨ao, ca, rfl, _, ha⟩ := hv
  simp only [List.length_map]
  have HX := Lib.hid hx; clear hx
  go_enter Try.func28, Try.ntmps28
  go_wp2
  go_loopw [15, 16, 24] (fun o r i wr => ∃ (k : Nat), i = .int .i64 k ∧ k ≤ xs.length ∧ At wr w.heap.size 41 #[.int .i64 0, .int .i64 0] ∧
    At wr (w.heap.size + 1) 41 #[.int .i64 (rowLo (xs.take k) bias lo hi z gaps), .int .i64 (rowHi (xs.take k) bias lo hi z gaps)] ∧ Below w.heap.size w wr) (fun _ _ i _ => xs.length - (intOf i).toNat)
  case atStart =>
    refine ⟨0, rfl, by omega, (At.new _ _ _).alloc _, ?_, ((Below.refl _ _).alloc (Nat.le_refl _) _).alloc (by simp) _⟩
    have := At.new (w.alloc (.cells #[.int .i64 0, .int .i64 0] 41)) 41 #[.int .i64 bias, .int .i64 bias]
    simpa [rowLo, rowHi] using this
  case round =>
    obtain ⟨k, rfl, hk, ha0, ha1, hb⟩ := hrel
    by_cases hlt : k < xs.length
    · obtain ⟨b, o, rfl, hc⟩ := ha (by intro h; simp at h; subst h; simp at hlt)
      have hcell := bl_get hb (hc k (by simpa using hlt))
      simp only [List.getElem_map] at hcell
      obtain ⟨v0, v1⟩ := HX.out xs[k] (List.getElem_mem hlt)
      obtain ⟨y, hy⟩ : ∃ y, y = xs[k] := ⟨_, rfl⟩
      rw [← hy] at hcell v0 v1
      obtain ⟨p0, p1⟩ := mul_bd8 y (lo - z) v0 v1 (by omega) (by omega)
      obtain ⟨q0, q1⟩ := mul_bd8 y (hi - z) v0 v1 (by omega) (by omega)
      have HY := Lib.hid hy; clear hy hc ha
      go_wp2_with fail
      refine (spanOf_any (y * (lo - z)) _ [y * (hi - z)] _ (Rd.new1 wr 3 _) (by simp)).mono ?_
      rintro e w2 ⟨rfl, hb2⟩
      have ha0b := (ha0.alloc _).below hb2 (ha0.alloc _).lt
      have ha1b := (ha1.alloc _).below hb2 (ha1.alloc _).lt
      have hbw2 : Below w.heap.size w w2 := (hb.alloc hb.size _).trans (hb2.mono (by have := hb.size; simp; omega))
      obtain ⟨A, hA⟩ : ∃ A, A = loOf (y * (lo - z)) [y * (hi - z)] := ⟨_, rfl⟩
      obtain ⟨B, hB⟩ : ∃ B, B = hiOf (y * (lo - z)) [y * (hi - z)] := ⟨_, rfl⟩
      rw [← hA, ← hB]
      have HA := Lib.hid hA; have HB := Lib.hid hB; clear hA hB ha0 ha1 hb hb2
      have ha0c := ha0b.alloc (.cells #[.int .i64 A, .int .i64 B] 41)
      have ha1c := ha1b.alloc (.cells #[.int .i64 A, .int .i64 B] 41)
      have har := At.new w2 41 #[.int .i64 A, .int .i64 B]
      have c0 := ha1c.cell 0
      have c1 := ha1c.cell 1
      have f0 := ha1c.free 0
      have f1 := ha1c.free 1
      simp only [List.getElem?_toArray, List.getElem?_cons_zero, List.getElem?_cons_succ] at c0 c1
      cases gaps with
      | false =>
        obtain ⟨L, hL⟩ : ∃ L, L = rowLo (xs.take k) bias lo hi z false := ⟨_, rfl⟩
        obtain ⟨G, hG⟩ : ∃ G, G = rowHi (xs.take k) bias lo hi z false := ⟨_, rfl⟩
        obtain ⟨L0, L1, G0, G1⟩ := rowLo_bd (xs.take k) bias lo hi z false (fun x hx => HX.out x (List.mem_of_mem_take hx)) (by simp; omega) b0 b1 l0 l1 k0 k1 z0 z1
        obtain ⟨A0, A1, B0, B1⟩ := oneR_bd y lo hi z false v0 v1 l0 l1 k0 k1 z0 z1
        rw [← hL] at c0 ha1c L0 L1
        rw [← hG] at c1 ha1c G0 G1
        have eA : (oneR y lo hi z false).1 = A := HA.out.symm
        have eB : (oneR y lo hi z false).2 = B := HB.out.symm
        rw [eA] at A0 A1
        rw [eB] at B0 B1
        have HL := Lib.hid hL; have HG := Lib.hid hG; have EA := Lib.hid eA; have EB := Lib.hid eB; clear hL hG eA eB
        go_wp2_with fail
        go_roundw
        case rel =>
          refine ⟨k + 1, by go_num, by omega, (ha0c.other (by simp) _).other (by simp) _, ?_, ((hbw2.alloc hbw2.size _).setCell (by simp) _).setCell (by simp) _⟩
          have h9 := (ha1c.set 0 (Value.int .i64 (L + A))).set 1 (Value.int .i64 (G + B))
          have e1 : rowLo (xs.take (k + 1)) bias lo hi z false = L + A := by
            rw [HL.out, ← EA.out, HY.out]; exact rowLo_take xs k hlt bias lo hi z false
          have e2 : rowHi (xs.take (k + 1)) bias lo hi z false = G + B := by
            rw [HG.out, ← EB.out, HY.out]; exact rowHi_take xs k hlt bias lo hi z false
          rw [e1, e2]; exact h9
        case measure => simp [intOf]; omega
      | true =>
        obtain ⟨L, hL⟩ : ∃ L, L = rowLo (xs.take k) bias lo hi z true := ⟨_, rfl⟩
        obtain ⟨G, hG⟩ : ∃ G, G = rowHi (xs.take k) bias lo hi z true := ⟨_, rfl⟩
        obtain ⟨L0, L1, G0, G1⟩ := rowLo_bd (xs.take k) bias lo hi z true (fun x hx => HX.out x (List.mem_of_mem_take hx)) (by simp; omega) b0 b1 l0 l1 k0 k1 z0 z1
        obtain ⟨A0, A1, B0, B1⟩ := oneR_bd y lo hi z true v0 v1 l0 l1 k0 k1 z0 z1
        rw [← hL] at c0 ha1c L0 L1
        rw [← hG] at c1 ha1c G0 G1
        go_wp2_with fail
        have hrd : Rd ((w2.alloc (.cells #[.int .i64 A, .int .i64 B] 41)).alloc (.cells #[.int .i64 A, .int .i64 B] 3)) (.slice (some ⟨w2.heap.size + 1, 0, none⟩) 2 2) [.int .i64 A, .int .i64 B] := by
          have := Rd.new2 (w2.alloc (.cells #[.int .i64 A, .int .i64 B] 41)) 3 (.int .i64 A) (.int .i64 B)
          rwa [show (w2.alloc (.cells #[.int .i64 A, .int .i64 B] 41)).heap.size = w2.heap.size + 1 from by simp] at this
        refine (spanOf_any 0 (.slice (some ⟨w2.heap.size + 1, 0, none⟩) 2 2) [A, B] _ hrd (by simp)).mono ?_
        rintro e w4 ⟨rfl, hb4⟩
        have ha0d := (ha0c.alloc _).below hb4 (ha0c.alloc _).lt
        have ha1d := (ha1c.alloc _).below hb4 (ha1c.alloc _).lt
        have hard := (har.alloc _).below hb4 (har.alloc _).lt
        have hlt2 := ha1b.lt
        have hne : ¬ w.heap.size + 1 = w2.heap.size := by omega
        have hne2 : ¬ w2.heap.size = w.heap.size + 1 := by omega
        have hne3 : ¬ w.heap.size = w2.heap.size := by omega
        obtain ⟨A2, hA2⟩ : ∃ A2, A2 = loOf 0 [A, B] := ⟨_, rfl⟩
        obtain ⟨B2, hB2⟩ : ∃ B2, B2 = hiOf 0 [A, B] := ⟨_, rfl⟩
        have eA : (oneR y lo hi z true).1 = A2 := by rw [hA2, HA.out, HB.out]; rfl
        have eB : (oneR y lo hi z true).2 = B2 := by rw [hB2, HA.out, HB.out]; rfl
        rw [← hA2, ← hB2]
        rw [eA] at A0 A1
        rw [eB] at B0 B1
        have HL := Lib.hid hL; have HG := Lib.hid hG; have EA := Lib.hid eA; have EB := Lib.hid eB; clear hL hG eA eB hA2 hB2 c0 c1 f0 f1 ha0c ha1c har hrd
        have c0 := ha1d.cell 0
        have c1 := ha1d.cell 1
        have f0 := ha1d.free 0
        have f1 := ha1d.free 1
        have d0 := hard.cell 0
        have d1 := hard.cell 1
        have e0 := hard.free 0
        have e1 := hard.free 1
        simp only [List.getElem?_toArray, List.getElem?_cons_zero, List.getElem?_cons_succ] at c0 c1 d0 d1
        go_wp2_with fail
        go_roundw
        case rel =>
          have hB4 : Below w.heap.size w w4 := ((hbw2.alloc hbw2.size _).alloc (by have := hbw2.size; simp; omega) _).trans (hb4.mono (by have := hbw2.size; simp; omega))
          refine ⟨k + 1, by go_num, by omega, (((ha0d.other hne3 _).other hne3 _).other (by simp) _).other (by simp) _, ?_, (((hB4.setCell hbw2.size _).setCell hbw2.size _).setCell (by simp) _).setCell (by simp) _⟩
          have h9 := (((ha1d.other (p := ⟨w2.heap.size, 0, none⟩) hne (Value.int .i64 A2)).other (p := ⟨w2.heap.size, 1, none⟩) hne (Value.int .i64 B2)).set 0 (Value.int .i64 (L + A2))).set 1 (Value.int .i64 (G + B2))
          have e1 : rowLo (xs.take (k + 1)) bias lo hi z true = L + A2 := by
            rw [HL.out, ← EA.out, HY.out]; exact rowLo_take xs k hlt bias lo hi z true
          have e2 : rowHi (xs.take (k + 1)) bias lo hi z true = G + B2 := by
            rw [HG.out, ← EB.out, HY.out]; exact rowHi_take xs k hlt bias lo hi z true
          rw [e1, e2]; exact h9
        case measure => simp [intOf]; omega
    · have g0 := ha0.cell 0
      have g1 := ha0.cell 1
      have h0 := ha0.free 0
      have h1 := ha0.free 1
      have c0 := ha1.cell 0
      have c1 := ha1.cell 1
      simp only [List.getElem?_toArray, List.getElem?_cons_zero, List.getElem?_cons_succ] at c0 c1 g0 g1
      go_wp2
      have e : xs.take k = xs := by rw [List.take_of_length_le]; omega
      rw [e]
      have h9 := (ha0.set 0 (Value.int .i64 (rowLo xs bias lo hi z gaps))).set 1 (Value.int .i64 (rowHi xs bias lo hi z gaps))
      refine bodyPost_ret (v := .agg #[.int .i64 (rowLo xs bias lo hi z gaps), .int .i64 (rowHi xs bias lo hi z gaps)]) ?_ rfl ⟨rfl, (hb.setCell (by simp) _).setCell (by simp) _⟩
      exact results_cell_row rfl _ _ w.heap.size 41 #[.int .i64 (rowLo xs bias lo hi z gaps), .int .i64 (rowHi xs bias lo hi z gaps)] (0, 0) _ rfl h9 Try.underlying41 rfl (by kernel_rfl)
end Go.Proofs.Ytolpecacibmkjaa
