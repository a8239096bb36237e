/- The document's Get computes the plain function 'getAt'. No condition. -/
import Derived.Test.YtlganffeaapebaaLebD
namespace Go.Proofs.Ytlganffeaapebaa
open Go.RowKit

theorem fin_none_of : ∀ (xs : List Int) (k : Nat), (∀ j (h : j < xs.length), j + k < 10 → ¬ xs[j] < 128) → fin xs k = none
  | [], _, _ => rfl
  | c :: r, k, h => by
    rw [fin]
    by_cases hk : 10 ≤ k
    · rw [if_pos hk]
    · have h0 : ¬ c < 128 := h 0 (by simp) (by omega)
      rw [if_neg hk, if_neg h0, fin_none_of r (k + 1) (fun j hj hjk => h (j + 1) (by simp; omega) (by omega))]; rfl

theorem fin_some_of : ∀ (xs : List Int) (k j : Nat) (hj : j < xs.length), j + k < 10 → xs[j] < 128 → (∀ i (h : i < j), ¬ xs[i] < 128) → fin xs k = some j
  | [], _, _, h, _, _, _ => by simp at h
  | c :: r, k, 0, _, hk, hx, _ => by
    rw [fin, if_neg (by omega), if_pos (by simpa using hx)]
  | c :: r, k, j + 1, hj, hk, hx, ha => by
    have h0 : ¬ c < 128 := ha 0 (by omega)
    rw [fin, if_neg (by omega), if_neg h0, fin_some_of r (k + 1) j (by simpa using hj) (by omega) (by simpa using hx) (fun i hi => by simpa using ha (i + 1) (by omega))]; rfl

/-- What the first loop knows behind k places. -/
def Seen (xs : List Int) (k : Nat) (e : Int) : Prop :=
  (e = -1 ∧ ∀ i (h : i < xs.length), i < k → ¬ xs[i] < 128) ∨ (∃ j : Nat, e = j ∧ ∃ hj : j < xs.length, j < k ∧ xs[j] < 128 ∧ ∀ i (_ : i < j), ¬ xs[i] < 128)

theorem val_drop (xs : List Int) (t : Nat) (h : t < xs.length) : val (xs.drop t) = xs[t] % 128 + 128 * val (xs.drop (t + 1)) := by
  rw [List.drop_eq_getElem_cons h, val]

theorem val_drop_le : ∀ (xs : List Int) (t : Nat), val (xs.drop t) ≤ val xs
  | [], t => by simp
  | c :: r, 0 => by simp
  | c :: r, t + 1 => by
    have h1 := val_drop_le r t
    have h2 := val_nonneg r
    simp only [List.drop_succ_cons, val]; omega

theorem val_bound : ∀ (xs : List Int) (k : Nat), xs.length ≤ k + 1 → (∀ h : k < xs.length, xs[k] ≤ 1) → (∀ x ∈ xs, 0 ≤ x) → val xs < 128 ^ k * 2
  | [], k, _, _, _ => by have := pow_pos128 k; simp [val]; omega
  | c :: r, 0, hl, hx, h0 => by
    have : r = [] := by simpa using hl
    subst this
    have := hx (by simp); simp at this
    have := h0 c (by simp)
    simp [val]; omega
  | c :: r, k + 1, hl, hx, h0 => by
    have ih := val_bound r k (by simpa using hl) (fun h => hx (by simpa using h)) (fun x hx => h0 x (by simp [hx]))
    rw [val, Int.pow_succ]; omega

theorem val_u64 (xs : List Int) (j : Nat) (hj : j < xs.length) (hj9 : j ≤ 9) (hx : j = 9 → xs[j] ≤ 1) (h0 : ∀ x ∈ xs, 0 ≤ x) : val (xs.take (j + 1)) ≤ 18446744073709551615 := by
  have h := val_bound (xs.take (j + 1)) 9 (by simp; omega) (fun h => by
    have hl : 9 < j + 1 := by simp at h; omega
    have e : j = 9 := by omega
    subst e
    have := hx rfl
    simpa using this) (fun x hx => h0 x (List.mem_of_mem_take hx))
  omega

set_option maxHeartbeats 1000000 in
set_option maxRecDepth 100000 in
theorem refGet_any (v : Value) (xs : List Int) (w : World) (hv : Rd w v (xs.map (Value.int .u8))) (hb : ∀ x ∈ xs, 0 ≤ x ∧ x ≤ 255) (hx : xs.length ≤ 1099511627776) :
    Calls Try.prog 20 #[v] w fun e w' => e = .returned (tup3 (getAt xs 0 0)) ∧ Below w.heap.size w w' := by
  obtain ⟨ao, ca, rfl, _, ha⟩ := hv
  simp only [List.length_map]
  have HB := Lib.hid hb; clear hb
  go_enter Try.func20, Try.ntmps20
  go_wp2
  go_loopw [5, 6] (fun e i wr => ∃ (k : Nat) (E : Int), i = .int .i64 k ∧ k ≤ xs.length ∧ k ≤ 10 ∧ e = .int .i64 E ∧ Seen xs k E ∧ Below w.heap.size w wr)
    (fun _ i _ => xs.length - (intOf i).toNat)
  case atStart => exact ⟨0, -1, rfl, by omega, by omega, rfl, .inl ⟨rfl, by omega⟩, Below.refl _ _⟩
  case round =>
    obtain ⟨k, E, rfl, hk, hk10, rfl, hs, hbw⟩ := hrel
    by_cases hlt : k < xs.length ∧ k < 10
    · obtain ⟨hlt, hlt10⟩ := hlt
      obtain ⟨b, o, rfl, hc⟩ := ha (by intro h; simp at h; subst h; simp at hlt)
      have hcell := bl_get hbw (hc k (by simpa using hlt))
      simp only [List.getElem_map] at hcell
      have hcb := HB.out xs[k] (List.getElem_mem hlt)
      obtain ⟨c, hcc⟩ : ∃ c, c = xs[k] := ⟨_, rfl⟩
      rw [← hcc] at hcell hcb
      obtain ⟨hc0, hc1⟩ := hcb
      have HC := Lib.hid hcc; clear hcc hc ha
      have HS := Lib.hid hs
      rcases hs with ⟨rfl, hs⟩ | ⟨j, rfl, hj, hjk, hx, hs⟩
      · have H := Lib.hid hs; clear hs
        by_cases h128 : c < 128
        · go_wp2
          go_roundw
          case rel => 
            refine ⟨k + 1, k, by go_num, by omega, by omega, rfl, .inr ⟨k, rfl, hlt, by omega, by rw [← HC.out]; exact h128, fun i hi => H.out i (by omega) hi⟩, hbw⟩
          case measure => simp [intOf]; omega
        · go_wp2
          go_roundw
          case rel => 
            refine ⟨k + 1, -1, by go_num, by omega, by omega, rfl, .inl ⟨rfl, fun i hi hik => ?_⟩, hbw⟩
            by_cases e : i = k
            · subst e; rw [← HC.out]; exact h128
            · exact H.out i hi (by omega)
          case measure => simp [intOf]; omega
      · have H := Lib.hid hs; clear hs hx
        go_wp2
        go_roundw
        case rel =>
          refine ⟨k + 1, j, by go_num, by omega, by omega, rfl, .inr ?_, hbw⟩
          rcases HS.out with ⟨h, _⟩ | ⟨j', h, r⟩
          · omega
          · obtain ⟨r1, r2, r3⟩ := r
            exact ⟨j', h, r1, by omega, r3⟩
        case measure => simp [intOf]; omega
    · have hend : k = xs.length ∨ k = 10 := by omega
      rcases hs with ⟨rfl, hs⟩ | ⟨j, rfl, hj, hjk, hx, hs⟩
      · have hf : fin xs 0 = none := fin_none_of xs 0 (fun j hj hj10 => hs j hj (by omega))
        clear hs
        by_cases h10 : 10 ≤ xs.length
        · have hg : getAt xs 0 0 = (0, 0, 21) := by rw [getAt_eq xs 0 0 (by omega), refGet, hf]; simp; omega
          have HG := Lib.hid hg; have HF := Lib.hid hf; clear hg hf
          have hk' : k = 10 := by omega
          subst hk'
          clear hend hlt
          go_wp2
          all_goals
            go_ret3
            exact ⟨by rw [HG.out]; rfl, hbw⟩
        · have hg : getAt xs 0 0 = (0, 0, 20) := by rw [getAt_eq xs 0 0 (by omega), refGet, hf]; simp; omega
          have HG := Lib.hid hg; have HF := Lib.hid hf; clear hg hf
          obtain rfl : k = xs.length := by omega
          clear hend hlt
          go_wp2
          go_ret3
          exact ⟨by rw [HG.out]; rfl, hbw⟩
      · have hf : fin xs 0 = some j := fin_some_of xs 0 j hj (by omega) hx (fun i hi => hs i hi)
        have hne : xs ≠ [] := by intro h; subst h; simp at hj
        obtain ⟨b, o, rfl, hc⟩ := ha (by simpa using hne)
        have hcell := bl_get hbw (hc j (by simpa using hj))
        simp only [List.getElem_map] at hcell
        have hxb := HB.out xs[j] (List.getElem_mem hj)
        have hg := getAt_eq xs 0 0 (by omega)
        rw [refGet, hf] at hg
        simp only [Nat.add_zero, List.getD_eq_getElem?_getD, List.getElem?_eq_getElem hj, Option.getD_some] at hg
        obtain ⟨x, hxx⟩ : ∃ x, x = xs[j] := ⟨_, rfl⟩
        have hvu : (j = 9 → x ≤ 1) → val (xs.take (j + 1)) ≤ 18446744073709551615 := fun h => val_u64 xs j hj (by omega) (by rw [← hxx]; exact h) (fun x hx => (HB.out x hx).1)
        rw [← hxx] at hcell hxb hx hg
        obtain ⟨hx0, hx1⟩ := hxb
        have HX := Lib.hid hxx; have HV := Lib.hid hvu; have HS := Lib.hid hs; have HCC := Lib.hid hc; have HF := Lib.hid hf; clear hs hf hxx ha hc hvu
        by_cases e1 : j = 9 ∧ 1 < x
        · rw [if_pos (.inl e1)] at hg
          have HG := Lib.hid hg; clear hg
          obtain ⟨rfl, e1⟩ := e1
          obtain rfl : k = 10 := by omega
          clear hend hlt
          go_wp2
          all_goals
            go_ret3
            exact ⟨by rw [HG.out]; rfl, hbw⟩
        · by_cases e2 : 0 < j ∧ x = 0
          · rw [if_pos (.inr e2)] at hg
            have HG := Lib.hid hg; clear hg
            obtain ⟨e2, rfl⟩ := e2
            clear e1
            by_cases e9 : j = 9
            · subst e9
              obtain rfl : k = 10 := by omega
              clear hend hlt
              go_wp2
              all_goals
                go_ret3
                exact ⟨by rw [HG.out]; rfl, hbw⟩
            · go_wp2
              all_goals
                go_ret3
                exact ⟨by rw [HG.out]; rfl, hbw⟩
          · rw [if_neg (by intro h; rcases h with h | h; exact e1 h; exact e2 h)] at hg
            have HG := Lib.hid hg; have HJ := Lib.hid hj
            have HQ : Hid (j = 9 → x ≤ 1) := Lib.hid (fun h => by omega)
            clear hg
            by_cases e9 : j = 9
            · subst e9
              have hx2 : x ≤ 1 := by omega
              have hx3 : 1 ≤ x := by omega
              obtain rfl : k = 10 := by omega
              clear hend hlt e1 e2
              go_wp2
              all_goals
                go_loopw [7, 8] (fun n i wr2 => ∃ I : Int, -1 ≤ I ∧ I ≤ 9 ∧ i = .int .i64 I ∧ n = .int .u64 (val ((xs.take (9 + 1)).drop (I + 1).toNat)) ∧ Below w.heap.size w wr2) (fun _ i _ => (intOf i + 1).toNat)
                case atStart => exact ⟨9, by omega, by omega, rfl, by rw [List.drop_of_length_le (by simp; omega)]; rfl, hbw⟩
                case round =>
                  obtain ⟨I, hI1, hI2, rfl, rfl, hbw2⟩ := hrel
                  by_cases hI : I = -1
                  · subst hI
                    go_wp2
                    go_ret3
                    refine ⟨?_, hbw2⟩
                    rw [tup3_of _ _ _ _ HG.out]
                    simp
                  · obtain ⟨s, rfl⟩ := Int.eq_ofNat_of_zero_le (show 0 ≤ I by omega)
                    have hsl : s < (xs.take (9 + 1)).length := by have := (HJ.out : 9 < xs.length); simp; omega
                    have hvd := val_drop _ s hsl
                    have hle := val_drop_le (xs.take (9 + 1)) s
                    have hV := HV.out HQ.out
                    have hn := val_nonneg ((xs.take (9 + 1)).drop (s + 1))
                    have hsx : s < xs.length := by have := (HJ.out : 9 < xs.length); omega
                    have hcs := bl_get hbw2 (HCC.out s (by simpa using hsx))
                    simp only [List.getElem_map] at hcs
                    have hyb := HB.out xs[s] (List.getElem_mem hsx)
                    rw [List.getElem_take] at hvd
                    obtain ⟨y, hy⟩ : ∃ y, y = xs[s] := ⟨_, rfl⟩
                    rw [← hy] at hcs hyb hvd
                    have et : ((s : Int) + 1).toNat = s + 1 := by omega
                    rw [et]
                    obtain ⟨V, hVV⟩ : ∃ V, V = val ((xs.take (9 + 1)).drop (s + 1)) := ⟨_, rfl⟩
                    rw [← hVV] at hvd hn ⊢
                    have hb1 : V * 128 + y % 128 ≤ 18446744073709551615 := by omega
                    have hb2 : V * 128 ≤ 18446744073709551615 := by omega
                    have HVD := Lib.hid hvd; have HVV := Lib.hid hVV; have HY := Lib.hid hy
                    obtain ⟨hy0, hy1⟩ := hyb
                    clear hvd hVV hy hle hV
                    go_wp2
                    go_roundw
                    case rel => exact ⟨(s : Int) - 1, by omega, by omega, by go_num, by rw [show ((s : Int) - 1 + 1).toNat = s from by omega, HVD.out, Int.mul_comm 128, Int.add_comm], hbw2⟩
                    case measure => simp [intOf]
            · by_cases e0 : j = 0
              · subst e0
                simp only [Nat.add_zero] at hcell
                clear e1 e2
                go_wp2
                all_goals
                  go_loopw [7, 8] (fun n i wr2 => ∃ I : Int, -1 ≤ I ∧ I ≤ 0 ∧ i = .int .i64 I ∧ n = .int .u64 (val ((xs.take (0 + 1)).drop (I + 1).toNat)) ∧ Below w.heap.size w wr2) (fun _ i _ => (intOf i + 1).toNat)
                  case atStart => exact ⟨0, by omega, by omega, rfl, by rw [List.drop_of_length_le (by simp; omega)]; rfl, hbw⟩
                  case round =>
                    obtain ⟨I, hI1, hI2, rfl, rfl, hbw2⟩ := hrel
                    by_cases hI : I = -1
                    · subst hI
                      go_wp2
                      go_ret3
                      refine ⟨?_, hbw2⟩
                      rw [tup3_of _ _ _ _ HG.out]
                      simp
                    · obtain ⟨s, rfl⟩ := Int.eq_ofNat_of_zero_le (show 0 ≤ I by omega)
                      have hsl : s < (xs.take (0 + 1)).length := by have := (HJ.out : 0 < xs.length); simp; omega
                      have hvd := val_drop _ s hsl
                      have hle := val_drop_le (xs.take (0 + 1)) s
                      have hV := HV.out HQ.out
                      have hn := val_nonneg ((xs.take (0 + 1)).drop (s + 1))
                      have hsx : s < xs.length := by have := (HJ.out : 0 < xs.length); omega
                      have hcs := bl_get hbw2 (HCC.out s (by simpa using hsx))
                      simp only [List.getElem_map] at hcs
                      have hyb := HB.out xs[s] (List.getElem_mem hsx)
                      rw [List.getElem_take] at hvd
                      obtain ⟨y, hy⟩ : ∃ y, y = xs[s] := ⟨_, rfl⟩
                      rw [← hy] at hcs hyb hvd
                      have et : ((s : Int) + 1).toNat = s + 1 := by omega
                      rw [et]
                      obtain ⟨V, hVV⟩ : ∃ V, V = val ((xs.take (0 + 1)).drop (s + 1)) := ⟨_, rfl⟩
                      rw [← hVV] at hvd hn ⊢
                      have hb1 : V * 128 + y % 128 ≤ 18446744073709551615 := by omega
                      have hb2 : V * 128 ≤ 18446744073709551615 := by omega
                      have HVD := Lib.hid hvd; have HVV := Lib.hid hVV; have HY := Lib.hid hy
                      obtain ⟨hy0, hy1⟩ := hyb
                      clear hvd hVV hy hle hV
                      go_wp2
                      go_roundw
                      case rel => exact ⟨(s : Int) - 1, by omega, by omega, by go_num, by rw [show ((s : Int) - 1 + 1).toNat = s from by omega, HVD.out, Int.mul_comm 128, Int.add_comm], hbw2⟩
                      case measure => simp [intOf]
              · have hx3 : 1 ≤ x := by omega
                clear e1 e2
                go_wp2
                all_goals
                  go_loopw [7, 8] (fun n i wr2 => ∃ I : Int, -1 ≤ I ∧ I ≤ j ∧ i = .int .i64 I ∧ n = .int .u64 (val ((xs.take (j + 1)).drop (I + 1).toNat)) ∧ Below w.heap.size w wr2) (fun _ i _ => (intOf i + 1).toNat)
                  case atStart => exact ⟨j, by omega, by omega, rfl, by rw [List.drop_of_length_le (by simp; omega)]; rfl, hbw⟩
                  case round =>
                    obtain ⟨I, hI1, hI2, rfl, rfl, hbw2⟩ := hrel
                    by_cases hI : I = -1
                    · subst hI
                      go_wp2
                      go_ret3
                      refine ⟨?_, hbw2⟩
                      rw [tup3_of _ _ _ _ HG.out]
                      simp
                    · obtain ⟨s, rfl⟩ := Int.eq_ofNat_of_zero_le (show 0 ≤ I by omega)
                      have hsl : s < (xs.take (j + 1)).length := by have := (HJ.out : j < xs.length); simp; omega
                      have hvd := val_drop _ s hsl
                      have hle := val_drop_le (xs.take (j + 1)) s
                      have hV := HV.out HQ.out
                      have hn := val_nonneg ((xs.take (j + 1)).drop (s + 1))
                      have hsx : s < xs.length := by have := (HJ.out : j < xs.length); omega
                      have hcs := bl_get hbw2 (HCC.out s (by simpa using hsx))
                      simp only [List.getElem_map] at hcs
                      have hyb := HB.out xs[s] (List.getElem_mem hsx)
                      rw [List.getElem_take] at hvd
                      obtain ⟨y, hy⟩ : ∃ y, y = xs[s] := ⟨_, rfl⟩
                      rw [← hy] at hcs hyb hvd
                      have et : ((s : Int) + 1).toNat = s + 1 := by omega
                      rw [et]
                      obtain ⟨V, hVV⟩ : ∃ V, V = val ((xs.take (j + 1)).drop (s + 1)) := ⟨_, rfl⟩
                      rw [← hVV] at hvd hn ⊢
                      have hb1 : V * 128 + y % 128 ≤ 18446744073709551615 := by omega
                      have hb2 : V * 128 ≤ 18446744073709551615 := by omega
                      have HVD := Lib.hid hvd; have HVV := Lib.hid hVV; have HY := Lib.hid hy
                      obtain ⟨hy0, hy1⟩ := hyb
                      clear hvd hVV hy hle hV
                      go_wp2
                      go_roundw
                      case rel => exact ⟨(s : Int) - 1, by omega, by omega, by go_num, by rw [show ((s : Int) - 1 + 1).toNat = s from by omega, HVD.out, Int.mul_comm 128, Int.add_comm], hbw2⟩
                      case measure => simp [intOf]
end Go.Proofs.Ytlganffeaapebaa
