/- Whether two slices of numbers are alike: equal ones are. No condition. -/
import Derived.Test.YtlganffeaapebaaFresh
import Derived.Test.YtlganffeaapebaaAt
namespace Go.Proofs.Ytlganffeaapebaa
open Go.RowKit

set_option maxHeartbeats 800000 in
set_option maxRecDepth 100000 in
theorem sameI8_eq (v u : Value) (xs : List Int) (w : World) (hv : Rd w v (xs.map (Value.int .i8))) (hu : Rd w u (xs.map (Value.int .i8))) (hx : xs.length ≤ 1099511627776) :
    Calls Try.prog 51 #[v, u] w fun e w' => e = .returned (.bool true) ∧ Below w.heap.size w w' := by
  obtain ⟨ao, ca, rfl, _, ha⟩ := hv
  obtain ⟨bo, cb, rfl, _, hb⟩ := hu
  simp only [List.length_map]
  go_enter Try.func51, Try.ntmps51
  go_wp2
  go_loopw [5] (fun i wr => ∃ (k : Nat), i = .int .i64 k ∧ k ≤ xs.length ∧ ∃ n, wr = w.drewN n) (fun i _ => xs.length - (intOf i).toNat)
  case atStart => exact ⟨0, rfl, by omega, 0, rfl⟩
  case round =>
    obtain ⟨k, rfl, hk, n, rfl⟩ := hrel
    by_cases hlt : k < xs.length
    · obtain ⟨b, o, rfl, hc⟩ := ha (by intro h; simp at h; subst h; simp at hlt)
      obtain ⟨b', o', rfl, hc'⟩ := hb (by intro h; simp at h; subst h; simp at hlt)
      have h1 := hc k (by simpa using hlt)
      have h2 := hc' k (by simpa using hlt)
      simp only [List.getElem_map] at h1 h2
      obtain ⟨c, hcc⟩ : ∃ c, c = xs[k] := ⟨_, rfl⟩
      rw [← hcc] at h1 h2
      clear hcc hc hc' ha hb
      go_wp2_with fail
      go_region
      go_wp2
      go_roundw
      case rel => exact ⟨k + 1, by go_num, by omega, n + 1, rfl⟩
      case measure => simp [intOf]; omega
    · go_wp2
      go_ret
      exact ⟨rfl, below_drewN (Below.refl _ _) n⟩

set_option maxHeartbeats 800000 in
set_option maxRecDepth 100000 in
theorem sameI32_eq (v u : Value) (xs : List Int) (w : World) (hv : Rd w v (xs.map (Value.int .i32))) (hu : Rd w u (xs.map (Value.int .i32))) (hx : xs.length ≤ 1099511627776) :
    Calls Try.prog 50 #[v, u] w fun e w' => e = .returned (.bool true) ∧ Below w.heap.size w w' := by
  obtain ⟨ao, ca, rfl, _, ha⟩ := hv
  obtain ⟨bo, cb, rfl, _, hb⟩ := hu
  simp only [List.length_map]
  go_enter Try.func50, Try.ntmps50
  go_wp2
  go_loopw [5] (fun i wr => ∃ (k : Nat), i = .int .i64 k ∧ k ≤ xs.length ∧ ∃ n, wr = w.drewN n) (fun i _ => xs.length - (intOf i).toNat)
  case atStart => exact ⟨0, rfl, by omega, 0, rfl⟩
  case round =>
    obtain ⟨k, rfl, hk, n, rfl⟩ := hrel
    by_cases hlt : k < xs.length
    · obtain ⟨b, o, rfl, hc⟩ := ha (by intro h; simp at h; subst h; simp at hlt)
      obtain ⟨b', o', rfl, hc'⟩ := hb (by intro h; simp at h; subst h; simp at hlt)
      have h1 := hc k (by simpa using hlt)
      have h2 := hc' k (by simpa using hlt)
      simp only [List.getElem_map] at h1 h2
      obtain ⟨c, hcc⟩ : ∃ c, c = xs[k] := ⟨_, rfl⟩
      rw [← hcc] at h1 h2
      clear hcc hc hc' ha hb
      go_wp2_with fail
      go_region
      go_wp2
      go_roundw
      case rel => exact ⟨k + 1, by go_num, by omega, n + 1, rfl⟩
      case measure => simp [intOf]; omega
    · go_wp2
      go_ret
      exact ⟨rfl, below_drewN (Below.refl _ _) n⟩
end Go.Proofs.Ytlganffeaapebaa
