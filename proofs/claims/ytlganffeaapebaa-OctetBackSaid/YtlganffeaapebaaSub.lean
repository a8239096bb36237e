/- Part of a slice: as one value, whatever the slice is. No condition. -/
import Derived.Test.YtlganffeaapebaaElems
namespace Go.Proofs.Ytlganffeaapebaa
open Go.RowKit

/-- v[l:h], elements of s cells. -/
def subV (s : Nat) (v : Value) (l h : Nat) : Value := match v with
  | .slice a _ cap => sliced a l h cap s
  | _ => v

theorem run_subV {P : Program} {t : TypeId} {s : Nat} (ht : P.underlying t = some (.slice (P.elem t))) (hs : (P.info? (P.elem t)).map (·.size) = some s) (a : Option Addr) (len cap : Nat) (kl kh : IntKind) (l h : Int) (l0 : 0 ≤ l) (l1 : l ≤ h) (h1 : h ≤ cap) (w : World) :
    (Instr.sliceAt t (.slice a len cap) (some (.int kl l)) (some (.int kh h)) none).run P w = .ok (subV s (.slice a len cap) l.toNat h.toNat) w := by
  rw [run_sliceAt_slice w t _ _ _ _ ht, run_slice_lh w t a len cap ht kl kh l h l0 l1 h1]
  cases hq : P.info? (P.elem t) with
  | none => simp [hq] at hs
  | some i =>
    have : i.size = s := by simpa [hq] using hs
    simp [sizeOf, typeInfo, hq, this, subV]
theorem run_subL {P : Program} {t : TypeId} {s : Nat} (ht : P.underlying t = some (.slice (P.elem t))) (hs : (P.info? (P.elem t)).map (·.size) = some s) (a : Option Addr) (len cap : Nat) (kl : IntKind) (l : Int) (l0 : 0 ≤ l) (l1 : l ≤ len) (w : World) :
    (Instr.sliceAt t (.slice a len cap) (some (.int kl l)) none none).run P w = .ok (subV s (.slice a len cap) l.toNat len) w := by
  rw [run_sliceAt_slice w t _ _ _ _ ht, run_slice_l w t a len cap ht kl l l0 l1]
  cases hq : P.info? (P.elem t) with
  | none => simp [hq] at hs
  | some i =>
    have : i.size = s := by simpa [hq] using hs
    simp [sizeOf, typeInfo, hq, this, subV]
theorem run_subH {P : Program} {t : TypeId} {s : Nat} (ht : P.underlying t = some (.slice (P.elem t))) (hs : (P.info? (P.elem t)).map (·.size) = some s) (a : Option Addr) (len cap : Nat) (kl : IntKind) (h : Int) (l0 : 0 ≤ h) (l1 : h ≤ cap) (w : World) :
    (Instr.sliceAt t (.slice a len cap) none (some (.int kl h)) none).run P w = .ok (subV s (.slice a len cap) 0 h.toNat) w := by
  rw [run_sliceAt_slice w t _ _ _ _ ht, run_slice_h w t a len cap ht kl h l0 l1]
  cases hq : P.info? (P.elem t) with
  | none => simp [hq] at hs
  | some i =>
    have : i.size = s := by simpa [hq] using hs
    simp [sizeOf, typeInfo, hq, this, subV]

theorem Rd.subV {w : World} {v : Value} {xs : List Value} (h : Rd w v xs) (l n : Nat) (hl : l ≤ n) (hn : n ≤ xs.length) : Rd w (subV 1 v l n) ((xs.drop l).take (n - l)) := by
  obtain ⟨ao, cap, rfl, hcap, hc⟩ := h
  have hlen : ((xs.drop l).take (n - l)).length = n - l := by simp; omega
  refine ⟨if cap = l then ao else ao.map (·.add (l * 1)), cap - l, ?_, ⟨by omega, by omega, fun hno => ?_⟩, fun hne => ?_⟩
  · rw [hlen]; rfl
  · split at hno
    · omega
    · cases ao with
      | none => have := hcap.2.2 rfl; omega
      | some a => simp at hno
  · have hx : xs ≠ [] := by intro h; subst h; simp at hne
    obtain ⟨b, off, rfl, hk⟩ := hc hx
    have hlt : l < n := by
      rcases Nat.lt_or_ge l n with h | h
      · exact h
      · exact absurd (List.eq_nil_of_length_eq_zero (by rw [hlen]; omega)) hne
    refine ⟨b, off + l, ?_, fun j hj => ?_⟩
    · rw [if_neg (by omega), Nat.mul_one]; simp [add_off]
    · rw [hlen] at hj
      rw [show off + l + j = off + (l + j) from by omega, hk (l + j) (by omega)]
      simp
end Go.Proofs.Ytlganffeaapebaa
