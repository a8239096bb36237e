/- Sums of 32 bits: the sums of the program and of the document; fixed calls. No condition. -/
import Derived.Test.YtlganffeaapebaaCrcB
import Derived.Test.YtlganffeaapebaaOwn
import Derived.Lib.SlBytesConst
namespace Go.Proofs.Ytlganffeaapebaa
open Go.RowKit

def sumOf (l : List Int) : BitVec 32 := ~~~ (runB (BitVec.allOnes 32) l)
def moreOf (s : BitVec 32) (l : List Int) : BitVec 32 := ~~~ (runB (~~~ s) l)
theorem uv_not (v : BitVec 32) : bits .xor .u32 IntKind.u32.max (uv v) = uv (~~~ v) := by
  rw [show IntKind.u32.max = uv (BitVec.allOnes 32) from rfl, uv_xor, BitVec.allOnes_xor]

set_option maxHeartbeats 800000 in
set_option maxRecDepth 100000 in
theorem crcOf_any (v : Value) (l : List Int) (w : World) (hv : Rd w v (l.map (Value.int .u8))) (hl : l.length ≤ 1099511627776) (hx : ∀ x ∈ l, 0 ≤ x ∧ x ≤ 255) :
    Calls Try.prog 24 #[v] w fun e w' => e = .returned (.int .u32 (uv (sumOf l))) ∧ Below w.heap.size w w' := by
  have HC := Lib.hid (crcRun_any (BitVec.allOnes 32) v l w hv hl hx)
  have hsg : IntKind.u32.signed = false := rfl
  have hn := uv_not (runB (BitVec.allOnes 32) l)
  obtain ⟨R, hR⟩ : ∃ R, R = runB (BitVec.allOnes 32) l := ⟨_, rfl⟩
  rw [← hR] at HC hn
  have e2 : ~~~ R = sumOf l := by rw [hR]; rfl
  clear hR
  go_enter Try.func24, Try.ntmps24
  go_wp2_with fail
  refine HC.out.mono ?_
  rintro e w1 ⟨rfl, hb1⟩
  go_wp2
  go_ret
  exact ⟨by rw [← e2]; rfl, hb1⟩
set_option maxHeartbeats 800000 in
set_option maxRecDepth 100000 in
theorem crcMore_any (s : BitVec 32) (v : Value) (l : List Int) (w : World) (hv : Rd w v (l.map (Value.int .u8))) (hl : l.length ≤ 1099511627776) (hx : ∀ x ∈ l, 0 ≤ x ∧ x ≤ 255) :
    Calls Try.prog 27 #[.int .u32 (uv s), v] w fun e w' => e = .returned (.int .u32 (uv (moreOf s l))) ∧ Below w.heap.size w w' := by
  have HC := Lib.hid (crcRun_any (~~~ s) v l w hv hl hx)
  have hsg : IntKind.u32.signed = false := rfl
  have hm := uv_not s
  have hn := uv_not (runB (~~~ s) l)
  obtain ⟨R, hR⟩ : ∃ R, R = runB (~~~ s) l := ⟨_, rfl⟩
  rw [← hR] at HC hn
  have e2 : ~~~ R = moreOf s l := by rw [hR]; rfl
  clear hR
  go_enter Try.func27, Try.ntmps27
  go_wp2_with fail
  refine HC.out.mono ?_
  rintro e w1 ⟨rfl, hb1⟩
  go_wp2
  go_ret
  exact ⟨by rw [← e2]; rfl, hb1⟩
set_option maxHeartbeats 800000 in
set_option maxRecDepth 100000 in
theorem refOf_any (v : Value) (l : List Int) (w : World) (hv : Rd w v (l.map (Value.int .u8))) (hl : l.length ≤ 1099511627776) (hx : ∀ x ∈ l, 0 ≤ x ∧ x ≤ 255) :
    Calls Try.prog 26 #[v] w fun e w' => e = .returned (.int .u32 (uv (sumOf l))) ∧ w = w' := by
  have HC := Lib.hid (refRun_any (BitVec.allOnes 32) v l w hv hl hx)
  have hsg : IntKind.u32.signed = false := rfl
  have hn := uv_not (runB (BitVec.allOnes 32) l)
  obtain ⟨R, hR⟩ : ∃ R, R = runB (BitVec.allOnes 32) l := ⟨_, rfl⟩
  rw [← hR] at HC hn
  have e2 : ~~~ R = sumOf l := by rw [hR]; rfl
  clear hR
  go_enter Try.func26, Try.ntmps26
  go_wp2_with fail
  refine HC.out.mono ?_
  rintro e w1 ⟨rfl, rfl⟩
  go_wp2
  go_ret
  exact ⟨by rw [← e2]; rfl, rfl⟩
set_option maxHeartbeats 800000 in
set_option maxRecDepth 100000 in
theorem refMore_any (s : BitVec 32) (v : Value) (l : List Int) (w : World) (hv : Rd w v (l.map (Value.int .u8))) (hl : l.length ≤ 1099511627776) (hx : ∀ x ∈ l, 0 ≤ x ∧ x ≤ 255) :
    Calls Try.prog 28 #[.int .u32 (uv s), v] w fun e w' => e = .returned (.int .u32 (uv (moreOf s l))) ∧ w = w' := by
  have HC := Lib.hid (refRun_any (~~~ s) v l w hv hl hx)
  have hsg : IntKind.u32.signed = false := rfl
  have hm := uv_not s
  have hn := uv_not (runB (~~~ s) l)
  obtain ⟨R, hR⟩ : ∃ R, R = runB (~~~ s) l := ⟨_, rfl⟩
  rw [← hR] at HC hn
  have e2 : ~~~ R = moreOf s l := by rw [hR]; rfl
  clear hR
  go_enter Try.func28, Try.ntmps28
  go_wp2_with fail
  refine HC.out.mono ?_
  rintro e w1 ⟨rfl, rfl⟩
  go_wp2
  go_ret
  exact ⟨by rw [← e2]; rfl, rfl⟩

theorem kn07 : uv (sumOf [49, 50, 51, 52, 53, 54, 55, 56, 57]) = 3421780262 := by decide +kernel
theorem Rd.newF (w : World) (t : TypeId) (l : List Value) (fr : Nat × Nat) (h : l.length ≤ 1000000) : Rd (w.alloc (.cells l.toArray t fr)) (.slice (some ⟨w.heap.size, 0, none⟩) l.length l.length) l :=
  ⟨_, _, rfl, ⟨Nat.le_refl _, by unfold maxLen; omega, by simp⟩, fun _ => ⟨w.heap.size, 0, rfl, fun j hj => by
    have hh : (w.alloc (.cells l.toArray t fr)).heap[w.heap.size]? = some (.cells l.toArray t fr) := heap_alloc_new w _
    simp only [World.cell?, hh, Nat.zero_add]; simp⟩⟩

set_option maxHeartbeats 800000 in
set_option maxRecDepth 100000 in
theorem known07_any (w : World) : Calls Try.prog 23 #[] w fun e w' => e = .returned (.bool true) ∧ Below w.heap.size w w' := by
  have kc := fun (w : World) (C : Array Value) (n c : Nat) => Lib.run_convert_bytes_const (P := Try.prog) w 24 5 C n c Try.underlying24 Try.underlying5
  go_enter Try.func23, Try.ntmps23
  go_wp2_with fail
  refine (crcOf_any _ [49, 50, 51, 52, 53, 54, 55, 56, 57] _ (Rd.newF w 5 ([49, 50, 51, 52, 53, 54, 55, 56, 57].map (Value.int .u8)) (9, 10) (by simp)) (by simp) (by simp)).mono ?_
  rintro e w1 ⟨rfl, hb1⟩
  rw [kn07]
  go_wp2
  go_ret
  exact ⟨rfl, ((Below.refl _ _).alloc (Nat.le_refl _) _).trans (hb1.mono (by simp))⟩
end Go.Proofs.Ytlganffeaapebaa
