/- A reader of bytes, while all goes well. No condition. -/
import Derived.Test.YtlganffeaapebaaOctB
import Derived.Test.YtlganffeaapebaaSub
import Derived.Test.YtlganffeaapebaaUpd
import Derived.Outline
namespace Go.Proofs.Ytlganffeaapebaa
open Go.RowKit

theorem subV_len (s : Nat) (a : Option Addr) (n cap l h : Nat) : ∃ a' cap', subV s (.slice a n cap) l h = .slice a' (h - l) cap' ∧ (∀ x, a' = some x → ∃ y, a = some y ∧ x.block = y.block) := by
  refine ⟨if cap = l then a else a.map (·.add (l * s)), cap - l, rfl, ?_⟩
  intro x hx
  split at hx
  · exact ⟨x, hx, rfl⟩
  · cases a with
    | none => simp at hx
    | some y => simp at hx; exact ⟨y, rfl, by rw [← hx]; unfold Addr.add; split <;> rfl⟩

/-- The reader at g, with these bytes left, and no error. -/
def RdSt (B : Nat) (w : World) (g : Nat) (bs : List Int) : Prop :=
  ∃ ao cap, At w g 87 #[.slice ao bs.length cap, .int .i64 0] ∧ Rd w (.slice ao bs.length cap) (bs.map (Value.int .u8)) ∧ g < B ∧ ∀ a, ao = some a → a.block < B ∧ a.block ≠ g

theorem RdSt.below {B : Nat} {w w' : World} {g : Nat} {bs : List Int} (h : RdSt B w g bs) (hb : Below B w w') : RdSt B w' g bs := by
  obtain ⟨ao, cap, h1, h2, h3, h4⟩ := h
  refine ⟨ao, cap, h1.below hb h3, ?_, h3, h4⟩
  obtain ⟨ao', cap', e, c, k⟩ := h2
  injection e with e1 e2 e3
  subst e1 e3
  refine ⟨ao, cap, by rw [e2], c, fun hne => ?_⟩
  obtain ⟨b, o, rfl, hc⟩ := k hne
  have hbB := (h4 _ rfl).1
  refine ⟨b, o, rfl, fun j hj => ?_⟩
  have := hc j hj
  unfold World.cell? at this ⊢
  rw [hb.block b hbB]; exact this

theorem RdSt.mono {B B' : Nat} {w : World} {g : Nat} {bs : List Int} (h : RdSt B w g bs) (hB : B ≤ B') : RdSt B' w g bs := by
  obtain ⟨ao, cap, h1, h2, h3, h4⟩ := h
  exact ⟨ao, cap, h1, h2, by omega, fun a ha => ⟨by have := (h4 a ha).1; omega, (h4 a ha).2⟩⟩

theorem RdSt.upd {B : Nat} {w w' : World} {g : Nat} {bs : List Int} {G : Nat → Prop} (h : RdSt B w g bs) (hu : Upd G w w') (hG : ∀ k, k < B → ¬ G k) : RdSt B w' g bs := by
  obtain ⟨ao, cap, h1, h2, h3, h4⟩ := h
  refine ⟨ao, cap, h1.upd hu (hG g h3), ?_, h3, h4⟩
  obtain ⟨ao', cap', e, c, k⟩ := h2
  injection e with e1 e2 e3
  subst e1 e3
  refine ⟨ao, cap, by rw [e2], c, fun hne => ?_⟩
  obtain ⟨b, o, rfl, hc⟩ := k hne
  exact ⟨b, o, rfl, fun j hj => hu.cell (hc j hj) (hG b (h4 _ rfl).1)⟩

/-- The bytes left are those from n on. -/
theorem RdSt.next {B : Nat} {w : World} {g : Nat} {bs : List Int} {ao : Option Addr} {cap : Nat} (h1 : At w g 87 #[.slice ao bs.length cap, .int .i64 0]) (h2 : Rd w (.slice ao bs.length cap) (bs.map (Value.int .u8))) (h3 : g < B)
    (h4 : ∀ a, ao = some a → a.block < B ∧ a.block ≠ g) (n : Nat) (hn : n ≤ bs.length) : RdSt B (w.setCell ⟨g, 0, none⟩ (subV 1 (.slice ao bs.length cap) n bs.length)) g (bs.drop n) := by
  have hs := h2.subV n bs.length hn (by simp)
  obtain ⟨a', cap', he, hblk⟩ := subV_len 1 ao bs.length cap n bs.length
  rw [he] at hs ⊢
  have hl : bs.length - n = (bs.drop n).length := by simp
  have hlist : ((bs.map (Value.int .u8)).drop n).take (bs.length - n) = (bs.drop n).map (Value.int .u8) := by
    rw [← List.map_drop, List.take_of_length_le (by simp)]
  rw [hlist, hl] at hs
  rw [hl]
  refine ⟨a', cap', by have := h1.set 0 (.slice a' (bs.drop n).length cap'); simpa using this, ?_, h3, fun a ha => ?_⟩
  · obtain ⟨ao', cap2, e, c, k⟩ := hs
    injection e with e1 e2 e3
    subst e1 e3
    refine ⟨a', cap', by rw [e2], c, fun hne => ?_⟩
    obtain ⟨b, o, rfl, hc⟩ := k hne
    obtain ⟨y, hy, hyb⟩ := hblk _ rfl
    have hbg : b ≠ g := by have := (h4 y hy).2; simp at hyb; omega
    refine ⟨b, o, rfl, fun j hj => ?_⟩
    have := hc j hj
    unfold World.cell? at this ⊢
    rw [Below.heap_setCell w ⟨g, 0, none⟩ _ b hbg]; exact this
  · obtain ⟨y, hy, hyb⟩ := hblk a ha
    rw [hyb]; exact h4 y hy

theorem upd_g {g : Nat} {w w1 : World} (h : Upd (· = g) w w1) (i : Nat) (u : Value) : Upd (· = g) w (w1.setCell ⟨g, i, none⟩ u) := h.trans (Upd.one _ _ _ _)

theorem Try.subU8 : Try.prog.underlying 24 = some (.slice (Try.prog.elem 24)) := by kernel_rfl
theorem Try.subU8s : (Try.prog.info? (Try.prog.elem 24)).map (·.size) = some 1 := by kernel_rfl

set_option maxHeartbeats 800000 in
set_option maxRecDepth 100000 in
theorem nextU64_ok (B g : Nat) (bs : List Int) (v : Int) (n : Nat) (w : World) (h : RdSt B w g bs) (hB : B ≤ w.heap.size) (hx : ∀ x ∈ bs, 0 ≤ x ∧ x ≤ 255) (hl : bs.length ≤ 1000000) (hget : getAt bs 0 0 = (v, (n : Int), 0)) (hn : n ≤ bs.length) :
    Calls Try.prog 61 #[.pointer (some ⟨g, 0, none⟩), .func (.func 19) #[] #[]] w fun e w' => e = .returned (.tuple #[.int .u64 v, .bool true]) ∧ RdSt B w' g (bs.drop n) ∧ Upd (· = g) w w' := by
  obtain ⟨ao, cap, h1, h2, h3, h4⟩ := h
  have d0 := h1.cell 0
  have d1 := h1.cell 1
  simp only [List.getElem?_toArray, List.getElem?_cons_zero, List.getElem?_cons_succ] at d0 d1
  go_enter Try.func61, Try.ntmps61
  go_wp2_with fail
  refine (get_any _ bs w h2 hx (by omega)).mono ?_
  rintro e w1 ⟨rfl, hb1⟩
  rw [hget, tup3_of _ _ _ _ rfl]
  have d0' := bl_get hb1 d0
  have d1' := bl_get hb1 d1
  have hfr := (h1.below hb1 h1.lt).free 0
  have n0 : (0 : Int) ≤ (n : Int) := by omega
  have n1 : (n : Int) ≤ (bs.length : Int) := by omega
  have HNX : Hid (∀ u, u = subV 1 (.slice ao bs.length cap) n bs.length → RdSt B (w1.setCell ⟨g, 0, none⟩ u) g (bs.drop n)) := by
    refine Lib.hid ?_
    rintro _ rfl
    exact RdSt.next (h1.below hb1 h1.lt) (h2.below hb1 (Nat.le_refl _)) h3 h4 n hn
  clear h1 h2 h3 h4 hget
  go_wp2_with fail
  all_goals
    go_ret2
    exact ⟨rfl, HNX.out _ (by simp [subV, sliced, *]), upd_g (Upd.of_below hb1) _ _⟩

set_option maxHeartbeats 800000 in
set_option maxRecDepth 100000 in
theorem nextI64_ok (B g : Nat) (bs : List Int) (v : Int) (n : Nat) (w : World) (h : RdSt B w g bs) (hB : B ≤ w.heap.size) (hx : ∀ x ∈ bs, 0 ≤ x ∧ x ≤ 255) (hl : bs.length ≤ 1000000) (hget : getAt bs 0 0 = (v, (n : Int), 0)) (hn : n ≤ bs.length) :
    Calls Try.prog 68 #[.pointer (some ⟨g, 0, none⟩), .func (.func 21) #[] #[]] w fun e w' => e = .returned (.tuple #[.int .i64 (unfoldN v), .bool true]) ∧ RdSt B w' g (bs.drop n) ∧ Upd (· = g) w w' := by
  obtain ⟨ao, cap, h1, h2, h3, h4⟩ := h
  have d0 := h1.cell 0
  have d1 := h1.cell 1
  simp only [List.getElem?_toArray, List.getElem?_cons_zero, List.getElem?_cons_succ] at d0 d1
  go_enter Try.func68, Try.ntmps68
  go_wp2_with fail
  refine (getInt_any _ bs w h2 hx (by omega)).mono ?_
  rintro e w1 ⟨rfl, hb1⟩
  simp only [hget]
  have d0' := bl_get hb1 d0
  have d1' := bl_get hb1 d1
  have hfr := (h1.below hb1 h1.lt).free 0
  have n0 : (0 : Int) ≤ (n : Int) := by omega
  have n1 : (n : Int) ≤ (bs.length : Int) := by omega
  have HNX : Hid (∀ u, u = subV 1 (.slice ao bs.length cap) n bs.length → RdSt B (w1.setCell ⟨g, 0, none⟩ u) g (bs.drop n)) := by
    refine Lib.hid ?_
    rintro _ rfl
    exact RdSt.next (h1.below hb1 h1.lt) (h2.below hb1 (Nat.le_refl _)) h3 h4 n hn
  clear h1 h2 h3 h4 hget
  go_wp2_with fail
  all_goals
    go_ret2
    exact ⟨rfl, HNX.out _ (by simp [subV, sliced, *]), upd_g (Upd.of_below hb1) _ _⟩

theorem unfoldN_bd (n : Int) (h0 : 0 ≤ n) (h1 : n ≤ 18446744073709551615) : -9223372036854775808 ≤ unfoldN n ∧ unfoldN n ≤ 9223372036854775807 := by
  unfold unfoldN; split <;> omega

set_option maxHeartbeats 800000 in
set_option maxRecDepth 100000 in
theorem count_ok (B g : Nat) (bs : List Int) (v most : Int) (n : Nat) (w : World) (h : RdSt B w g bs) (hB : B ≤ w.heap.size) (hx : ∀ x ∈ bs, 0 ≤ x ∧ x ≤ 255) (hl : bs.length ≤ 1000000) (hget : getAt bs 0 0 = (v, (n : Int), 0)) (hn : n ≤ bs.length)
    (m0 : 0 ≤ most) (m1 : most ≤ 9223372036854775807) (v0 : 0 ≤ v) (v1 : v ≤ most) :
    Calls Try.prog 47 #[.pointer (some ⟨g, 0, none⟩), .int .i64 most] w fun e w' => e = .returned (.int .i64 v) ∧ RdSt B w' g (bs.drop n) ∧ Upd (· = g) w w' := by
  go_enter Try.func47, Try.ntmps47
  go_wp2_with fail
  refine (nextU64_ok B g bs v n w h hB hx hl hget hn).mono ?_
  rintro e w1 ⟨rfl, h1, hu⟩
  have H1 := Lib.hid h1; clear h1 h hget
  go_wp2_with fail
  all_goals
    go_ret
    exact ⟨rfl, H1.out, hu⟩

set_option maxHeartbeats 800000 in
set_option maxRecDepth 100000 in
theorem int_ok (B g : Nat) (bs : List Int) (v lo hi : Int) (n : Nat) (w : World) (h : RdSt B w g bs) (hB : B ≤ w.heap.size) (hx : ∀ x ∈ bs, 0 ≤ x ∧ x ≤ 255) (hl : bs.length ≤ 1000000) (hget : getAt bs 0 0 = (v, (n : Int), 0)) (hn : n ≤ bs.length)
    (l0 : -9223372036854775808 ≤ lo) (m1 : hi ≤ 9223372036854775807) (v0 : lo ≤ unfoldN v) (v1 : unfoldN v ≤ hi) :
    Calls Try.prog 67 #[.pointer (some ⟨g, 0, none⟩), .int .i64 lo, .int .i64 hi] w fun e w' => e = .returned (.int .i64 (unfoldN v)) ∧ RdSt B w' g (bs.drop n) ∧ Upd (· = g) w w' := by
  go_enter Try.func67, Try.ntmps67
  go_wp2_with fail
  refine (nextI64_ok B g bs v n w h hB hx hl hget hn).mono ?_
  rintro e w1 ⟨rfl, h1, hu⟩
  obtain ⟨u, hu9⟩ : ∃ u, u = unfoldN v := ⟨_, rfl⟩
  rw [← hu9] at v0 v1 ⊢
  have H1 := Lib.hid h1; have HU9 := Lib.hid hu9; clear h1 h hget hu9
  go_wp2_with fail
  all_goals
    go_ret
    exact ⟨by rw [← HU9.out]; rfl, H1.out, hu⟩

set_option maxHeartbeats 800000 in
set_option maxRecDepth 100000 in
theorem int32_ok (B g : Nat) (bs : List Int) (x : Int) (w : World) (h : RdSt B w g (putL (foldN x).toNat ++ bs)) (hB : B ≤ w.heap.size) (hx : ∀ x ∈ bs, 0 ≤ x ∧ x ≤ 255) (hl : bs.length ≤ 900000) (x0 : -2147483648 ≤ x) (x1 : x ≤ 2147483647) :
    Calls Try.prog 64 #[.pointer (some ⟨g, 0, none⟩)] w fun e w' => e = .returned (.int .i32 x) ∧ RdSt B w' g bs ∧ Upd (· = g) w w' := by
  obtain ⟨f0, f1⟩ := foldN_bd x (by omega) (by omega)
  have hpl := putL_len10 (foldN x).toNat (by omega)
  have hgot := got (foldN x).toNat bs (by omega)
  have hf : (((foldN x).toNat : Nat) : Int) = foldN x := by omega
  rw [hf] at hgot
  have hunf : unfoldN (foldN x) = x := unfold_fold x _ rfl
  go_enter Try.func64, Try.ntmps64
  go_wp2_with fail
  refine (int_ok B g _ (foldN x) _ _ _ w h hB (fun y hy => by rcases List.mem_append.1 hy with h | h; exact putL_rng _ y h; exact hx y h) (by rw [List.length_append]; omega) hgot (by rw [List.length_append]; omega) (by omega) (by omega) (by rw [hunf]; omega) (by rw [hunf]; omega)).mono ?_
  rintro e w1 ⟨rfl, h1, hu⟩
  rw [hunf]
  rw [List.drop_left] at h1
  have H1 := Lib.hid h1; clear h1 h hgot hf hunf
  go_wp2_with fail
  go_ret
  exact ⟨rfl, H1.out, hu⟩

set_option maxHeartbeats 800000 in
set_option maxRecDepth 100000 in
theorem byte8_ok (B g : Nat) (x : Int) (bs : List Int) (w : World) (h : RdSt B w g (x :: bs)) (hl : bs.length ≤ 900000) (x0 : 0 ≤ x) (x1 : x ≤ 255) :
    Calls Try.prog 66 #[.pointer (some ⟨g, 0, none⟩)] w fun e w' => e = .returned (.int .i8 (IntKind.i8.wrap x)) ∧ RdSt B w' g bs ∧ Upd (· = g) w w' := by
  obtain ⟨ao, cap, h1, h2, h3, h4⟩ := h
  have d0 := h1.cell 0
  simp only [List.getElem?_toArray, List.getElem?_cons_zero, List.getElem?_cons_succ] at d0
  have hfr := h1.free 0
  have HNX : Hid (∀ u, u = subV 1 (.slice ao (x :: bs).length cap) 1 (x :: bs).length → RdSt B (w.setCell ⟨g, 0, none⟩ u) g bs) := by
    refine Lib.hid ?_
    rintro _ rfl
    exact RdSt.next h1 h2 h3 h4 1 (by simp)
  obtain ⟨a, c, he, hle, hm, ha⟩ := h2.ints
  injection he with e1 e2 e3
  subst e1 e3
  obtain ⟨b, o, rfl, hc⟩ := ha (by simp)
  have hcell := hc 0 (by simp)
  simp only [Nat.add_zero, List.getElem_cons_zero, List.length_cons] at hcell d0 hle
  have HNX2 := HNX
  simp only [List.length_cons] at HNX2
  clear HNX hc ha h1 h2 h3 h4 e2
  obtain ⟨N, hN⟩ : ∃ N, N = bs.length := ⟨_, rfl⟩
  rw [← hN] at d0 hle HNX2
  clear hN
  go_enter Try.func66, Try.ntmps66
  go_wp2_with fail
  all_goals
    go_ret
    exact ⟨rfl, HNX2.out _ (by simp [subV, sliced, add_off, *]), upd_g (Upd.refl _ _) _ _⟩
end Go.Proofs.Ytlganffeaapebaa
