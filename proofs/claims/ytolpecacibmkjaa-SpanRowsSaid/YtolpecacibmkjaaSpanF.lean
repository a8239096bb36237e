/- Ranges: whether all hold, and from where to where all are. No condition. -/
import Derived.Test.YtolpecacibmkjaaSpanD
import Derived.Test.YtolpecacibmkjaaElems
import Derived.Test.YtolpecacibmkjaaAv
import Derived.Outline
namespace Go.Proofs.Ytolpecacibmkjaa
open Go.RowKit

def rgs (ps : List (Int × Int)) : List (List Value) := ps.map fun p => [.int .i64 p.1, .int .i64 p.2]
theorem rgs_len (ps : List (Int × Int)) : (rgs ps).length = ps.length := by simp [rgs]
def outB (p : Int × Int) : Bool := decide (p.1 < -2147483648) || decide (2147483647 < p.2)
def holdsL (ps : List (Int × Int)) : Bool := ps.all fun p => !outB p

/-- A slice of ranges, opened. -/
theorem rdN_rgs {w : World} {v : Value} {ps : List (Int × Int)} (h : RdN 2 w v (rgs ps)) : ∃ ao cap, v = .slice ao ps.length cap ∧ ps.length ≤ cap ∧ cap ≤ 9223372036854775807 ∧
    (ps ≠ [] → ∃ b off, ao = some ⟨b, off, none⟩ ∧ ∀ j (hj : j < ps.length), w.cell? ⟨b, off + j * 2, none⟩ = some (.int .i64 ps[j].1) ∧ w.cell? ⟨b, off + j * 2 + 1, none⟩ = some (.int .i64 ps[j].2)) := by
  obtain ⟨ao, cap, hv, h1, h2, hc⟩ := h.len
  rw [rgs_len] at hv h1
  refine ⟨ao, cap, hv, h1, h2, fun hne => ?_⟩
  obtain ⟨b, off, ha, hk⟩ := hc (by intro h; have := congrArg List.length h; rw [rgs_len] at this; exact hne (List.eq_nil_of_length_eq_zero this))
  refine ⟨b, off, ha, fun j hj => ?_⟩
  have e : (rgs ps)[j]? = some [.int .i64 ps[j].1, .int .i64 ps[j].2] := by unfold rgs; simp [hj]
  exact ⟨hk j _ 0 _ e rfl, hk j _ 1 _ e rfl⟩

set_option maxHeartbeats 800000 in
set_option maxRecDepth 100000 in
theorem holds_any (v : Value) (ps : List (Int × Int)) (w : World) (hv : RdN 2 w v (rgs ps)) :
    Calls Try.prog 29 #[v] w fun e w' => e = .returned (.bool (holdsL ps)) ∧ Below w.heap.size w w' := by
  obtain ⟨ao, ca, rfl, hle, hm, ha⟩ := rdN_rgs hv
  go_enter Try.func29, Try.ntmps29
  go_wp2_with fail
  go_loopw [2, 4, 7] (fun r _ i wr => ∃ (k : Nat), r = .bool false ∧ i = .int .i64 k ∧ k ≤ ps.length ∧ holdsL (ps.take k) = true ∧ Below w.heap.size w wr) (fun _ _ i _ => ps.length - (intOf i).toNat)
  case atStart => exact ⟨0, rfl, rfl, by omega, rfl, Below.refl _ _⟩
  case round =>
    obtain ⟨k, rfl, rfl, hk, hh, hb⟩ := hrel
    have HH := Lib.hid hh; clear hh
    by_cases hlt : k < ps.length
    · obtain ⟨b, o, rfl, hc⟩ := ha (by intro h; subst h; simp at hlt)
      obtain ⟨c0, c1⟩ := hc k hlt
      replace c0 := bl_get hb c0
      replace c1 := bl_get hb c1
      have hst : holdsL (ps.take (k + 1)) = (holdsL (ps.take k) && !outB ps[k]) := by
        unfold holdsL; rw [List.take_succ_eq_append_getElem hlt, List.all_append]; simp only [List.all_cons, List.all_nil, Bool.and_true]
      have hfin : outB ps[k] = true → holdsL ps = false := by
        intro h; unfold holdsL; rw [List.all_eq_false]; exact ⟨ps[k], List.getElem_mem hlt, by simp [h]⟩
      obtain ⟨p, hp⟩ : ∃ p, p = ps[k] := ⟨_, rfl⟩
      rw [← hp] at c0 c1 hst hfin
      obtain ⟨x, y⟩ := p
      have HS := Lib.hid hst; have HF := Lib.hid hfin
      clear hp hst hfin hc ha
      have HO : Hid (outB (x, y) = (decide (x < -2147483648) || decide (2147483647 < y))) := rfl
      by_cases h1 : x < -2147483648
      · go_wp2
        go_ret
        exact ⟨by rw [HF.out (by rw [HO.out]; simp [h1])]; rfl, hb.alloc hb.size _⟩
      · by_cases h2 : 2147483647 < y
        · go_wp2
          go_ret
          exact ⟨by rw [HF.out (by rw [HO.out]; simp [h2])]; rfl, hb.alloc hb.size _⟩
        · go_wp2
          go_roundw
          case rel => exact ⟨k + 1, rfl, by go_num, by omega, by rw [HS.out, HH.out, HO.out]; simp [h1, h2], hb.alloc hb.size _⟩
          case measure => simp [intOf]; omega
    · have hkk : ps.take k = ps := List.take_of_length_le (by omega)
      rw [hkk] at HH
      go_wp2
      go_ret
      exact ⟨by rw [HH.out]; rfl, hb⟩

/-- From where to where all are. -/
def loL : List (Int × Int) → Int
  | [] => 0
  | p :: l => l.foldl (fun a q => if q.1 < a then q.1 else a) p.1
def hiL : List (Int × Int) → Int
  | [] => 0
  | p :: l => l.foldl (fun a q => if a < q.2 then q.2 else a) p.2
/-- From a first one on. -/
def loF (x : Int) (l : List (Int × Int)) : Int := l.foldl (fun a q => if q.1 < a then q.1 else a) x
def hiF (x : Int) (l : List (Int × Int)) : Int := l.foldl (fun a q => if a < q.2 then q.2 else a) x
theorem loF_take (x : Int) (l : List (Int × Int)) (k : Nat) (hk : k < l.length) : loF x (l.take (k + 1)) = if l[k].1 < loF x (l.take k) then l[k].1 else loF x (l.take k) := by
  unfold loF; rw [List.take_succ_eq_append_getElem hk, List.foldl_append]; rfl
theorem hiF_take (x : Int) (l : List (Int × Int)) (k : Nat) (hk : k < l.length) : hiF x (l.take (k + 1)) = if hiF x (l.take k) < l[k].2 then l[k].2 else hiF x (l.take k) := by
  unfold hiF; rw [List.take_succ_eq_append_getElem hk, List.foldl_append]; rfl
theorem loL_eq (l : List (Int × Int)) (h : 0 < l.length) : loF l[0].1 l = loL l := by
  match l, h with
  | p :: l, _ => simp [loF, loL]
theorem hiL_eq (l : List (Int × Int)) (h : 0 < l.length) : hiF l[0].2 l = hiL l := by
  match l, h with
  | p :: l, _ => simp [hiF, hiL]

set_option maxHeartbeats 800000 in
set_option maxRecDepth 100000 in
theorem both_any (v : Value) (ps : List (Int × Int)) (w : World) (hv : RdN 2 w v (rgs ps)) :
    Calls Try.prog 30 #[v] w fun e w' => e = .returned (.agg #[.int .i64 (loL ps), .int .i64 (hiL ps)]) ∧ Below w.heap.size w w' := by
  obtain ⟨ao, ca, rfl, hle, hm, ha⟩ := rdN_rgs hv
  by_cases h0 : ps.length = 0
  · obtain rfl : ps = [] := List.eq_nil_of_length_eq_zero h0
    go_enter Try.func30, Try.ntmps30
    go_wp2
    exact bodyPost_ret (v := .agg #[.int .i64 0, .int .i64 0]) (by simp [results, Try.results30, go_sem]) rfl ⟨rfl, (Below.refl _ _).alloc (Nat.le_refl _) _⟩
  · have hpos : 0 < ps.length := by omega
    have hz : ((ps.length : Int) == 0) = false := by rw [beq_eq_false_iff_ne]; omega
    obtain ⟨b, o, rfl, hc⟩ := ha (by intro h; subst h; simp at hpos)
    obtain ⟨c0, c1⟩ := hc 0 hpos
    simp only [Nat.zero_mul, Nat.add_zero] at c0 c1
    have hbl : b < w.heap.size := lt_of_cell c0
    have hbn : ¬ b = w.heap.size := by omega
    have hbn2 : ¬ w.heap.size = b := by omega
    have HL := Lib.hid (loL_eq ps hpos); have HH := Lib.hid (hiL_eq ps hpos)
    obtain ⟨x0, hx0⟩ : ∃ x, x = ps[0].1 := ⟨_, rfl⟩
    obtain ⟨y0, hy0⟩ : ∃ y, y = ps[0].2 := ⟨_, rfl⟩
    rw [← hx0] at c0 HL
    rw [← hy0] at c1 HH
    have HC := Lib.hid hc
    clear hx0 hy0 hc ha h0
    go_enter Try.func30, Try.ntmps30
    go_wp2_with fail
    go_loopw [5, 15] (fun _ i wr => ∃ (k : Nat), i = .int .i64 k ∧ k ≤ ps.length ∧ At wr w.heap.size 41 #[.int .i64 0, .int .i64 0] ∧
      At wr (w.heap.size + 1) 41 #[.int .i64 (loF x0 (ps.take k)), .int .i64 (hiF y0 (ps.take k))] ∧ Below w.heap.size w wr) (fun _ i _ => ps.length - (intOf i).toNat)
    case atStart =>
      refine ⟨0, rfl, by omega, (At.new _ _ _).alloc _, ?_, ((Below.refl _ _).alloc (Nat.le_refl _) _).alloc (by simp) _⟩
      have := At.new (w.alloc (.cells #[.int .i64 0, .int .i64 0] 41)) 41 #[.int .i64 x0, .int .i64 y0]
      simpa [loF, hiF] using this
    case round =>
      obtain ⟨k, rfl, hk, ha0, ha1, hb⟩ := hrel
      clear c0 c1
      by_cases hlt : k < ps.length
      · obtain ⟨c0, c1⟩ := HC.out k hlt
        replace c0 := bl_get hb c0
        replace c1 := bl_get hb c1
        have h1 := loF_take x0 ps k hlt
        have h2 := hiF_take y0 ps k hlt
        obtain ⟨p, hp⟩ : ∃ p, p = ps[k] := ⟨_, rfl⟩
        rw [← hp] at c0 c1 h1 h2
        obtain ⟨x, y⟩ := p
        obtain ⟨L, hL⟩ : ∃ L, L = loF x0 (ps.take k) := ⟨_, rfl⟩
        obtain ⟨G, hG⟩ : ∃ G, G = hiF y0 (ps.take k) := ⟨_, rfl⟩
        rw [← hL, ← hG] at ha1
        rw [← hL] at h1
        rw [← hG] at h2
        have H1 := Lib.hid h1; have H2 := Lib.hid h2
        clear hp h1 h2 hL hG
        have hlt1 := ha1.lt
        have d0 := ha1.cell 0
        have d1 := ha1.cell 1
        have f0 := ha1.free 0
        have f1 := ha1.free 1
        have hn1 : ¬ w.heap.size + 1 = wr.heap.size := by omega
        have hn2 : ¬ wr.heap.size = w.heap.size + 1 := by omega
        simp only [List.getElem?_toArray, List.getElem?_cons_zero, List.getElem?_cons_succ] at d0 d1
        have A0 := Lib.hid ha0; have A1 := Lib.hid ha1
        clear ha0 ha1
        go_wp2
        all_goals go_roundw
        case rel =>
          refine ⟨k + 1, by go_num, by omega, ((A0.out.other (by simp) _).other (by simp) _).alloc _, ?_, ((hb.setCell (by simp) _).setCell (by simp) _).alloc (by simpa using hb.size) _⟩
          rw [H1.out, H2.out]
          exact ((A1.out.set 0 _).set 1 _).alloc _
        case measure => simp [intOf]; omega
      · have hkk : ps.take k = ps := List.take_of_length_le (by omega)
        rw [hkk, HL.out, HH.out] at ha1
        have g0 := ha0.cell 0
        have g1 := ha0.cell 1
        have h0 := ha0.free 0
        have h1 := ha0.free 1
        have c0 := ha1.cell 0
        have c1 := ha1.cell 1
        simp only [List.getElem?_toArray, List.getElem?_cons_zero, List.getElem?_cons_succ] at c0 c1 g0 g1
        have h9 := (ha0.set 0 (Value.int .i64 (loL ps))).set 1 (Value.int .i64 (hiL ps))
        go_wp2
        refine bodyPost_ret (v := .agg #[.int .i64 (loL ps), .int .i64 (hiL ps)]) ?_ rfl ⟨rfl, (hb.setCell (by simp) _).setCell (by simp) _⟩
        exact results_cell_row rfl _ _ w.heap.size 41 #[.int .i64 (loL ps), .int .i64 (hiL ps)] (0, 0) _ rfl h9 Try.underlying41 rfl (by kernel_rfl)
end Go.Proofs.Ytolpecacibmkjaa
