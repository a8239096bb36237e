/- A tensor by a table; a tensor, each number as another one. No condition. -/
import Derived.Test.YtolpecacibmkjaaActT
namespace Go.Proofs.Ytolpecacibmkjaa
open Go.RowKit

theorem tabR_get (f : Nat → Int) (k : Nat) (h : k < 256) : (tabR f 256)[k]? = some [i8 (f k)] := by
  unfold tabR; rw [List.getElem?_map, List.getElem?_range h]; simp [h]
/-- Numbers by a table. -/
def byL (f : Nat → Int) (l : List Int) : List Int := l.map fun v => f (v + 128).toNat
set_option maxRecDepth 100000 in
set_option maxHeartbeats 1000000 in
theorem actBy_n (T : Ten) (ok : T.Ok) (f : Nat → Int) (hr : tenRight T = false) : VC Try.prog 44 ([ten .i8 T, tabA f]) (AV.tup
  [AV.agg
      [AV.lit (Value.int IntKind.i64 0), AV.lit (Value.int IntKind.i64 0), AV.lit (Value.int IntKind.i64 0),
        AV.lit (Value.slice none 0 0)],
    AV.lit (Value.int IntKind.i64 5)]) := by
  refine VC.run (fn := Try.f44) Try.func44 (W := [.r [] [], .r [] [PI.callr (bv (tenRight T))], .br true, .r [] []])
    (ob := [VC Try.prog 57
  [AV.agg
      [AV.lit (Value.int IntKind.i64 T.h), AV.lit (Value.int IntKind.i64 T.x), AV.lit (Value.int IntKind.i64 T.c),
        AV.sl 1 (List.map (row1 IntKind.i8) T.d)]]
  (AV.lit (Value.bool (tenRight T))),
    (!tenRight T) = true]) (by kernel_rfl) ?_
  refine ⟨?_, ?_, trivial⟩
  all_goals (first | with_reducible assumption | with_reducible exact tRight_v T ok | (rw [hr]; rfl) | rfl | with_reducible exact WeakL.refl _ | with_reducible exact Weak.refl _ | exact IntWalk.i64_in _ (by omega) | exact IntWalk.i32_in _ (by omega) | exact IntWalk.i8_in _ (by omega) | exact decide_eq_true (by omega) | exact decide_eq_false (by omega) | exact row_get (by assumption) | omega | (simp only [beq_iff_eq, bne_iff_ne, ne_eq, beq_eq_false_iff_ne, bne_eq_false_iff_eq]; omega))

noncomputable def by_S (T : Ten) (f : Nat → Int) : VS := headF Try.prog Try.f44 ([ten .i8 T, tabA f]) ([.r [] [], .r [] [PI.callr (bv (tenRight T))], .br false, .r [] [PI.nats T.d.length T.d.length], .r [] []])
/-- Rows that are filled from the beginning. -/
def upTo (A : List Int) (k : Nat) : List (List AV) := (A.take k ++ List.replicate (A.length - k) 0).map (row1 .i8)
theorem upTo_len (A : List Int) (k : Nat) (h : k ≤ A.length) : (upTo A k).length = A.length := by simp [upTo]; omega
theorem upTo_zero (A : List Int) : upTo A 0 = List.replicate A.length [i8 0] := by simp [upTo]
theorem upTo_all (A : List Int) : upTo A A.length = A.map (row1 .i8) := by simp [upTo]
theorem upTo_set (A : List Int) (k : Nat) (x : Int) (h : A[k]? = some x) : (upTo A k).set k [i8 x] = upTo A (k + 1) := by
  obtain ⟨hk, he⟩ := List.getElem?_eq_some_iff.1 h
  unfold upTo
  apply List.ext_getElem?
  intro i
  simp only [List.getElem?_set, List.getElem?_map, List.getElem?_append, List.length_map, List.length_append, List.length_take, List.length_replicate, List.getElem?_take, List.getElem?_replicate]
  by_cases hik : k = i
  · subst hik
    rw [if_pos rfl, if_pos (by omega), if_pos (by omega), if_pos (by omega), h]; rfl
  · rw [if_neg hik]
    by_cases h1 : i < k
    · rw [if_pos (by omega), if_pos h1, if_pos (by omega), if_pos (by omega)]
    · rw [if_neg (by omega)]
      by_cases h2 : i < A.length
      · rw [if_pos (by omega), if_neg (by omega), if_pos (by omega)]
      · rw [if_neg (by omega), if_neg (by omega), if_neg (by omega)]
theorem byL_get {f : Nat → Int} {l : List Int} {k : Nat} {v : Int} (h : l[k]? = some v) : (byL f l)[k]? = some (f (v + 128).toNat) := by simp [byL, h]
theorem byL_len (f : Nat → Int) (l : List Int) : (byL f l).length = l.length := by simp [byL]
noncomputable def byI (T : Ten) (f : Nat → Int) (k : Nat) (r : List (List AV)) : VS := ((by_S T f).unk (junk (fnC Try.f44 [1, 1, 1, 0, 1, 0, 0]) [23])).turn [(23, i64 k)] [(18, .slc 26 1 r)]
set_option maxRecDepth 100000 in
set_option maxHeartbeats 1000000 in
theorem by_step (T : Ten) (f : Nat → Int) (k : Nat) (v : Int) (hl : T.d.length ≤ 1000000) (hk : k < T.d.length) (hv : T.d[k]? = some v) (h8 : In8 v) (hv0 : 0 ≤ v + 128) (hv1 : v + 128 < 256) : VT Try.prog (fnC Try.f44 [1, 1, 1, 0, 1, 0, 0]) (byI T f k (upTo (byL f T.d) k)) (.normal) (byI T f (k + 1) ((upTo (byL f T.d) k).set k [i8 (f (v + 128).toNat)])) := by
  refine VT.run (W := [.r [] [], .br true, .r [] [PI.row
   [i8 v]], .r [] [PI.n v, PI.n (v + 128), PI.row [i8 (f (v + 128).toNat)], PI.nat 0], .r [] [PI.n ((↑k : Int) + 1)]]) (G := [.any (junk (fnC Try.f44 [1, 1, 1, 0, 1, 0, 0]) [23])])
    (ob := [decide ((↑k : Int) < (↑(List.map (row1 IntKind.i8) T.d).length : Int)) = true,
    0 ≤ (↑k : Int),
    (List.map (row1 IntKind.i8) T.d)[(↑k : Int).toNat]? = some [i8 v],
    IntKind.i64.wrap v = v,
    IntKind.i64.wrap (v + 128) = v + 128,
    0 ≤ v + 128,
    v + 128 < (↑256 : Int),
    [[AV.lit (Value.int IntKind.i8 (f 0))], [AV.lit (Value.int IntKind.i8 (f 1))],
      [AV.lit (Value.int IntKind.i8 (f 2))], [AV.lit (Value.int IntKind.i8 (f 3))],
      [AV.lit (Value.int IntKind.i8 (f 4))], [AV.lit (Value.int IntKind.i8 (f 5))],
      [AV.lit (Value.int IntKind.i8 (f 6))], [AV.lit (Value.int IntKind.i8 (f 7))],
      [AV.lit (Value.int IntKind.i8 (f 8))], [AV.lit (Value.int IntKind.i8 (f 9))],
      [AV.lit (Value.int IntKind.i8 (f 10))], [AV.lit (Value.int IntKind.i8 (f 11))],
      [AV.lit (Value.int IntKind.i8 (f 12))], [AV.lit (Value.int IntKind.i8 (f 13))],
      [AV.lit (Value.int IntKind.i8 (f 14))], [AV.lit (Value.int IntKind.i8 (f 15))],
      [AV.lit (Value.int IntKind.i8 (f 16))], [AV.lit (Value.int IntKind.i8 (f 17))],
      [AV.lit (Value.int IntKind.i8 (f 18))], [AV.lit (Value.int IntKind.i8 (f 19))],
      [AV.lit (Value.int IntKind.i8 (f 20))], [AV.lit (Value.int IntKind.i8 (f 21))],
      [AV.lit (Value.int IntKind.i8 (f 22))], [AV.lit (Value.int IntKind.i8 (f 23))],
      [AV.lit (Value.int IntKind.i8 (f 24))], [AV.lit (Value.int IntKind.i8 (f 25))],
      [AV.lit (Value.int IntKind.i8 (f 26))], [AV.lit (Value.int IntKind.i8 (f 27))],
      [AV.lit (Value.int IntKind.i8 (f 28))], [AV.lit (Value.int IntKind.i8 (f 29))],
      [AV.lit (Value.int IntKind.i8 (f 30))], [AV.lit (Value.int IntKind.i8 (f 31))],
      [AV.lit (Value.int IntKind.i8 (f 32))], [AV.lit (Value.int IntKind.i8 (f 33))],
      [AV.lit (Value.int IntKind.i8 (f 34))], [AV.lit (Value.int IntKind.i8 (f 35))],
      [AV.lit (Value.int IntKind.i8 (f 36))], [AV.lit (Value.int IntKind.i8 (f 37))],
      [AV.lit (Value.int IntKind.i8 (f 38))], [AV.lit (Value.int IntKind.i8 (f 39))],
      [AV.lit (Value.int IntKind.i8 (f 40))], [AV.lit (Value.int IntKind.i8 (f 41))],
      [AV.lit (Value.int IntKind.i8 (f 42))], [AV.lit (Value.int IntKind.i8 (f 43))],
      [AV.lit (Value.int IntKind.i8 (f 44))], [AV.lit (Value.int IntKind.i8 (f 45))],
      [AV.lit (Value.int IntKind.i8 (f 46))], [AV.lit (Value.int IntKind.i8 (f 47))],
      [AV.lit (Value.int IntKind.i8 (f 48))], [AV.lit (Value.int IntKind.i8 (f 49))],
      [AV.lit (Value.int IntKind.i8 (f 50))], [AV.lit (Value.int IntKind.i8 (f 51))],
      [AV.lit (Value.int IntKind.i8 (f 52))], [AV.lit (Value.int IntKind.i8 (f 53))],
      [AV.lit (Value.int IntKind.i8 (f 54))], [AV.lit (Value.int IntKind.i8 (f 55))],
      [AV.lit (Value.int IntKind.i8 (f 56))], [AV.lit (Value.int IntKind.i8 (f 57))],
      [AV.lit (Value.int IntKind.i8 (f 58))], [AV.lit (Value.int IntKind.i8 (f 59))],
      [AV.lit (Value.int IntKind.i8 (f 60))], [AV.lit (Value.int IntKind.i8 (f 61))],
      [AV.lit (Value.int IntKind.i8 (f 62))], [AV.lit (Value.int IntKind.i8 (f 63))],
      [AV.lit (Value.int IntKind.i8 (f 64))], [AV.lit (Value.int IntKind.i8 (f 65))],
      [AV.lit (Value.int IntKind.i8 (f 66))], [AV.lit (Value.int IntKind.i8 (f 67))],
      [AV.lit (Value.int IntKind.i8 (f 68))], [AV.lit (Value.int IntKind.i8 (f 69))],
      [AV.lit (Value.int IntKind.i8 (f 70))], [AV.lit (Value.int IntKind.i8 (f 71))],
      [AV.lit (Value.int IntKind.i8 (f 72))], [AV.lit (Value.int IntKind.i8 (f 73))],
      [AV.lit (Value.int IntKind.i8 (f 74))], [AV.lit (Value.int IntKind.i8 (f 75))],
      [AV.lit (Value.int IntKind.i8 (f 76))], [AV.lit (Value.int IntKind.i8 (f 77))],
      [AV.lit (Value.int IntKind.i8 (f 78))], [AV.lit (Value.int IntKind.i8 (f 79))],
      [AV.lit (Value.int IntKind.i8 (f 80))], [AV.lit (Value.int IntKind.i8 (f 81))],
      [AV.lit (Value.int IntKind.i8 (f 82))], [AV.lit (Value.int IntKind.i8 (f 83))],
      [AV.lit (Value.int IntKind.i8 (f 84))], [AV.lit (Value.int IntKind.i8 (f 85))],
      [AV.lit (Value.int IntKind.i8 (f 86))], [AV.lit (Value.int IntKind.i8 (f 87))],
      [AV.lit (Value.int IntKind.i8 (f 88))], [AV.lit (Value.int IntKind.i8 (f 89))],
      [AV.lit (Value.int IntKind.i8 (f 90))], [AV.lit (Value.int IntKind.i8 (f 91))],
      [AV.lit (Value.int IntKind.i8 (f 92))], [AV.lit (Value.int IntKind.i8 (f 93))],
      [AV.lit (Value.int IntKind.i8 (f 94))], [AV.lit (Value.int IntKind.i8 (f 95))],
      [AV.lit (Value.int IntKind.i8 (f 96))], [AV.lit (Value.int IntKind.i8 (f 97))],
      [AV.lit (Value.int IntKind.i8 (f 98))], [AV.lit (Value.int IntKind.i8 (f 99))],
      [AV.lit (Value.int IntKind.i8 (f 100))], [AV.lit (Value.int IntKind.i8 (f 101))],
      [AV.lit (Value.int IntKind.i8 (f 102))], [AV.lit (Value.int IntKind.i8 (f 103))],
      [AV.lit (Value.int IntKind.i8 (f 104))], [AV.lit (Value.int IntKind.i8 (f 105))],
      [AV.lit (Value.int IntKind.i8 (f 106))], [AV.lit (Value.int IntKind.i8 (f 107))],
      [AV.lit (Value.int IntKind.i8 (f 108))], [AV.lit (Value.int IntKind.i8 (f 109))],
      [AV.lit (Value.int IntKind.i8 (f 110))], [AV.lit (Value.int IntKind.i8 (f 111))],
      [AV.lit (Value.int IntKind.i8 (f 112))], [AV.lit (Value.int IntKind.i8 (f 113))],
      [AV.lit (Value.int IntKind.i8 (f 114))], [AV.lit (Value.int IntKind.i8 (f 115))],
      [AV.lit (Value.int IntKind.i8 (f 116))], [AV.lit (Value.int IntKind.i8 (f 117))],
      [AV.lit (Value.int IntKind.i8 (f 118))], [AV.lit (Value.int IntKind.i8 (f 119))],
      [AV.lit (Value.int IntKind.i8 (f 120))], [AV.lit (Value.int IntKind.i8 (f 121))],
      [AV.lit (Value.int IntKind.i8 (f 122))], [AV.lit (Value.int IntKind.i8 (f 123))],
      [AV.lit (Value.int IntKind.i8 (f 124))], [AV.lit (Value.int IntKind.i8 (f 125))],
      [AV.lit (Value.int IntKind.i8 (f 126))], [AV.lit (Value.int IntKind.i8 (f 127))],
      [AV.lit (Value.int IntKind.i8 (f 128))], [AV.lit (Value.int IntKind.i8 (f 129))],
      [AV.lit (Value.int IntKind.i8 (f 130))], [AV.lit (Value.int IntKind.i8 (f 131))],
      [AV.lit (Value.int IntKind.i8 (f 132))], [AV.lit (Value.int IntKind.i8 (f 133))],
      [AV.lit (Value.int IntKind.i8 (f 134))], [AV.lit (Value.int IntKind.i8 (f 135))],
      [AV.lit (Value.int IntKind.i8 (f 136))], [AV.lit (Value.int IntKind.i8 (f 137))],
      [AV.lit (Value.int IntKind.i8 (f 138))], [AV.lit (Value.int IntKind.i8 (f 139))],
      [AV.lit (Value.int IntKind.i8 (f 140))], [AV.lit (Value.int IntKind.i8 (f 141))],
      [AV.lit (Value.int IntKind.i8 (f 142))], [AV.lit (Value.int IntKind.i8 (f 143))],
      [AV.lit (Value.int IntKind.i8 (f 144))], [AV.lit (Value.int IntKind.i8 (f 145))],
      [AV.lit (Value.int IntKind.i8 (f 146))], [AV.lit (Value.int IntKind.i8 (f 147))],
      [AV.lit (Value.int IntKind.i8 (f 148))], [AV.lit (Value.int IntKind.i8 (f 149))],
      [AV.lit (Value.int IntKind.i8 (f 150))], [AV.lit (Value.int IntKind.i8 (f 151))],
      [AV.lit (Value.int IntKind.i8 (f 152))], [AV.lit (Value.int IntKind.i8 (f 153))],
      [AV.lit (Value.int IntKind.i8 (f 154))], [AV.lit (Value.int IntKind.i8 (f 155))],
      [AV.lit (Value.int IntKind.i8 (f 156))], [AV.lit (Value.int IntKind.i8 (f 157))],
      [AV.lit (Value.int IntKind.i8 (f 158))], [AV.lit (Value.int IntKind.i8 (f 159))],
      [AV.lit (Value.int IntKind.i8 (f 160))], [AV.lit (Value.int IntKind.i8 (f 161))],
      [AV.lit (Value.int IntKind.i8 (f 162))], [AV.lit (Value.int IntKind.i8 (f 163))],
      [AV.lit (Value.int IntKind.i8 (f 164))], [AV.lit (Value.int IntKind.i8 (f 165))],
      [AV.lit (Value.int IntKind.i8 (f 166))], [AV.lit (Value.int IntKind.i8 (f 167))],
      [AV.lit (Value.int IntKind.i8 (f 168))], [AV.lit (Value.int IntKind.i8 (f 169))],
      [AV.lit (Value.int IntKind.i8 (f 170))], [AV.lit (Value.int IntKind.i8 (f 171))],
      [AV.lit (Value.int IntKind.i8 (f 172))], [AV.lit (Value.int IntKind.i8 (f 173))],
      [AV.lit (Value.int IntKind.i8 (f 174))], [AV.lit (Value.int IntKind.i8 (f 175))],
      [AV.lit (Value.int IntKind.i8 (f 176))], [AV.lit (Value.int IntKind.i8 (f 177))],
      [AV.lit (Value.int IntKind.i8 (f 178))], [AV.lit (Value.int IntKind.i8 (f 179))],
      [AV.lit (Value.int IntKind.i8 (f 180))], [AV.lit (Value.int IntKind.i8 (f 181))],
      [AV.lit (Value.int IntKind.i8 (f 182))], [AV.lit (Value.int IntKind.i8 (f 183))],
      [AV.lit (Value.int IntKind.i8 (f 184))], [AV.lit (Value.int IntKind.i8 (f 185))],
      [AV.lit (Value.int IntKind.i8 (f 186))], [AV.lit (Value.int IntKind.i8 (f 187))],
      [AV.lit (Value.int IntKind.i8 (f 188))], [AV.lit (Value.int IntKind.i8 (f 189))],
      [AV.lit (Value.int IntKind.i8 (f 190))], [AV.lit (Value.int IntKind.i8 (f 191))],
      [AV.lit (Value.int IntKind.i8 (f 192))], [AV.lit (Value.int IntKind.i8 (f 193))],
      [AV.lit (Value.int IntKind.i8 (f 194))], [AV.lit (Value.int IntKind.i8 (f 195))],
      [AV.lit (Value.int IntKind.i8 (f 196))], [AV.lit (Value.int IntKind.i8 (f 197))],
      [AV.lit (Value.int IntKind.i8 (f 198))], [AV.lit (Value.int IntKind.i8 (f 199))],
      [AV.lit (Value.int IntKind.i8 (f 200))], [AV.lit (Value.int IntKind.i8 (f 201))],
      [AV.lit (Value.int IntKind.i8 (f 202))], [AV.lit (Value.int IntKind.i8 (f 203))],
      [AV.lit (Value.int IntKind.i8 (f 204))], [AV.lit (Value.int IntKind.i8 (f 205))],
      [AV.lit (Value.int IntKind.i8 (f 206))], [AV.lit (Value.int IntKind.i8 (f 207))],
      [AV.lit (Value.int IntKind.i8 (f 208))], [AV.lit (Value.int IntKind.i8 (f 209))],
      [AV.lit (Value.int IntKind.i8 (f 210))], [AV.lit (Value.int IntKind.i8 (f 211))],
      [AV.lit (Value.int IntKind.i8 (f 212))], [AV.lit (Value.int IntKind.i8 (f 213))],
      [AV.lit (Value.int IntKind.i8 (f 214))], [AV.lit (Value.int IntKind.i8 (f 215))],
      [AV.lit (Value.int IntKind.i8 (f 216))], [AV.lit (Value.int IntKind.i8 (f 217))],
      [AV.lit (Value.int IntKind.i8 (f 218))], [AV.lit (Value.int IntKind.i8 (f 219))],
      [AV.lit (Value.int IntKind.i8 (f 220))], [AV.lit (Value.int IntKind.i8 (f 221))],
      [AV.lit (Value.int IntKind.i8 (f 222))], [AV.lit (Value.int IntKind.i8 (f 223))],
      [AV.lit (Value.int IntKind.i8 (f 224))], [AV.lit (Value.int IntKind.i8 (f 225))],
      [AV.lit (Value.int IntKind.i8 (f 226))], [AV.lit (Value.int IntKind.i8 (f 227))],
      [AV.lit (Value.int IntKind.i8 (f 228))], [AV.lit (Value.int IntKind.i8 (f 229))],
      [AV.lit (Value.int IntKind.i8 (f 230))], [AV.lit (Value.int IntKind.i8 (f 231))],
      [AV.lit (Value.int IntKind.i8 (f 232))], [AV.lit (Value.int IntKind.i8 (f 233))],
      [AV.lit (Value.int IntKind.i8 (f 234))], [AV.lit (Value.int IntKind.i8 (f 235))],
      [AV.lit (Value.int IntKind.i8 (f 236))], [AV.lit (Value.int IntKind.i8 (f 237))],
      [AV.lit (Value.int IntKind.i8 (f 238))], [AV.lit (Value.int IntKind.i8 (f 239))],
      [AV.lit (Value.int IntKind.i8 (f 240))], [AV.lit (Value.int IntKind.i8 (f 241))],
      [AV.lit (Value.int IntKind.i8 (f 242))], [AV.lit (Value.int IntKind.i8 (f 243))],
      [AV.lit (Value.int IntKind.i8 (f 244))], [AV.lit (Value.int IntKind.i8 (f 245))],
      [AV.lit (Value.int IntKind.i8 (f 246))], [AV.lit (Value.int IntKind.i8 (f 247))],
      [AV.lit (Value.int IntKind.i8 (f 248))], [AV.lit (Value.int IntKind.i8 (f 249))],
      [AV.lit (Value.int IntKind.i8 (f 250))], [AV.lit (Value.int IntKind.i8 (f 251))],
      [AV.lit (Value.int IntKind.i8 (f 252))], [AV.lit (Value.int IntKind.i8 (f 253))],
      [AV.lit (Value.int IntKind.i8 (f 254))], [AV.lit (Value.int IntKind.i8 (f 255))]][(v + 128).toNat]? =
  some [i8 (f (v + 128).toNat)],
    0 ≤ (↑k : Int),
    (↑k : Int) < (↑(upTo (byL f T.d) k).length : Int),
    (↑k : Int).toNat < (upTo (byL f T.d) k).length,
    IntKind.i64.wrap ((↑k : Int) + 1) = (↑k : Int) + 1]) (by kernel_rfl) ?_
  refine ⟨?_, ?_, ?_, ?_, ?_, ?_, ?_, ?_, ?_, ?_, ?_, ?_, trivial⟩
  all_goals (first | with_reducible assumption | (exact row_get hv) | (exact decide_eq_true (by simp; omega)) | (refine Eq.trans (b := (tabR f 256)[(v + 128).toNat]?) (by kernel_rfl) (tabR_get f _ (by omega))) | (rw [upTo_len _ _ (by rw [byL_len]; omega), byL_len]; simp; omega) | rfl | with_reducible exact WeakL.refl _ | with_reducible exact Weak.refl _ | exact IntWalk.i64_in _ (by omega) | exact IntWalk.i32_in _ (by omega) | exact IntWalk.i8_in _ (by omega) | exact decide_eq_true (by omega) | exact decide_eq_false (by omega) | exact row_get (by assumption) | omega | (simp only [beq_iff_eq, bne_iff_ne, ne_eq, beq_eq_false_iff_ne, bne_eq_false_iff_eq]; omega))

set_option maxRecDepth 100000 in
set_option maxHeartbeats 1000000 in
theorem by_end (T : Ten) (f : Nat → Int) : VT Try.prog (fnC Try.f44 [1, 1, 1, 0, 1, 0, 0]) (byI T f T.d.length (upTo (byL f T.d) T.d.length)) (.exit 0) (byI T f T.d.length (upTo (byL f T.d) T.d.length)) := by
  refine VT.run (W := [.r [] [], .br false]) (G := [.any [24]])
    (ob := [decide ((↑T.d.length : Int) < (↑(List.map (row1 IntKind.i8) T.d).length : Int)) = false]) (by kernel_rfl) ?_
  refine ⟨?_, trivial⟩
  all_goals (first | with_reducible assumption | (exact decide_eq_false (by simp)) | rfl | with_reducible exact WeakL.refl _ | with_reducible exact Weak.refl _ | exact IntWalk.i64_in _ (by omega) | exact IntWalk.i32_in _ (by omega) | exact IntWalk.i8_in _ (by omega) | exact decide_eq_true (by omega) | exact decide_eq_false (by omega) | exact row_get (by assumption) | omega | (simp only [beq_iff_eq, bne_iff_ne, ne_eq, beq_eq_false_iff_ne, bne_eq_false_iff_eq]; omega))
theorem by_loop (T : Ten) (ok : T.Ok) (f : Nat → Int) (hl : T.d.length ≤ 1000000) : VT Try.prog (fnC Try.f44 [1, 1, 1, 0, 1, 0]) (byI T f 0 (List.replicate T.d.length [i8 0])) (.exit 0) (byI T f T.d.length ((byL f T.d).map (row1 .i8))) := by
  refine (VT.loop (fun k => byI T f k (upTo (byL f T.d) k)) T.d.length (fun k hk => ?_) (by_end T f) (by intro h; cases h)).cast (by rw [upTo_zero, byL_len]) (by rw [← byL_len f T.d, upTo_all])
  have hv := List.getElem?_eq_getElem hk
  have h8 := ok.d _ (List.getElem_mem hk)
  exact (by_step T f k _ hl hk hv h8 (by have := h8.1; omega) (by have := h8.2; omega)).cast rfl (by rw [upTo_set _ _ _ (byL_get hv)])
set_option maxRecDepth 100000 in
set_option maxHeartbeats 1000000 in
theorem actBy_y (T : Ten) (ok : T.Ok) (f : Nat → Int) (hl : T.d.length ≤ 1000000) (hr : tenRight T = true) : VC Try.prog 44 ([ten .i8 T, tabA f]) (.tup [ten .i8 ⟨T.h, T.x, T.c, byL f T.d⟩, i64 0]) := by
  refine VC.run (fn := Try.f44) Try.func44 (W := [.r [] [], .r [] [PI.callr
   (bv
     (tenRight
       T))], .br false, .r [] [PI.nats T.d.length
   T.d.length], .r [] [], .code [GI.any
    (junk (fnC Try.f44 [1, 1, 1, 0, 1, 0, 0])
      [23])] (Exit.exit 0) (byI T f T.d.length (List.map (row1 IntKind.i8) (byL f T.d))), .r [] []])
    (ob := [VC Try.prog 57
  [AV.agg
      [AV.lit (Value.int IntKind.i64 T.h), AV.lit (Value.int IntKind.i64 T.x), AV.lit (Value.int IntKind.i64 T.c),
        AV.sl 1 (List.map (row1 IntKind.i8) T.d)]]
  (AV.lit (Value.bool (tenRight T))),
    (!tenRight T) = false,
    (↑(List.map (row1 IntKind.i8) T.d).length : Int) = (↑T.d.length : Int),
    (↑(List.map (row1 IntKind.i8) T.d).length : Int) = (↑T.d.length : Int),
    T.d.length ≤ T.d.length,
    1 * T.d.length ≤ 281474976710656,
    T.d.length ≤ 9223372036854775807,
    VT Try.prog (fnC Try.f44 [1, 1, 1, 0, 1, 0]) (byI T f 0 (List.replicate T.d.length [i8 0])) (Exit.exit 0)
  (byI T f T.d.length (List.map (row1 IntKind.i8) (byL f T.d)))]) (by kernel_rfl) ?_
  refine ⟨?_, ?_, ?_, ?_, ?_, ?_, ?_, ?_, trivial⟩
  all_goals (first | with_reducible assumption | with_reducible exact tRight_v T ok | with_reducible exact by_loop T ok f hl | (rw [hr]; rfl) | (simp only [List.length_map]; done) | with_reducible exact Nat.le_refl _ | rfl | with_reducible exact WeakL.refl _ | with_reducible exact Weak.refl _ | exact IntWalk.i64_in _ (by omega) | exact IntWalk.i32_in _ (by omega) | exact IntWalk.i8_in _ (by omega) | exact decide_eq_true (by omega) | exact decide_eq_false (by omega) | exact row_get (by assumption) | omega | (simp only [beq_iff_eq, bne_iff_ne, ne_eq, beq_eq_false_iff_ne, bne_eq_false_iff_eq]; omega))
/-- A tensor, each number as another one, or why it can't be. -/
def ofT (T : Ten) (n : Nod) : Ten × Int := if tenRight T = false then (⟨0, 0, 0, []⟩, 5) else if rightQ n.qm n.qs = false then (⟨0, 0, 0, []⟩, 7) else (⟨T.h, T.x, T.c, T.d.map fun v => oneN v n⟩, 0)
theorem tnone_w (k : IntKind) : Weak tnone (ten k ⟨0, 0, 0, []⟩) := Weak.agg (.cons (.refl _) (.cons (.refl _) (.cons (.refl _) (.cons (.nil 1) .nil))))
theorem tnone_r (k : IntKind) (e : Int) : Weak (.tup [tnone, i64 e]) (.tup [ten k ⟨0, 0, 0, []⟩, i64 e]) := Weak.tup (.cons (tnone_w k) (.cons (.refl _) .nil))
theorem byL_one (T : Ten) (ok : T.Ok) (n : Nod) : byL (oneT n) T.d = T.d.map fun v => oneN v n := by
  unfold byL
  apply List.map_congr_left
  intro v hv
  have h8 := ok.d v hv
  have h1 := h8.1
  unfold oneT
  rw [Int.toNat_of_nonneg (by omega)]; congr 1; omega
end Go.Proofs.Ytolpecacibmkjaa

