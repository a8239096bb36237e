/- What becomes of each number, as a table. No condition. -/
import Derived.Test.YtolpecacibmkjaaAct
namespace Go.Proofs.Ytolpecacibmkjaa
open Go.RowKit

def oneT (n : Nod) (i : Nat) : Int := oneN ((i : Int) - 128) n
def tabR (f : Nat → Int) (k : Nat) : List (List AV) := (List.range 256).map fun i => [i8 (if i < k then f i else 0)]
abbrev tabA (f : Nat → Int) : AV := .agg ((List.range 256).map fun i => i8 (f i))
theorem tabR_set (f : Nat → Int) (k : Nat) : (tabR f k).set k [i8 (f k)] = tabR f (k + 1) := by
  unfold tabR
  apply List.ext_getElem?
  intro i
  rw [List.getElem?_set]
  simp only [List.getElem?_map, List.length_map, List.length_range]
  by_cases hi : i < 256
  · rw [List.getElem?_range hi]
    by_cases hk : k = i
    · subst hk; simp [hi]
    · rw [if_neg hk]
      have : (i < k) = (i < k + 1) := by apply propext; omega
      simp only [Option.map_some, this]
  · rw [List.getElem?_eq_none (by simpa using hi)]
    by_cases hk : k = i
    · subst hk; simp [hi]
    · simp [hk]
noncomputable def tab_S (n : Nod) : VS := headF Try.prog Try.f41 ([nod n]) ([.r [] [], .r [] [], .r [] [PI.callr (bv (rightQ n.qm n.qs))], .br false, .r [] []])
noncomputable def tabI (n : Nod) (k : Nat) (r : List (List AV)) : VS := ((tab_S n).unk (junk (fnC Try.f41 [1, 1, 1, 0, 1, 0, 0]) [11])).turn [(11, i64 k)] [(4, .slc 74 1 r)]
theorem tab_lt {f : Nat → Int} {k : Nat} (h : k < 256) : k < (tabR f k).length := by simp [tabR]; omega
set_option maxRecDepth 100000 in
set_option maxHeartbeats 1000000 in
theorem tab_step (n : Nod) (ok : n.Ok) (k : Nat) (hk : k < 256) : VT Try.prog (fnC Try.f41 [1, 1, 1, 0, 1, 0, 0]) (tabI n k (tabR (oneT n) k)) (.normal) (tabI n (k + 1) ((tabR (oneT n) k).set k [i8 (oneT n k)])) := by
  refine VT.run (W := [.r [] [], .br true, .r [] [], .r [] [PI.n ((↑k : Int) - 128),
 PI.n ((↑k : Int) - 128),
 PI.callr (i8 (oneT n k)),
 PI.nat 0], .r [] [PI.n ((↑k : Int) + 1)]]) (G := [.any (junk (fnC Try.f41 [1, 1, 1, 0, 1, 0, 0]) [11])])
    (ob := [decide ((↑k : Int) < 256) = true,
    IntKind.i64.wrap ((↑k : Int) - 128) = (↑k : Int) - 128,
    IntKind.i8.wrap ((↑k : Int) - 128) = (↑k : Int) - 128,
    VC Try.prog 43
  [AV.lit (Value.int IntKind.i8 ((↑k : Int) - 128)),
    AV.agg
      [AV.lit (Value.int IntKind.i64 n.kd), AV.lit (Value.int IntKind.i64 n.na), AV.lit (Value.int IntKind.i64 n.nb),
        AV.lit (Value.int IntKind.i64 n.nk), AV.lit (Value.int IntKind.i64 n.ns), AV.lit (Value.int IntKind.i64 n.np),
        AV.lit (Value.int IntKind.i64 n.no), AV.lit (Value.int IntKind.i8 n.za), AV.lit (Value.int IntKind.i8 n.zb),
        AV.sl 1 (List.map (row1 IntKind.i8) n.w), AV.sl 1 (List.map (row1 IntKind.i32) n.b),
        AV.lit (Value.int IntKind.i32 n.qm), AV.lit (Value.int IntKind.i64 n.qs), AV.lit (Value.int IntKind.i8 n.qz),
        AV.lit (Value.int IntKind.i32 n.rm), AV.lit (Value.int IntKind.i64 n.rs), AV.lit (Value.int IntKind.i8 n.rz),
        AV.lit (Value.int IntKind.i8 n.lo), AV.lit (Value.int IntKind.i8 n.hi)]]
  (AV.lit (Value.int IntKind.i8 (oneT n k))),
    0 ≤ (↑k : Int),
    (↑k : Int) < (↑256 : Int),
    (↑k : Int).toNat <
  [[AV.lit (Value.int IntKind.i8 (if 0 < k then oneT n 0 else 0))],
      [AV.lit (Value.int IntKind.i8 (if 1 < k then oneT n 1 else 0))],
      [AV.lit (Value.int IntKind.i8 (if 2 < k then oneT n 2 else 0))],
      [AV.lit (Value.int IntKind.i8 (if 3 < k then oneT n 3 else 0))],
      [AV.lit (Value.int IntKind.i8 (if 4 < k then oneT n 4 else 0))],
      [AV.lit (Value.int IntKind.i8 (if 5 < k then oneT n 5 else 0))],
      [AV.lit (Value.int IntKind.i8 (if 6 < k then oneT n 6 else 0))],
      [AV.lit (Value.int IntKind.i8 (if 7 < k then oneT n 7 else 0))],
      [AV.lit (Value.int IntKind.i8 (if 8 < k then oneT n 8 else 0))],
      [AV.lit (Value.int IntKind.i8 (if 9 < k then oneT n 9 else 0))],
      [AV.lit (Value.int IntKind.i8 (if 10 < k then oneT n 10 else 0))],
      [AV.lit (Value.int IntKind.i8 (if 11 < k then oneT n 11 else 0))],
      [AV.lit (Value.int IntKind.i8 (if 12 < k then oneT n 12 else 0))],
      [AV.lit (Value.int IntKind.i8 (if 13 < k then oneT n 13 else 0))],
      [AV.lit (Value.int IntKind.i8 (if 14 < k then oneT n 14 else 0))],
      [AV.lit (Value.int IntKind.i8 (if 15 < k then oneT n 15 else 0))],
      [AV.lit (Value.int IntKind.i8 (if 16 < k then oneT n 16 else 0))],
      [AV.lit (Value.int IntKind.i8 (if 17 < k then oneT n 17 else 0))],
      [AV.lit (Value.int IntKind.i8 (if 18 < k then oneT n 18 else 0))],
      [AV.lit (Value.int IntKind.i8 (if 19 < k then oneT n 19 else 0))],
      [AV.lit (Value.int IntKind.i8 (if 20 < k then oneT n 20 else 0))],
      [AV.lit (Value.int IntKind.i8 (if 21 < k then oneT n 21 else 0))],
      [AV.lit (Value.int IntKind.i8 (if 22 < k then oneT n 22 else 0))],
      [AV.lit (Value.int IntKind.i8 (if 23 < k then oneT n 23 else 0))],
      [AV.lit (Value.int IntKind.i8 (if 24 < k then oneT n 24 else 0))],
      [AV.lit (Value.int IntKind.i8 (if 25 < k then oneT n 25 else 0))],
      [AV.lit (Value.int IntKind.i8 (if 26 < k then oneT n 26 else 0))],
      [AV.lit (Value.int IntKind.i8 (if 27 < k then oneT n 27 else 0))],
      [AV.lit (Value.int IntKind.i8 (if 28 < k then oneT n 28 else 0))],
      [AV.lit (Value.int IntKind.i8 (if 29 < k then oneT n 29 else 0))],
      [AV.lit (Value.int IntKind.i8 (if 30 < k then oneT n 30 else 0))],
      [AV.lit (Value.int IntKind.i8 (if 31 < k then oneT n 31 else 0))],
      [AV.lit (Value.int IntKind.i8 (if 32 < k then oneT n 32 else 0))],
      [AV.lit (Value.int IntKind.i8 (if 33 < k then oneT n 33 else 0))],
      [AV.lit (Value.int IntKind.i8 (if 34 < k then oneT n 34 else 0))],
      [AV.lit (Value.int IntKind.i8 (if 35 < k then oneT n 35 else 0))],
      [AV.lit (Value.int IntKind.i8 (if 36 < k then oneT n 36 else 0))],
      [AV.lit (Value.int IntKind.i8 (if 37 < k then oneT n 37 else 0))],
      [AV.lit (Value.int IntKind.i8 (if 38 < k then oneT n 38 else 0))],
      [AV.lit (Value.int IntKind.i8 (if 39 < k then oneT n 39 else 0))],
      [AV.lit (Value.int IntKind.i8 (if 40 < k then oneT n 40 else 0))],
      [AV.lit (Value.int IntKind.i8 (if 41 < k then oneT n 41 else 0))],
      [AV.lit (Value.int IntKind.i8 (if 42 < k then oneT n 42 else 0))],
      [AV.lit (Value.int IntKind.i8 (if 43 < k then oneT n 43 else 0))],
      [AV.lit (Value.int IntKind.i8 (if 44 < k then oneT n 44 else 0))],
      [AV.lit (Value.int IntKind.i8 (if 45 < k then oneT n 45 else 0))],
      [AV.lit (Value.int IntKind.i8 (if 46 < k then oneT n 46 else 0))],
      [AV.lit (Value.int IntKind.i8 (if 47 < k then oneT n 47 else 0))],
      [AV.lit (Value.int IntKind.i8 (if 48 < k then oneT n 48 else 0))],
      [AV.lit (Value.int IntKind.i8 (if 49 < k then oneT n 49 else 0))],
      [AV.lit (Value.int IntKind.i8 (if 50 < k then oneT n 50 else 0))],
      [AV.lit (Value.int IntKind.i8 (if 51 < k then oneT n 51 else 0))],
      [AV.lit (Value.int IntKind.i8 (if 52 < k then oneT n 52 else 0))],
      [AV.lit (Value.int IntKind.i8 (if 53 < k then oneT n 53 else 0))],
      [AV.lit (Value.int IntKind.i8 (if 54 < k then oneT n 54 else 0))],
      [AV.lit (Value.int IntKind.i8 (if 55 < k then oneT n 55 else 0))],
      [AV.lit (Value.int IntKind.i8 (if 56 < k then oneT n 56 else 0))],
      [AV.lit (Value.int IntKind.i8 (if 57 < k then oneT n 57 else 0))],
      [AV.lit (Value.int IntKind.i8 (if 58 < k then oneT n 58 else 0))],
      [AV.lit (Value.int IntKind.i8 (if 59 < k then oneT n 59 else 0))],
      [AV.lit (Value.int IntKind.i8 (if 60 < k then oneT n 60 else 0))],
      [AV.lit (Value.int IntKind.i8 (if 61 < k then oneT n 61 else 0))],
      [AV.lit (Value.int IntKind.i8 (if 62 < k then oneT n 62 else 0))],
      [AV.lit (Value.int IntKind.i8 (if 63 < k then oneT n 63 else 0))],
      [AV.lit (Value.int IntKind.i8 (if 64 < k then oneT n 64 else 0))],
      [AV.lit (Value.int IntKind.i8 (if 65 < k then oneT n 65 else 0))],
      [AV.lit (Value.int IntKind.i8 (if 66 < k then oneT n 66 else 0))],
      [AV.lit (Value.int IntKind.i8 (if 67 < k then oneT n 67 else 0))],
      [AV.lit (Value.int IntKind.i8 (if 68 < k then oneT n 68 else 0))],
      [AV.lit (Value.int IntKind.i8 (if 69 < k then oneT n 69 else 0))],
      [AV.lit (Value.int IntKind.i8 (if 70 < k then oneT n 70 else 0))],
      [AV.lit (Value.int IntKind.i8 (if 71 < k then oneT n 71 else 0))],
      [AV.lit (Value.int IntKind.i8 (if 72 < k then oneT n 72 else 0))],
      [AV.lit (Value.int IntKind.i8 (if 73 < k then oneT n 73 else 0))],
      [AV.lit (Value.int IntKind.i8 (if 74 < k then oneT n 74 else 0))],
      [AV.lit (Value.int IntKind.i8 (if 75 < k then oneT n 75 else 0))],
      [AV.lit (Value.int IntKind.i8 (if 76 < k then oneT n 76 else 0))],
      [AV.lit (Value.int IntKind.i8 (if 77 < k then oneT n 77 else 0))],
      [AV.lit (Value.int IntKind.i8 (if 78 < k then oneT n 78 else 0))],
      [AV.lit (Value.int IntKind.i8 (if 79 < k then oneT n 79 else 0))],
      [AV.lit (Value.int IntKind.i8 (if 80 < k then oneT n 80 else 0))],
      [AV.lit (Value.int IntKind.i8 (if 81 < k then oneT n 81 else 0))],
      [AV.lit (Value.int IntKind.i8 (if 82 < k then oneT n 82 else 0))],
      [AV.lit (Value.int IntKind.i8 (if 83 < k then oneT n 83 else 0))],
      [AV.lit (Value.int IntKind.i8 (if 84 < k then oneT n 84 else 0))],
      [AV.lit (Value.int IntKind.i8 (if 85 < k then oneT n 85 else 0))],
      [AV.lit (Value.int IntKind.i8 (if 86 < k then oneT n 86 else 0))],
      [AV.lit (Value.int IntKind.i8 (if 87 < k then oneT n 87 else 0))],
      [AV.lit (Value.int IntKind.i8 (if 88 < k then oneT n 88 else 0))],
      [AV.lit (Value.int IntKind.i8 (if 89 < k then oneT n 89 else 0))],
      [AV.lit (Value.int IntKind.i8 (if 90 < k then oneT n 90 else 0))],
      [AV.lit (Value.int IntKind.i8 (if 91 < k then oneT n 91 else 0))],
      [AV.lit (Value.int IntKind.i8 (if 92 < k then oneT n 92 else 0))],
      [AV.lit (Value.int IntKind.i8 (if 93 < k then oneT n 93 else 0))],
      [AV.lit (Value.int IntKind.i8 (if 94 < k then oneT n 94 else 0))],
      [AV.lit (Value.int IntKind.i8 (if 95 < k then oneT n 95 else 0))],
      [AV.lit (Value.int IntKind.i8 (if 96 < k then oneT n 96 else 0))],
      [AV.lit (Value.int IntKind.i8 (if 97 < k then oneT n 97 else 0))],
      [AV.lit (Value.int IntKind.i8 (if 98 < k then oneT n 98 else 0))],
      [AV.lit (Value.int IntKind.i8 (if 99 < k then oneT n 99 else 0))],
      [AV.lit (Value.int IntKind.i8 (if 100 < k then oneT n 100 else 0))],
      [AV.lit (Value.int IntKind.i8 (if 101 < k then oneT n 101 else 0))],
      [AV.lit (Value.int IntKind.i8 (if 102 < k then oneT n 102 else 0))],
      [AV.lit (Value.int IntKind.i8 (if 103 < k then oneT n 103 else 0))],
      [AV.lit (Value.int IntKind.i8 (if 104 < k then oneT n 104 else 0))],
      [AV.lit (Value.int IntKind.i8 (if 105 < k then oneT n 105 else 0))],
      [AV.lit (Value.int IntKind.i8 (if 106 < k then oneT n 106 else 0))],
      [AV.lit (Value.int IntKind.i8 (if 107 < k then oneT n 107 else 0))],
      [AV.lit (Value.int IntKind.i8 (if 108 < k then oneT n 108 else 0))],
      [AV.lit (Value.int IntKind.i8 (if 109 < k then oneT n 109 else 0))],
      [AV.lit (Value.int IntKind.i8 (if 110 < k then oneT n 110 else 0))],
      [AV.lit (Value.int IntKind.i8 (if 111 < k then oneT n 111 else 0))],
      [AV.lit (Value.int IntKind.i8 (if 112 < k then oneT n 112 else 0))],
      [AV.lit (Value.int IntKind.i8 (if 113 < k then oneT n 113 else 0))],
      [AV.lit (Value.int IntKind.i8 (if 114 < k then oneT n 114 else 0))],
      [AV.lit (Value.int IntKind.i8 (if 115 < k then oneT n 115 else 0))],
      [AV.lit (Value.int IntKind.i8 (if 116 < k then oneT n 116 else 0))],
      [AV.lit (Value.int IntKind.i8 (if 117 < k then oneT n 117 else 0))],
      [AV.lit (Value.int IntKind.i8 (if 118 < k then oneT n 118 else 0))],
      [AV.lit (Value.int IntKind.i8 (if 119 < k then oneT n 119 else 0))],
      [AV.lit (Value.int IntKind.i8 (if 120 < k then oneT n 120 else 0))],
      [AV.lit (Value.int IntKind.i8 (if 121 < k then oneT n 121 else 0))],
      [AV.lit (Value.int IntKind.i8 (if 122 < k then oneT n 122 else 0))],
      [AV.lit (Value.int IntKind.i8 (if 123 < k then oneT n 123 else 0))],
      [AV.lit (Value.int IntKind.i8 (if 124 < k then oneT n 124 else 0))],
      [AV.lit (Value.int IntKind.i8 (if 125 < k then oneT n 125 else 0))],
      [AV.lit (Value.int IntKind.i8 (if 126 < k then oneT n 126 else 0))],
      [AV.lit (Value.int IntKind.i8 (if 127 < k then oneT n 127 else 0))],
      [AV.lit (Value.int IntKind.i8 (if 128 < k then oneT n 128 else 0))],
      [AV.lit (Value.int IntKind.i8 (if 129 < k then oneT n 129 else 0))],
      [AV.lit (Value.int IntKind.i8 (if 130 < k then oneT n 130 else 0))],
      [AV.lit (Value.int IntKind.i8 (if 131 < k then oneT n 131 else 0))],
      [AV.lit (Value.int IntKind.i8 (if 132 < k then oneT n 132 else 0))],
      [AV.lit (Value.int IntKind.i8 (if 133 < k then oneT n 133 else 0))],
      [AV.lit (Value.int IntKind.i8 (if 134 < k then oneT n 134 else 0))],
      [AV.lit (Value.int IntKind.i8 (if 135 < k then oneT n 135 else 0))],
      [AV.lit (Value.int IntKind.i8 (if 136 < k then oneT n 136 else 0))],
      [AV.lit (Value.int IntKind.i8 (if 137 < k then oneT n 137 else 0))],
      [AV.lit (Value.int IntKind.i8 (if 138 < k then oneT n 138 else 0))],
      [AV.lit (Value.int IntKind.i8 (if 139 < k then oneT n 139 else 0))],
      [AV.lit (Value.int IntKind.i8 (if 140 < k then oneT n 140 else 0))],
      [AV.lit (Value.int IntKind.i8 (if 141 < k then oneT n 141 else 0))],
      [AV.lit (Value.int IntKind.i8 (if 142 < k then oneT n 142 else 0))],
      [AV.lit (Value.int IntKind.i8 (if 143 < k then oneT n 143 else 0))],
      [AV.lit (Value.int IntKind.i8 (if 144 < k then oneT n 144 else 0))],
      [AV.lit (Value.int IntKind.i8 (if 145 < k then oneT n 145 else 0))],
      [AV.lit (Value.int IntKind.i8 (if 146 < k then oneT n 146 else 0))],
      [AV.lit (Value.int IntKind.i8 (if 147 < k then oneT n 147 else 0))],
      [AV.lit (Value.int IntKind.i8 (if 148 < k then oneT n 148 else 0))],
      [AV.lit (Value.int IntKind.i8 (if 149 < k then oneT n 149 else 0))],
      [AV.lit (Value.int IntKind.i8 (if 150 < k then oneT n 150 else 0))],
      [AV.lit (Value.int IntKind.i8 (if 151 < k then oneT n 151 else 0))],
      [AV.lit (Value.int IntKind.i8 (if 152 < k then oneT n 152 else 0))],
      [AV.lit (Value.int IntKind.i8 (if 153 < k then oneT n 153 else 0))],
      [AV.lit (Value.int IntKind.i8 (if 154 < k then oneT n 154 else 0))],
      [AV.lit (Value.int IntKind.i8 (if 155 < k then oneT n 155 else 0))],
      [AV.lit (Value.int IntKind.i8 (if 156 < k then oneT n 156 else 0))],
      [AV.lit (Value.int IntKind.i8 (if 157 < k then oneT n 157 else 0))],
      [AV.lit (Value.int IntKind.i8 (if 158 < k then oneT n 158 else 0))],
      [AV.lit (Value.int IntKind.i8 (if 159 < k then oneT n 159 else 0))],
      [AV.lit (Value.int IntKind.i8 (if 160 < k then oneT n 160 else 0))],
      [AV.lit (Value.int IntKind.i8 (if 161 < k then oneT n 161 else 0))],
      [AV.lit (Value.int IntKind.i8 (if 162 < k then oneT n 162 else 0))],
      [AV.lit (Value.int IntKind.i8 (if 163 < k then oneT n 163 else 0))],
      [AV.lit (Value.int IntKind.i8 (if 164 < k then oneT n 164 else 0))],
      [AV.lit (Value.int IntKind.i8 (if 165 < k then oneT n 165 else 0))],
      [AV.lit (Value.int IntKind.i8 (if 166 < k then oneT n 166 else 0))],
      [AV.lit (Value.int IntKind.i8 (if 167 < k then oneT n 167 else 0))],
      [AV.lit (Value.int IntKind.i8 (if 168 < k then oneT n 168 else 0))],
      [AV.lit (Value.int IntKind.i8 (if 169 < k then oneT n 169 else 0))],
      [AV.lit (Value.int IntKind.i8 (if 170 < k then oneT n 170 else 0))],
      [AV.lit (Value.int IntKind.i8 (if 171 < k then oneT n 171 else 0))],
      [AV.lit (Value.int IntKind.i8 (if 172 < k then oneT n 172 else 0))],
      [AV.lit (Value.int IntKind.i8 (if 173 < k then oneT n 173 else 0))],
      [AV.lit (Value.int IntKind.i8 (if 174 < k then oneT n 174 else 0))],
      [AV.lit (Value.int IntKind.i8 (if 175 < k then oneT n 175 else 0))],
      [AV.lit (Value.int IntKind.i8 (if 176 < k then oneT n 176 else 0))],
      [AV.lit (Value.int IntKind.i8 (if 177 < k then oneT n 177 else 0))],
      [AV.lit (Value.int IntKind.i8 (if 178 < k then oneT n 178 else 0))],
      [AV.lit (Value.int IntKind.i8 (if 179 < k then oneT n 179 else 0))],
      [AV.lit (Value.int IntKind.i8 (if 180 < k then oneT n 180 else 0))],
      [AV.lit (Value.int IntKind.i8 (if 181 < k then oneT n 181 else 0))],
      [AV.lit (Value.int IntKind.i8 (if 182 < k then oneT n 182 else 0))],
      [AV.lit (Value.int IntKind.i8 (if 183 < k then oneT n 183 else 0))],
      [AV.lit (Value.int IntKind.i8 (if 184 < k then oneT n 184 else 0))],
      [AV.lit (Value.int IntKind.i8 (if 185 < k then oneT n 185 else 0))],
      [AV.lit (Value.int IntKind.i8 (if 186 < k then oneT n 186 else 0))],
      [AV.lit (Value.int IntKind.i8 (if 187 < k then oneT n 187 else 0))],
      [AV.lit (Value.int IntKind.i8 (if 188 < k then oneT n 188 else 0))],
      [AV.lit (Value.int IntKind.i8 (if 189 < k then oneT n 189 else 0))],
      [AV.lit (Value.int IntKind.i8 (if 190 < k then oneT n 190 else 0))],
      [AV.lit (Value.int IntKind.i8 (if 191 < k then oneT n 191 else 0))],
      [AV.lit (Value.int IntKind.i8 (if 192 < k then oneT n 192 else 0))],
      [AV.lit (Value.int IntKind.i8 (if 193 < k then oneT n 193 else 0))],
      [AV.lit (Value.int IntKind.i8 (if 194 < k then oneT n 194 else 0))],
      [AV.lit (Value.int IntKind.i8 (if 195 < k then oneT n 195 else 0))],
      [AV.lit (Value.int IntKind.i8 (if 196 < k then oneT n 196 else 0))],
      [AV.lit (Value.int IntKind.i8 (if 197 < k then oneT n 197 else 0))],
      [AV.lit (Value.int IntKind.i8 (if 198 < k then oneT n 198 else 0))],
      [AV.lit (Value.int IntKind.i8 (if 199 < k then oneT n 199 else 0))],
      [AV.lit (Value.int IntKind.i8 (if 200 < k then oneT n 200 else 0))],
      [AV.lit (Value.int IntKind.i8 (if 201 < k then oneT n 201 else 0))],
      [AV.lit (Value.int IntKind.i8 (if 202 < k then oneT n 202 else 0))],
      [AV.lit (Value.int IntKind.i8 (if 203 < k then oneT n 203 else 0))],
      [AV.lit (Value.int IntKind.i8 (if 204 < k then oneT n 204 else 0))],
      [AV.lit (Value.int IntKind.i8 (if 205 < k then oneT n 205 else 0))],
      [AV.lit (Value.int IntKind.i8 (if 206 < k then oneT n 206 else 0))],
      [AV.lit (Value.int IntKind.i8 (if 207 < k then oneT n 207 else 0))],
      [AV.lit (Value.int IntKind.i8 (if 208 < k then oneT n 208 else 0))],
      [AV.lit (Value.int IntKind.i8 (if 209 < k then oneT n 209 else 0))],
      [AV.lit (Value.int IntKind.i8 (if 210 < k then oneT n 210 else 0))],
      [AV.lit (Value.int IntKind.i8 (if 211 < k then oneT n 211 else 0))],
      [AV.lit (Value.int IntKind.i8 (if 212 < k then oneT n 212 else 0))],
      [AV.lit (Value.int IntKind.i8 (if 213 < k then oneT n 213 else 0))],
      [AV.lit (Value.int IntKind.i8 (if 214 < k then oneT n 214 else 0))],
      [AV.lit (Value.int IntKind.i8 (if 215 < k then oneT n 215 else 0))],
      [AV.lit (Value.int IntKind.i8 (if 216 < k then oneT n 216 else 0))],
      [AV.lit (Value.int IntKind.i8 (if 217 < k then oneT n 217 else 0))],
      [AV.lit (Value.int IntKind.i8 (if 218 < k then oneT n 218 else 0))],
      [AV.lit (Value.int IntKind.i8 (if 219 < k then oneT n 219 else 0))],
      [AV.lit (Value.int IntKind.i8 (if 220 < k then oneT n 220 else 0))],
      [AV.lit (Value.int IntKind.i8 (if 221 < k then oneT n 221 else 0))],
      [AV.lit (Value.int IntKind.i8 (if 222 < k then oneT n 222 else 0))],
      [AV.lit (Value.int IntKind.i8 (if 223 < k then oneT n 223 else 0))],
      [AV.lit (Value.int IntKind.i8 (if 224 < k then oneT n 224 else 0))],
      [AV.lit (Value.int IntKind.i8 (if 225 < k then oneT n 225 else 0))],
      [AV.lit (Value.int IntKind.i8 (if 226 < k then oneT n 226 else 0))],
      [AV.lit (Value.int IntKind.i8 (if 227 < k then oneT n 227 else 0))],
      [AV.lit (Value.int IntKind.i8 (if 228 < k then oneT n 228 else 0))],
      [AV.lit (Value.int IntKind.i8 (if 229 < k then oneT n 229 else 0))],
      [AV.lit (Value.int IntKind.i8 (if 230 < k then oneT n 230 else 0))],
      [AV.lit (Value.int IntKind.i8 (if 231 < k then oneT n 231 else 0))],
      [AV.lit (Value.int IntKind.i8 (if 232 < k then oneT n 232 else 0))],
      [AV.lit (Value.int IntKind.i8 (if 233 < k then oneT n 233 else 0))],
      [AV.lit (Value.int IntKind.i8 (if 234 < k then oneT n 234 else 0))],
      [AV.lit (Value.int IntKind.i8 (if 235 < k then oneT n 235 else 0))],
      [AV.lit (Value.int IntKind.i8 (if 236 < k then oneT n 236 else 0))],
      [AV.lit (Value.int IntKind.i8 (if 237 < k then oneT n 237 else 0))],
      [AV.lit (Value.int IntKind.i8 (if 238 < k then oneT n 238 else 0))],
      [AV.lit (Value.int IntKind.i8 (if 239 < k then oneT n 239 else 0))],
      [AV.lit (Value.int IntKind.i8 (if 240 < k then oneT n 240 else 0))],
      [AV.lit (Value.int IntKind.i8 (if 241 < k then oneT n 241 else 0))],
      [AV.lit (Value.int IntKind.i8 (if 242 < k then oneT n 242 else 0))],
      [AV.lit (Value.int IntKind.i8 (if 243 < k then oneT n 243 else 0))],
      [AV.lit (Value.int IntKind.i8 (if 244 < k then oneT n 244 else 0))],
      [AV.lit (Value.int IntKind.i8 (if 245 < k then oneT n 245 else 0))],
      [AV.lit (Value.int IntKind.i8 (if 246 < k then oneT n 246 else 0))],
      [AV.lit (Value.int IntKind.i8 (if 247 < k then oneT n 247 else 0))],
      [AV.lit (Value.int IntKind.i8 (if 248 < k then oneT n 248 else 0))],
      [AV.lit (Value.int IntKind.i8 (if 249 < k then oneT n 249 else 0))],
      [AV.lit (Value.int IntKind.i8 (if 250 < k then oneT n 250 else 0))],
      [AV.lit (Value.int IntKind.i8 (if 251 < k then oneT n 251 else 0))],
      [AV.lit (Value.int IntKind.i8 (if 252 < k then oneT n 252 else 0))],
      [AV.lit (Value.int IntKind.i8 (if 253 < k then oneT n 253 else 0))],
      [AV.lit (Value.int IntKind.i8 (if 254 < k then oneT n 254 else 0))],
      [AV.lit (Value.int IntKind.i8 (if 255 < k then oneT n 255 else 0))]].length,
    IntKind.i64.wrap ((↑k : Int) + 1) = (↑k : Int) + 1]) (by kernel_rfl) ?_
  refine ⟨?_, ?_, ?_, ?_, ?_, ?_, ?_, ?_, trivial⟩
  all_goals (first | with_reducible assumption | (exact actOne_v _ n ok ⟨by omega, by omega⟩ (sub_bd ok ⟨by omega, by omega⟩)) | (exact tab_lt hk) | rfl | with_reducible exact WeakL.refl _ | with_reducible exact Weak.refl _ | exact IntWalk.i64_in _ (by omega) | exact IntWalk.i32_in _ (by omega) | exact IntWalk.i8_in _ (by omega) | exact decide_eq_true (by omega) | exact decide_eq_false (by omega) | exact row_get (by assumption) | omega | (simp only [beq_iff_eq, bne_iff_ne, ne_eq, beq_eq_false_iff_ne, bne_eq_false_iff_eq]; omega))

set_option maxRecDepth 100000 in
set_option maxHeartbeats 1000000 in
theorem tab_end (n : Nod) : VT Try.prog (fnC Try.f41 [1, 1, 1, 0, 1, 0, 0]) (tabI n 256 (tabR (oneT n) 256)) (.exit 0) (tabI n 256 (tabR (oneT n) 256)) := by
  refine VT.run (W := [.r [] [], .br false]) (G := [.any [12]])
    (ob := [false = false]) (by kernel_rfl) ?_
  refine ⟨?_, trivial⟩
  all_goals (first | with_reducible assumption | rfl | with_reducible exact WeakL.refl _ | with_reducible exact Weak.refl _ | exact IntWalk.i64_in _ (by omega) | exact IntWalk.i32_in _ (by omega) | exact IntWalk.i8_in _ (by omega) | exact decide_eq_true (by omega) | exact decide_eq_false (by omega) | exact row_get (by assumption) | omega | (simp only [beq_iff_eq, bne_iff_ne, ne_eq, beq_eq_false_iff_ne, bne_eq_false_iff_eq]; omega))
theorem tab_loop (n : Nod) (ok : n.Ok) : VT Try.prog (fnC Try.f41 [1, 1, 1, 0, 1, 0]) (tabI n 0 (tabR (oneT n) 0)) (.exit 0) (tabI n 256 (tabR (oneT n) 256)) :=
  VT.loop (fun k => tabI n k (tabR (oneT n) k)) 256 (fun k hk => (tab_step n ok k hk).cast rfl (by rw [tabR_set])) (tab_end n) (by intro h; cases h)
set_option maxRecDepth 100000 in
set_option maxHeartbeats 1000000 in
theorem table_y (n : Nod) (ok : n.Ok) (hq : rightQ n.qm n.qs = true) : VC Try.prog 41 ([nod n]) (.tup [tabA (oneT n), i64 0]) := by
  refine VC.run (fn := Try.f41) Try.func41 (W := [.r [] [], .r [] [], .r [] [PI.callr
   (bv
     (rightQ n.qm
       n.qs))], .br false, .r [] [], .code [GI.any
    (junk (fnC Try.f41 [1, 1, 1, 0, 1, 0, 0]) [11])] (Exit.exit 0) (tabI n 256 (tabR (oneT n) 256)), .r [] []])
    (ob := [VC Try.prog 22
  [AV.agg
      [AV.lit (Value.int IntKind.i32 n.qm), AV.lit (Value.int IntKind.i64 n.qs), AV.lit (Value.int IntKind.i8 n.qz)]]
  (AV.lit (Value.bool (rightQ n.qm n.qs))),
    (!rightQ n.qm n.qs) = false,
    VT Try.prog (fnC Try.f41 [1, 1, 1, 0, 1, 0]) (tabI n 0 (tabR (oneT n) 0)) (Exit.exit 0)
  (tabI n 256 (tabR (oneT n) 256))]) (by kernel_rfl) ?_
  refine ⟨?_, ?_, ?_, trivial⟩
  all_goals (first | with_reducible assumption | with_reducible exact right_v _ _ _ | (rw [hq]; rfl) | with_reducible exact tab_loop n ok | rfl | with_reducible exact WeakL.refl _ | with_reducible exact Weak.refl _ | exact IntWalk.i64_in _ (by omega) | exact IntWalk.i32_in _ (by omega) | exact IntWalk.i8_in _ (by omega) | exact decide_eq_true (by omega) | exact decide_eq_false (by omega) | exact row_get (by assumption) | omega | (simp only [beq_iff_eq, bne_iff_ne, ne_eq, beq_eq_false_iff_ne, bne_eq_false_iff_eq]; omega))

set_option maxRecDepth 100000 in
set_option maxHeartbeats 1000000 in
theorem table_n (n : Nod) (hq : rightQ n.qm n.qs = false) : VC Try.prog 41 ([nod n]) (.tup [tabA (fun _ => 0), i64 7]) := by
  refine VC.run (fn := Try.f41) Try.func41 (W := [.r [] [], .r [] [], .r [] [PI.callr (bv (rightQ n.qm n.qs))], .br true, .r [] []])
    (ob := [VC Try.prog 22
  [AV.agg
      [AV.lit (Value.int IntKind.i32 n.qm), AV.lit (Value.int IntKind.i64 n.qs), AV.lit (Value.int IntKind.i8 n.qz)]]
  (AV.lit (Value.bool (rightQ n.qm n.qs))),
    (!rightQ n.qm n.qs) = true]) (by kernel_rfl) ?_
  refine ⟨?_, ?_, trivial⟩
  all_goals (first | with_reducible assumption | with_reducible exact right_v _ _ _ | (rw [hq]; rfl) | rfl | with_reducible exact WeakL.refl _ | with_reducible exact Weak.refl _ | exact IntWalk.i64_in _ (by omega) | exact IntWalk.i32_in _ (by omega) | exact IntWalk.i8_in _ (by omega) | exact decide_eq_true (by omega) | exact decide_eq_false (by omega) | exact row_get (by assumption) | omega | (simp only [beq_iff_eq, bne_iff_ne, ne_eq, beq_eq_false_iff_ne, bne_eq_false_iff_eq]; omega))
end Go.Proofs.Ytolpecacibmkjaa

