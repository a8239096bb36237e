/- Texts of this claim, put together: RpB, PkU, PkR, PnA. No condition. -/
import Derived.Test.YtgecmooedhnenaaPackNodesG5
set_option linter.unusedVariables false
set_option linter.unusedSimpArgs false
set_option linter.unnecessarySimpa false
/- The document's bytes of a node. No condition. -/
namespace Go.Proofs.Ytgecmooedhnenaa
open Go.RowKit
set_option linter.unusedSimpArgs false
set_option linter.unusedVariables false
set_option linter.unnecessarySimpa false

set_option maxRecDepth 100000 in
set_option maxHeartbeats 2000000 in
theorem rbytes_1 (L : Int → List Int) (n : Nod) (hL : RPuts L) (hk : n.kd = 1) (hw : n.w.length ≤ 16384) (hb : n.b.length ≤ 16384) (hx : ∀ x ∈ n.b, -2147483648 ≤ x ∧ x ≤ 2147483647) (hq : In32 n.qm) (hr : In32 n.rm) : VC Try.prog 107 ([nod n]) (.sl 1 ((L n.kd ++ L n.na ++ L n.nk ++ L n.ns ++ L n.np ++ L n.no ++ [IntKind.u8.wrap n.za] ++ L (n.w.length : Int) ++ smallL n.w ++ L (n.b.length : Int) ++ wideL n.b ++ L n.qm ++ L n.qs ++ [IntKind.u8.wrap n.qz] ++ [IntKind.u8.wrap n.lo] ++ [IntKind.u8.wrap n.hi]).map (row1 .u8))) := by
  have q0 := hL.l n.kd
  have q1 := hL.l n.na
  have q2 := hL.l n.nk
  have q3 := hL.l n.ns
  have q4 := hL.l n.np
  have q5 := hL.l n.no
  have q6 : ([IntKind.u8.wrap n.za]).length = 1 := rfl
  have q7 := hL.l (n.w.length : Int)
  have q8 : (smallL n.w).length = n.w.length := List.length_map _
  have q9 := hL.l (n.b.length : Int)
  have q10 := wideL_len n.b hx
  have q11 := hL.l n.qm
  have q12 := hL.l n.qs
  have q13 : ([IntKind.u8.wrap n.qz]).length = 1 := rfl
  have q14 : ([IntKind.u8.wrap n.lo]).length = 1 := rfl
  have q15 : ([IntKind.u8.wrap n.hi]).length = 1 := rfl
  have bu0 : ([] ++ L n.kd).length ≤ 1000000 := by (try simp only [List.nil_append, List.length_append]); omega
  have bu1 : ([] ++ L n.kd ++ L n.na).length ≤ 1000000 := by (try simp only [List.nil_append, List.length_append]); omega
  have bu2 : ([] ++ L n.kd ++ L n.na ++ L n.nk).length ≤ 1000000 := by (try simp only [List.nil_append, List.length_append]); omega
  have bu3 : ([] ++ L n.kd ++ L n.na ++ L n.nk ++ L n.ns).length ≤ 1000000 := by (try simp only [List.nil_append, List.length_append]); omega
  have bu4 : ([] ++ L n.kd ++ L n.na ++ L n.nk ++ L n.ns ++ L n.np).length ≤ 1000000 := by (try simp only [List.nil_append, List.length_append]); omega
  have bu5 : ([] ++ L n.kd ++ L n.na ++ L n.nk ++ L n.ns ++ L n.np ++ L n.no).length ≤ 1000000 := by (try simp only [List.nil_append, List.length_append]); omega
  have bu6 : ([] ++ L n.kd ++ L n.na ++ L n.nk ++ L n.ns ++ L n.np ++ L n.no ++ [IntKind.u8.wrap n.za]).length ≤ 500000 := by (try simp only [List.nil_append, List.length_append]); omega
  have bu7 : ([] ++ L n.kd ++ L n.na ++ L n.nk ++ L n.ns ++ L n.np ++ L n.no ++ [IntKind.u8.wrap n.za] ++ L (n.w.length : Int)).length ≤ 1000000 := by (try simp only [List.nil_append, List.length_append]); omega
  have bu8 : ([] ++ L n.kd ++ L n.na ++ L n.nk ++ L n.ns ++ L n.np ++ L n.no ++ [IntKind.u8.wrap n.za] ++ L (n.w.length : Int) ++ smallL n.w).length ≤ 1000000 := by (try simp only [List.nil_append, List.length_append]); omega
  have bu9 : ([] ++ L n.kd ++ L n.na ++ L n.nk ++ L n.ns ++ L n.np ++ L n.no ++ [IntKind.u8.wrap n.za] ++ L (n.w.length : Int) ++ smallL n.w ++ L (n.b.length : Int)).length ≤ 1000000 := by (try simp only [List.nil_append, List.length_append]); omega
  have bu10 : ([] ++ L n.kd ++ L n.na ++ L n.nk ++ L n.ns ++ L n.np ++ L n.no ++ [IntKind.u8.wrap n.za] ++ L (n.w.length : Int) ++ smallL n.w ++ L (n.b.length : Int) ++ wideL n.b).length ≤ 1000000 := by (try simp only [List.nil_append, List.length_append]); omega
  have bu11 : ([] ++ L n.kd ++ L n.na ++ L n.nk ++ L n.ns ++ L n.np ++ L n.no ++ [IntKind.u8.wrap n.za] ++ L (n.w.length : Int) ++ smallL n.w ++ L (n.b.length : Int) ++ wideL n.b ++ L n.qm).length ≤ 1000000 := by (try simp only [List.nil_append, List.length_append]); omega
  have bu12 : ([] ++ L n.kd ++ L n.na ++ L n.nk ++ L n.ns ++ L n.np ++ L n.no ++ [IntKind.u8.wrap n.za] ++ L (n.w.length : Int) ++ smallL n.w ++ L (n.b.length : Int) ++ wideL n.b ++ L n.qm ++ L n.qs).length ≤ 1000000 := by (try simp only [List.nil_append, List.length_append]); omega
  have bu13 : ([] ++ L n.kd ++ L n.na ++ L n.nk ++ L n.ns ++ L n.np ++ L n.no ++ [IntKind.u8.wrap n.za] ++ L (n.w.length : Int) ++ smallL n.w ++ L (n.b.length : Int) ++ wideL n.b ++ L n.qm ++ L n.qs ++ [IntKind.u8.wrap n.qz]).length ≤ 1000000 := by (try simp only [List.nil_append, List.length_append]); omega
  have bu14 : ([] ++ L n.kd ++ L n.na ++ L n.nk ++ L n.ns ++ L n.np ++ L n.no ++ [IntKind.u8.wrap n.za] ++ L (n.w.length : Int) ++ smallL n.w ++ L (n.b.length : Int) ++ wideL n.b ++ L n.qm ++ L n.qs ++ [IntKind.u8.wrap n.qz] ++ [IntKind.u8.wrap n.lo]).length ≤ 1000000 := by (try simp only [List.nil_append, List.length_append]); omega
  have bu15 : ([] ++ L n.kd ++ L n.na ++ L n.nk ++ L n.ns ++ L n.np ++ L n.no ++ [IntKind.u8.wrap n.za] ++ L (n.w.length : Int) ++ smallL n.w ++ L (n.b.length : Int) ++ wideL n.b ++ L n.qm ++ L n.qs ++ [IntKind.u8.wrap n.qz] ++ [IntKind.u8.wrap n.lo] ++ [IntKind.u8.wrap n.hi]).length ≤ 1000000 := by (try simp only [List.nil_append, List.length_append]); omega
  clear q0 q1 q2 q3 q4 q5 q6 q7 q8 q9 q10 q11 q12 q13 q14 q15
  have w5 : n.w.length ≤ 100000 := by omega
  have b5 : n.b.length ≤ 100000 := by omega
  have oz0 := @tells_1 (n.kd) hk
  have oz1 := @VM.pre _ _ ([AV.lit (Value.slice none 0 0), i64 n.kd]) _ ([]) _ _ _ ([GI.nils 0 950 5 1, GI.sort]) _ (@rput_1 ([]) (L) (n.kd) (by (simp; done)) hL) (by kernel_rfl) (.n)
  have oz2 := @rput_1 ([] ++ L n.kd) (L) (n.na) bu0 hL
  have oz3 := (show (0 : Int) ≤ (0 : Int) by omega)
  have oz4 := (show (0 : Int) < (↑(6 : Nat) : Int) by omega)
  have oz5 := (show [[bv false], [bv true], [bv true], [bv true], [bv true], [bv true]][(0 : Nat)]? = some [bv false] from rfl)
  have oz6 := (show false = false by with_reducible rfl)
  have oz7 := (show (0 : Int) ≤ (1 : Int) by omega)
  have oz8 := (show (1 : Int) < (↑(6 : Nat) : Int) by omega)
  have oz9 := (show [[bv false], [bv true], [bv true], [bv true], [bv true], [bv true]][(1 : Nat)]? = some [bv true] from rfl)
  have oz10 := (show true = true by with_reducible rfl)
  have oz11 := @rput_1 ([] ++ L n.kd ++ L n.na) (L) (n.nk) bu1 hL
  have oz12 := @rput_1 ([] ++ L n.kd ++ L n.na ++ L n.nk) (L) (n.ns) bu2 hL
  have oz16 := (show true = !false by (simp; done))
  have oz21 := @rput_1 ([] ++ L n.kd ++ L n.na ++ L n.nk ++ L n.ns) (L) (n.np) bu3 hL
  have oz24 := (show [[bv false], [bv true], [bv true], [bv true], [bv true], [bv true]][(2 : Nat)]? = some [bv true] from rfl)
  have oz26 := @rput_1 ([] ++ L n.kd ++ L n.na ++ L n.nk ++ L n.ns ++ L n.np) (L) (n.no) bu4 hL
  have oz29 := (show [[bv false], [bv true], [bv true], [bv true], [bv true], [bv true]][(3 : Nat)]? = some [bv true] from rfl)
  have oz39 := (show [[bv false], [bv true], [bv true], [bv true], [bv true], [bv true]][(4 : Nat)]? = some [bv true] from rfl)
  have oz41 := @VM.pre _ _ ([AV.own 950, AV.sl 1 (List.map (row1 IntKind.i8) n.w), AV.sl 1 (List.map (row1 IntKind.i32) n.b)]) _ ([(950, Blk.slc 5 1 (List.map (row1 IntKind.u8) ([] ++ L n.kd ++ L n.na ++ L n.nk ++ L n.ns ++ L n.np ++ L n.no) ++ [[u8 (IntKind.u8.wrap n.za)]]))]) _ _ _ ([GI.blk 950 (Blk.slc 5 1 (List.map (row1 IntKind.u8) ([] ++ L n.kd ++ L n.na ++ L n.nk ++ L n.ns ++ L n.np ++ L n.no ++ [IntKind.u8.wrap n.za]))), GI.sort]) _ (@rlists_v ([] ++ L n.kd ++ L n.na ++ L n.nk ++ L n.ns ++ L n.np ++ L n.no ++ [IntKind.u8.wrap n.za]) (L) (n.w) (n.b) bu6 hL w5 hb hx) (by kernel_rfl) (.c (BlkW.rows (e := 5) (z := 1) (rows_to (row1 IntKind.u8) (r := List.map (row1 IntKind.u8) ([] ++ L n.kd ++ L n.na ++ L n.nk ++ L n.ns ++ L n.np ++ L n.no) ++ [[u8 (IntKind.u8.wrap n.za)]]) (l := [] ++ L n.kd ++ L n.na ++ L n.nk ++ L n.ns ++ L n.np ++ L n.no ++ [IntKind.u8.wrap n.za]) (m := [] ++ L n.kd ++ L n.na ++ L n.nk ++ L n.ns ++ L n.np ++ L n.no ++ [IntKind.u8.wrap n.za]) (by first | (simp only [List.map_append, List.map_cons, List.map_nil, List.map_set, List.map_replicate, List.map_take, List.map_drop]; done) | rfl | (simp only [List.map_append, List.map_cons, List.map_nil, List.map_set, List.map_replicate, List.map_take, List.map_drop]; rfl)) rfl)) <| .n)
  have oz44 := (show [[bv false], [bv true], [bv true], [bv true], [bv true], [bv true]][(5 : Nat)]? = some [bv true] from rfl)
  have oz47 := @rput_1 ([] ++ L n.kd ++ L n.na ++ L n.nk ++ L n.ns ++ L n.np ++ L n.no ++ [IntKind.u8.wrap n.za] ++ L (↑n.w.length : Int) ++ smallL n.w ++ L (↑n.b.length : Int) ++ wideL n.b) (L) (n.qm) bu10 hL
  have oz48 := @rput_1 ([] ++ L n.kd ++ L n.na ++ L n.nk ++ L n.ns ++ L n.np ++ L n.no ++ [IntKind.u8.wrap n.za] ++ L (↑n.w.length : Int) ++ smallL n.w ++ L (↑n.b.length : Int) ++ wideL n.b ++ L n.qm) (L) (n.qs) bu11 hL
  exact (VC.run (fn := Try.f107) (W := [.r [] [], .r [] [.callr (rO oz0)], .r [] [.callm [] [(951, 20000)] (rM oz1) (oM oz1), .callm [(20000, 950)] [(951, 20001)] (rM oz2) (oM oz2)], .r [] [.row (sO oz5)], .br false, .r [] [.row (sO oz9)], .br true, .r [] [.callm [(20001, 950)] [(951, 20002)] (rM oz11) (oM oz11), .callm [(20002, 950)] [(951, 20003)] (rM oz12) (oM oz12)], .r [] [.row (sO oz9), .br false, .br false, .br false, .br true], .br true, .r [] [.callm [(20003, 950)] [(951, 20004)] (rM oz21) (oM oz21)], .r [] [.row (sO oz24)], .br true, .r [] [.callm [(20004, 950)] [(951, 20005)] (rM oz26) (oM oz26)], .r [] [.row (sO oz29)], .br true, .r [] [.w], .r [] [.row (sO oz5)], .br false, .r [] [.row (sO oz39)], .br true, .r [] [.callm [(53, 950)] [(951, 20006)] (rM oz41) (oM oz41)], .r [] [.row (sO oz44)], .br true, .r [] [.n n.qm, .callm [(20006, 950)] [(951, 20007)] (rM oz47) (oM oz47), .callm [(20007, 950)] [(951, 20008)] (rM oz48) (oM oz48), .w], .r [] [.row (sO oz5)], .br false, .r [] [.w, .w], .r [] []]) (r := AV.sl 1 (List.map (row1 IntKind.u8) ([] ++ L n.kd ++ L n.na ++ L n.nk ++ L n.ns ++ L n.np ++ L n.no ++ [IntKind.u8.wrap n.za] ++ L (↑n.w.length : Int) ++ smallL n.w ++ L (↑n.b.length : Int) ++ wideL n.b ++ L n.qm ++ L n.qs) ++ [[u8 (IntKind.u8.wrap n.qz)]] ++ [[u8 (IntKind.u8.wrap n.lo)], [u8 (IntKind.u8.wrap n.hi)]])) Try.func107 (by kernel_rfl) (.c oz0 <| .c oz1 <| .c oz2 <| .c oz3 <| .c oz4 <| .c oz5 <| .c oz6 <| .c oz7 <| .c oz8 <| .c oz9 <| .c oz10 <| .c oz11 <| .c oz12 <| .c oz7 <| .c oz8 <| .c oz9 <| .c oz16 <| .c oz16 <| .c oz16 <| .c oz10 <| .c oz10 <| .c oz21 <| .c (show (0 : Int) ≤ (2 : Int) by omega) <| .c (show (2 : Int) < (↑(6 : Nat) : Int) by omega) <| .c oz24 <| .c oz10 <| .c oz26 <| .c (show (0 : Int) ≤ (3 : Int) by omega) <| .c (show (3 : Int) < (↑(6 : Nat) : Int) by omega) <| .c oz29 <| .c oz10 <| .c (show ((List.map (row1 IntKind.u8) ([] ++ L n.kd ++ L n.na ++ L n.nk ++ L n.ns ++ L n.np ++ L n.no)).length + 1) * 1 ≤ 140737488355328 by (simp only [List.length_map] at *; omega)) <| .c (show (List.map (row1 IntKind.u8) ([] ++ L n.kd ++ L n.na ++ L n.nk ++ L n.ns ++ L n.np ++ L n.no)).length + 1 ≤ 9223372036854775807 by (simp only [List.length_map] at *; omega)) <| .c oz3 <| .c oz4 <| .c oz5 <| .c oz6 <| .c (show (0 : Int) ≤ (4 : Int) by omega) <| .c (show (4 : Int) < (↑(6 : Nat) : Int) by omega) <| .c oz39 <| .c oz10 <| .c oz41 <| .c (show (0 : Int) ≤ (5 : Int) by omega) <| .c (show (5 : Int) < (↑(6 : Nat) : Int) by omega) <| .c oz44 <| .c oz10 <| .c (IntWalk.i64_in n.qm (by omega)) <| .c oz47 <| .c oz48 <| .c (show ((List.map (row1 IntKind.u8) ([] ++ L n.kd ++ L n.na ++ L n.nk ++ L n.ns ++ L n.np ++ L n.no ++ [IntKind.u8.wrap n.za] ++ L (↑n.w.length : Int) ++ smallL n.w ++ L (↑n.b.length : Int) ++ wideL n.b ++ L n.qm ++ L n.qs)).length + 1) * 1 ≤ 140737488355328 by (simp only [List.length_map] at *; omega)) <| .c (show (List.map (row1 IntKind.u8) ([] ++ L n.kd ++ L n.na ++ L n.nk ++ L n.ns ++ L n.np ++ L n.no ++ [IntKind.u8.wrap n.za] ++ L (↑n.w.length : Int) ++ smallL n.w ++ L (↑n.b.length : Int) ++ wideL n.b ++ L n.qm ++ L n.qs)).length + 1 ≤ 9223372036854775807 by (simp only [List.length_map] at *; omega)) <| .c oz3 <| .c oz4 <| .c oz5 <| .c oz6 <| .c (show ((List.map (row1 IntKind.u8) ([] ++ L n.kd ++ L n.na ++ L n.nk ++ L n.ns ++ L n.np ++ L n.no ++ [IntKind.u8.wrap n.za] ++ L (↑n.w.length : Int) ++ smallL n.w ++ L (↑n.b.length : Int) ++ wideL n.b ++ L n.qm ++ L n.qs) ++ [[u8 (IntKind.u8.wrap n.qz)]]).length + 2) * 1 ≤ 140737488355328 by (simp at *; omega)) <| .c (show (List.map (row1 IntKind.u8) ([] ++ L n.kd ++ L n.na ++ L n.nk ++ L n.ns ++ L n.np ++ L n.no ++ [IntKind.u8.wrap n.za] ++ L (↑n.w.length : Int) ++ smallL n.w ++ L (↑n.b.length : Int) ++ wideL n.b ++ L n.qm ++ L n.qs) ++ [[u8 (IntKind.u8.wrap n.qz)]]).length + 2 ≤ 9223372036854775807 by (simp at *; omega)) <| .n)).weak (WeakL.refl _) (Weak.rows (rows_to (row1 IntKind.u8) (r := List.map (row1 IntKind.u8) ([] ++ L n.kd ++ L n.na ++ L n.nk ++ L n.ns ++ L n.np ++ L n.no ++ [IntKind.u8.wrap n.za] ++ L (↑n.w.length : Int) ++ smallL n.w ++ L (↑n.b.length : Int) ++ wideL n.b ++ L n.qm ++ L n.qs) ++ [[u8 (IntKind.u8.wrap n.qz)]] ++ [[u8 (IntKind.u8.wrap n.lo)], [u8 (IntKind.u8.wrap n.hi)]]) (l := [] ++ L n.kd ++ L n.na ++ L n.nk ++ L n.ns ++ L n.np ++ L n.no ++ [IntKind.u8.wrap n.za] ++ L (↑n.w.length : Int) ++ smallL n.w ++ L (↑n.b.length : Int) ++ wideL n.b ++ L n.qm ++ L n.qs ++ [IntKind.u8.wrap n.qz] ++ [IntKind.u8.wrap n.lo, IntKind.u8.wrap n.hi]) (m := L n.kd ++ L n.na ++ L n.nk ++ L n.ns ++ L n.np ++ L n.no ++ [IntKind.u8.wrap n.za] ++ L (↑n.w.length : Int) ++ smallL n.w ++ L (↑n.b.length : Int) ++ wideL n.b ++ L n.qm ++ L n.qs ++ [IntKind.u8.wrap n.qz] ++ [IntKind.u8.wrap n.lo] ++ [IntKind.u8.wrap n.hi]) (by first | (simp only [List.map_append, List.map_cons, List.map_nil, List.map_set, List.map_replicate, List.map_take, List.map_drop]; done) | rfl | (simp only [List.map_append, List.map_cons, List.map_nil, List.map_set, List.map_replicate, List.map_take, List.map_drop]; rfl)) (show ([] ++ L n.kd ++ L n.na ++ L n.nk ++ L n.ns ++ L n.np ++ L n.no ++ [IntKind.u8.wrap n.za] ++ L (↑n.w.length : Int) ++ smallL n.w ++ L (↑n.b.length : Int) ++ wideL n.b ++ L n.qm ++ L n.qs ++ [IntKind.u8.wrap n.qz] ++ [IntKind.u8.wrap n.lo, IntKind.u8.wrap n.hi]) = (L n.kd ++ L n.na ++ L n.nk ++ L n.ns ++ L n.np ++ L n.no ++ [IntKind.u8.wrap n.za] ++ L (↑n.w.length : Int) ++ smallL n.w ++ L (↑n.b.length : Int) ++ wideL n.b ++ L n.qm ++ L n.qs ++ [IntKind.u8.wrap n.qz] ++ [IntKind.u8.wrap n.lo] ++ [IntKind.u8.wrap n.hi]) from (by (simp; done)))))

set_option maxRecDepth 100000 in
set_option maxHeartbeats 2000000 in
theorem rbytes_2 (L : Int → List Int) (n : Nod) (hL : RPuts L) (hk : n.kd = 2) (hw : n.w.length ≤ 16384) (hb : n.b.length ≤ 16384) (hx : ∀ x ∈ n.b, -2147483648 ≤ x ∧ x ≤ 2147483647) (hq : In32 n.qm) (hr : In32 n.rm) : VC Try.prog 107 ([nod n]) (.sl 1 ((L n.kd ++ L n.na ++ L n.nk ++ L n.ns ++ L n.np ++ [IntKind.u8.wrap n.za] ++ L (n.w.length : Int) ++ smallL n.w ++ L (n.b.length : Int) ++ wideL n.b ++ L n.qm ++ L n.qs ++ [IntKind.u8.wrap n.qz] ++ [IntKind.u8.wrap n.lo] ++ [IntKind.u8.wrap n.hi]).map (row1 .u8))) := by
  have q0 := hL.l n.kd
  have q1 := hL.l n.na
  have q2 := hL.l n.nk
  have q3 := hL.l n.ns
  have q4 := hL.l n.np
  have q5 : ([IntKind.u8.wrap n.za]).length = 1 := rfl
  have q6 := hL.l (n.w.length : Int)
  have q7 : (smallL n.w).length = n.w.length := List.length_map _
  have q8 := hL.l (n.b.length : Int)
  have q9 := wideL_len n.b hx
  have q10 := hL.l n.qm
  have q11 := hL.l n.qs
  have q12 : ([IntKind.u8.wrap n.qz]).length = 1 := rfl
  have q13 : ([IntKind.u8.wrap n.lo]).length = 1 := rfl
  have q14 : ([IntKind.u8.wrap n.hi]).length = 1 := rfl
  have bu0 : ([] ++ L n.kd).length ≤ 1000000 := by (try simp only [List.nil_append, List.length_append]); omega
  have bu1 : ([] ++ L n.kd ++ L n.na).length ≤ 1000000 := by (try simp only [List.nil_append, List.length_append]); omega
  have bu2 : ([] ++ L n.kd ++ L n.na ++ L n.nk).length ≤ 1000000 := by (try simp only [List.nil_append, List.length_append]); omega
  have bu3 : ([] ++ L n.kd ++ L n.na ++ L n.nk ++ L n.ns).length ≤ 1000000 := by (try simp only [List.nil_append, List.length_append]); omega
  have bu4 : ([] ++ L n.kd ++ L n.na ++ L n.nk ++ L n.ns ++ L n.np).length ≤ 1000000 := by (try simp only [List.nil_append, List.length_append]); omega
  have bu5 : ([] ++ L n.kd ++ L n.na ++ L n.nk ++ L n.ns ++ L n.np ++ [IntKind.u8.wrap n.za]).length ≤ 500000 := by (try simp only [List.nil_append, List.length_append]); omega
  have bu6 : ([] ++ L n.kd ++ L n.na ++ L n.nk ++ L n.ns ++ L n.np ++ [IntKind.u8.wrap n.za] ++ L (n.w.length : Int)).length ≤ 1000000 := by (try simp only [List.nil_append, List.length_append]); omega
  have bu7 : ([] ++ L n.kd ++ L n.na ++ L n.nk ++ L n.ns ++ L n.np ++ [IntKind.u8.wrap n.za] ++ L (n.w.length : Int) ++ smallL n.w).length ≤ 1000000 := by (try simp only [List.nil_append, List.length_append]); omega
  have bu8 : ([] ++ L n.kd ++ L n.na ++ L n.nk ++ L n.ns ++ L n.np ++ [IntKind.u8.wrap n.za] ++ L (n.w.length : Int) ++ smallL n.w ++ L (n.b.length : Int)).length ≤ 1000000 := by (try simp only [List.nil_append, List.length_append]); omega
  have bu9 : ([] ++ L n.kd ++ L n.na ++ L n.nk ++ L n.ns ++ L n.np ++ [IntKind.u8.wrap n.za] ++ L (n.w.length : Int) ++ smallL n.w ++ L (n.b.length : Int) ++ wideL n.b).length ≤ 1000000 := by (try simp only [List.nil_append, List.length_append]); omega
  have bu10 : ([] ++ L n.kd ++ L n.na ++ L n.nk ++ L n.ns ++ L n.np ++ [IntKind.u8.wrap n.za] ++ L (n.w.length : Int) ++ smallL n.w ++ L (n.b.length : Int) ++ wideL n.b ++ L n.qm).length ≤ 1000000 := by (try simp only [List.nil_append, List.length_append]); omega
  have bu11 : ([] ++ L n.kd ++ L n.na ++ L n.nk ++ L n.ns ++ L n.np ++ [IntKind.u8.wrap n.za] ++ L (n.w.length : Int) ++ smallL n.w ++ L (n.b.length : Int) ++ wideL n.b ++ L n.qm ++ L n.qs).length ≤ 1000000 := by (try simp only [List.nil_append, List.length_append]); omega
  have bu12 : ([] ++ L n.kd ++ L n.na ++ L n.nk ++ L n.ns ++ L n.np ++ [IntKind.u8.wrap n.za] ++ L (n.w.length : Int) ++ smallL n.w ++ L (n.b.length : Int) ++ wideL n.b ++ L n.qm ++ L n.qs ++ [IntKind.u8.wrap n.qz]).length ≤ 1000000 := by (try simp only [List.nil_append, List.length_append]); omega
  have bu13 : ([] ++ L n.kd ++ L n.na ++ L n.nk ++ L n.ns ++ L n.np ++ [IntKind.u8.wrap n.za] ++ L (n.w.length : Int) ++ smallL n.w ++ L (n.b.length : Int) ++ wideL n.b ++ L n.qm ++ L n.qs ++ [IntKind.u8.wrap n.qz] ++ [IntKind.u8.wrap n.lo]).length ≤ 1000000 := by (try simp only [List.nil_append, List.length_append]); omega
  have bu14 : ([] ++ L n.kd ++ L n.na ++ L n.nk ++ L n.ns ++ L n.np ++ [IntKind.u8.wrap n.za] ++ L (n.w.length : Int) ++ smallL n.w ++ L (n.b.length : Int) ++ wideL n.b ++ L n.qm ++ L n.qs ++ [IntKind.u8.wrap n.qz] ++ [IntKind.u8.wrap n.lo] ++ [IntKind.u8.wrap n.hi]).length ≤ 1000000 := by (try simp only [List.nil_append, List.length_append]); omega
  clear q0 q1 q2 q3 q4 q5 q6 q7 q8 q9 q10 q11 q12 q13 q14
  have w5 : n.w.length ≤ 100000 := by omega
  have b5 : n.b.length ≤ 100000 := by omega
  have oz0 := @tells_2 (n.kd) hk
  have oz1 := @VM.pre _ _ ([AV.lit (Value.slice none 0 0), i64 n.kd]) _ ([]) _ _ _ ([GI.nils 0 950 5 1, GI.sort]) _ (@rput_1 ([]) (L) (n.kd) (by (simp; done)) hL) (by kernel_rfl) (.n)
  have oz2 := @rput_1 ([] ++ L n.kd) (L) (n.na) bu0 hL
  have oz3 := (show (0 : Int) ≤ (0 : Int) by omega)
  have oz4 := (show (0 : Int) < (↑(6 : Nat) : Int) by omega)
  have oz5 := (show [[bv false], [bv true], [bv false], [bv true], [bv true], [bv true]][(0 : Nat)]? = some [bv false] from rfl)
  have oz6 := (show false = false by with_reducible rfl)
  have oz7 := (show (0 : Int) ≤ (1 : Int) by omega)
  have oz8 := (show (1 : Int) < (↑(6 : Nat) : Int) by omega)
  have oz9 := (show [[bv false], [bv true], [bv false], [bv true], [bv true], [bv true]][(1 : Nat)]? = some [bv true] from rfl)
  have oz10 := (show true = true by with_reducible rfl)
  have oz11 := @rput_1 ([] ++ L n.kd ++ L n.na) (L) (n.nk) bu1 hL
  have oz12 := @rput_1 ([] ++ L n.kd ++ L n.na ++ L n.nk) (L) (n.ns) bu2 hL
  have oz16 := (show true = !false by (simp; done))
  have oz21 := @rput_1 ([] ++ L n.kd ++ L n.na ++ L n.nk ++ L n.ns) (L) (n.np) bu3 hL
  have oz24 := (show [[bv false], [bv true], [bv false], [bv true], [bv true], [bv true]][(2 : Nat)]? = some [bv false] from rfl)
  have oz28 := (show [[bv false], [bv true], [bv false], [bv true], [bv true], [bv true]][(3 : Nat)]? = some [bv true] from rfl)
  have oz38 := (show [[bv false], [bv true], [bv false], [bv true], [bv true], [bv true]][(4 : Nat)]? = some [bv true] from rfl)
  have oz40 := @VM.pre _ _ ([AV.own 950, AV.sl 1 (List.map (row1 IntKind.i8) n.w), AV.sl 1 (List.map (row1 IntKind.i32) n.b)]) _ ([(950, Blk.slc 5 1 (List.map (row1 IntKind.u8) ([] ++ L n.kd ++ L n.na ++ L n.nk ++ L n.ns ++ L n.np) ++ [[u8 (IntKind.u8.wrap n.za)]]))]) _ _ _ ([GI.blk 950 (Blk.slc 5 1 (List.map (row1 IntKind.u8) ([] ++ L n.kd ++ L n.na ++ L n.nk ++ L n.ns ++ L n.np ++ [IntKind.u8.wrap n.za]))), GI.sort]) _ (@rlists_v ([] ++ L n.kd ++ L n.na ++ L n.nk ++ L n.ns ++ L n.np ++ [IntKind.u8.wrap n.za]) (L) (n.w) (n.b) bu5 hL w5 hb hx) (by kernel_rfl) (.c (BlkW.rows (e := 5) (z := 1) (rows_to (row1 IntKind.u8) (r := List.map (row1 IntKind.u8) ([] ++ L n.kd ++ L n.na ++ L n.nk ++ L n.ns ++ L n.np) ++ [[u8 (IntKind.u8.wrap n.za)]]) (l := [] ++ L n.kd ++ L n.na ++ L n.nk ++ L n.ns ++ L n.np ++ [IntKind.u8.wrap n.za]) (m := [] ++ L n.kd ++ L n.na ++ L n.nk ++ L n.ns ++ L n.np ++ [IntKind.u8.wrap n.za]) (by first | (simp only [List.map_append, List.map_cons, List.map_nil, List.map_set, List.map_replicate, List.map_take, List.map_drop]; done) | rfl | (simp only [List.map_append, List.map_cons, List.map_nil, List.map_set, List.map_replicate, List.map_take, List.map_drop]; rfl)) rfl)) <| .n)
  have oz43 := (show [[bv false], [bv true], [bv false], [bv true], [bv true], [bv true]][(5 : Nat)]? = some [bv true] from rfl)
  have oz46 := @rput_1 ([] ++ L n.kd ++ L n.na ++ L n.nk ++ L n.ns ++ L n.np ++ [IntKind.u8.wrap n.za] ++ L (↑n.w.length : Int) ++ smallL n.w ++ L (↑n.b.length : Int) ++ wideL n.b) (L) (n.qm) bu9 hL
  have oz47 := @rput_1 ([] ++ L n.kd ++ L n.na ++ L n.nk ++ L n.ns ++ L n.np ++ [IntKind.u8.wrap n.za] ++ L (↑n.w.length : Int) ++ smallL n.w ++ L (↑n.b.length : Int) ++ wideL n.b ++ L n.qm) (L) (n.qs) bu10 hL
  exact (VC.run (fn := Try.f107) (W := [.r [] [], .r [] [.callr (rO oz0)], .r [] [.callm [] [(951, 20000)] (rM oz1) (oM oz1), .callm [(20000, 950)] [(951, 20001)] (rM oz2) (oM oz2)], .r [] [.row (sO oz5)], .br false, .r [] [.row (sO oz9)], .br true, .r [] [.callm [(20001, 950)] [(951, 20002)] (rM oz11) (oM oz11), .callm [(20002, 950)] [(951, 20003)] (rM oz12) (oM oz12)], .r [] [.row (sO oz9), .br false, .br false, .br false, .br true], .br true, .r [] [.callm [(20003, 950)] [(951, 20004)] (rM oz21) (oM oz21)], .r [] [.row (sO oz24)], .br false, .r [] [.row (sO oz28)], .br true, .r [] [.w], .r [] [.row (sO oz5)], .br false, .r [] [.row (sO oz38)], .br true, .r [] [.callm [(53, 950)] [(951, 20005)] (rM oz40) (oM oz40)], .r [] [.row (sO oz43)], .br true, .r [] [.n n.qm, .callm [(20005, 950)] [(951, 20006)] (rM oz46) (oM oz46), .callm [(20006, 950)] [(951, 20007)] (rM oz47) (oM oz47), .w], .r [] [.row (sO oz5)], .br false, .r [] [.w, .w], .r [] []]) (r := AV.sl 1 (List.map (row1 IntKind.u8) ([] ++ L n.kd ++ L n.na ++ L n.nk ++ L n.ns ++ L n.np ++ [IntKind.u8.wrap n.za] ++ L (↑n.w.length : Int) ++ smallL n.w ++ L (↑n.b.length : Int) ++ wideL n.b ++ L n.qm ++ L n.qs) ++ [[u8 (IntKind.u8.wrap n.qz)]] ++ [[u8 (IntKind.u8.wrap n.lo)], [u8 (IntKind.u8.wrap n.hi)]])) Try.func107 (by kernel_rfl) (.c oz0 <| .c oz1 <| .c oz2 <| .c oz3 <| .c oz4 <| .c oz5 <| .c oz6 <| .c oz7 <| .c oz8 <| .c oz9 <| .c oz10 <| .c oz11 <| .c oz12 <| .c oz7 <| .c oz8 <| .c oz9 <| .c oz16 <| .c oz16 <| .c oz16 <| .c oz10 <| .c oz10 <| .c oz21 <| .c (show (0 : Int) ≤ (2 : Int) by omega) <| .c (show (2 : Int) < (↑(6 : Nat) : Int) by omega) <| .c oz24 <| .c oz6 <| .c (show (0 : Int) ≤ (3 : Int) by omega) <| .c (show (3 : Int) < (↑(6 : Nat) : Int) by omega) <| .c oz28 <| .c oz10 <| .c (show ((List.map (row1 IntKind.u8) ([] ++ L n.kd ++ L n.na ++ L n.nk ++ L n.ns ++ L n.np)).length + 1) * 1 ≤ 140737488355328 by (simp only [List.length_map] at *; omega)) <| .c (show (List.map (row1 IntKind.u8) ([] ++ L n.kd ++ L n.na ++ L n.nk ++ L n.ns ++ L n.np)).length + 1 ≤ 9223372036854775807 by (simp only [List.length_map] at *; omega)) <| .c oz3 <| .c oz4 <| .c oz5 <| .c oz6 <| .c (show (0 : Int) ≤ (4 : Int) by omega) <| .c (show (4 : Int) < (↑(6 : Nat) : Int) by omega) <| .c oz38 <| .c oz10 <| .c oz40 <| .c (show (0 : Int) ≤ (5 : Int) by omega) <| .c (show (5 : Int) < (↑(6 : Nat) : Int) by omega) <| .c oz43 <| .c oz10 <| .c (IntWalk.i64_in n.qm (by omega)) <| .c oz46 <| .c oz47 <| .c (show ((List.map (row1 IntKind.u8) ([] ++ L n.kd ++ L n.na ++ L n.nk ++ L n.ns ++ L n.np ++ [IntKind.u8.wrap n.za] ++ L (↑n.w.length : Int) ++ smallL n.w ++ L (↑n.b.length : Int) ++ wideL n.b ++ L n.qm ++ L n.qs)).length + 1) * 1 ≤ 140737488355328 by (simp only [List.length_map] at *; omega)) <| .c (show (List.map (row1 IntKind.u8) ([] ++ L n.kd ++ L n.na ++ L n.nk ++ L n.ns ++ L n.np ++ [IntKind.u8.wrap n.za] ++ L (↑n.w.length : Int) ++ smallL n.w ++ L (↑n.b.length : Int) ++ wideL n.b ++ L n.qm ++ L n.qs)).length + 1 ≤ 9223372036854775807 by (simp only [List.length_map] at *; omega)) <| .c oz3 <| .c oz4 <| .c oz5 <| .c oz6 <| .c (show ((List.map (row1 IntKind.u8) ([] ++ L n.kd ++ L n.na ++ L n.nk ++ L n.ns ++ L n.np ++ [IntKind.u8.wrap n.za] ++ L (↑n.w.length : Int) ++ smallL n.w ++ L (↑n.b.length : Int) ++ wideL n.b ++ L n.qm ++ L n.qs) ++ [[u8 (IntKind.u8.wrap n.qz)]]).length + 2) * 1 ≤ 140737488355328 by (simp at *; omega)) <| .c (show (List.map (row1 IntKind.u8) ([] ++ L n.kd ++ L n.na ++ L n.nk ++ L n.ns ++ L n.np ++ [IntKind.u8.wrap n.za] ++ L (↑n.w.length : Int) ++ smallL n.w ++ L (↑n.b.length : Int) ++ wideL n.b ++ L n.qm ++ L n.qs) ++ [[u8 (IntKind.u8.wrap n.qz)]]).length + 2 ≤ 9223372036854775807 by (simp at *; omega)) <| .n)).weak (WeakL.refl _) (Weak.rows (rows_to (row1 IntKind.u8) (r := List.map (row1 IntKind.u8) ([] ++ L n.kd ++ L n.na ++ L n.nk ++ L n.ns ++ L n.np ++ [IntKind.u8.wrap n.za] ++ L (↑n.w.length : Int) ++ smallL n.w ++ L (↑n.b.length : Int) ++ wideL n.b ++ L n.qm ++ L n.qs) ++ [[u8 (IntKind.u8.wrap n.qz)]] ++ [[u8 (IntKind.u8.wrap n.lo)], [u8 (IntKind.u8.wrap n.hi)]]) (l := [] ++ L n.kd ++ L n.na ++ L n.nk ++ L n.ns ++ L n.np ++ [IntKind.u8.wrap n.za] ++ L (↑n.w.length : Int) ++ smallL n.w ++ L (↑n.b.length : Int) ++ wideL n.b ++ L n.qm ++ L n.qs ++ [IntKind.u8.wrap n.qz] ++ [IntKind.u8.wrap n.lo, IntKind.u8.wrap n.hi]) (m := L n.kd ++ L n.na ++ L n.nk ++ L n.ns ++ L n.np ++ [IntKind.u8.wrap n.za] ++ L (↑n.w.length : Int) ++ smallL n.w ++ L (↑n.b.length : Int) ++ wideL n.b ++ L n.qm ++ L n.qs ++ [IntKind.u8.wrap n.qz] ++ [IntKind.u8.wrap n.lo] ++ [IntKind.u8.wrap n.hi]) (by first | (simp only [List.map_append, List.map_cons, List.map_nil, List.map_set, List.map_replicate, List.map_take, List.map_drop]; done) | rfl | (simp only [List.map_append, List.map_cons, List.map_nil, List.map_set, List.map_replicate, List.map_take, List.map_drop]; rfl)) (show ([] ++ L n.kd ++ L n.na ++ L n.nk ++ L n.ns ++ L n.np ++ [IntKind.u8.wrap n.za] ++ L (↑n.w.length : Int) ++ smallL n.w ++ L (↑n.b.length : Int) ++ wideL n.b ++ L n.qm ++ L n.qs ++ [IntKind.u8.wrap n.qz] ++ [IntKind.u8.wrap n.lo, IntKind.u8.wrap n.hi]) = (L n.kd ++ L n.na ++ L n.nk ++ L n.ns ++ L n.np ++ [IntKind.u8.wrap n.za] ++ L (↑n.w.length : Int) ++ smallL n.w ++ L (↑n.b.length : Int) ++ wideL n.b ++ L n.qm ++ L n.qs ++ [IntKind.u8.wrap n.qz] ++ [IntKind.u8.wrap n.lo] ++ [IntKind.u8.wrap n.hi]) from (by (simp; done)))))

set_option maxRecDepth 100000 in
set_option maxHeartbeats 2000000 in
theorem rbytes_3 (L : Int → List Int) (n : Nod) (hL : RPuts L) (hk : n.kd = 3) (hw : n.w.length ≤ 16384) (hb : n.b.length ≤ 16384) (hx : ∀ x ∈ n.b, -2147483648 ≤ x ∧ x ≤ 2147483647) (hq : In32 n.qm) (hr : In32 n.rm) : VC Try.prog 107 ([nod n]) (.sl 1 ((L n.kd ++ L n.na ++ L n.no ++ [IntKind.u8.wrap n.za] ++ L (n.w.length : Int) ++ smallL n.w ++ L (n.b.length : Int) ++ wideL n.b ++ L n.qm ++ L n.qs ++ [IntKind.u8.wrap n.qz] ++ [IntKind.u8.wrap n.lo] ++ [IntKind.u8.wrap n.hi]).map (row1 .u8))) := by
  have q0 := hL.l n.kd
  have q1 := hL.l n.na
  have q2 := hL.l n.no
  have q3 : ([IntKind.u8.wrap n.za]).length = 1 := rfl
  have q4 := hL.l (n.w.length : Int)
  have q5 : (smallL n.w).length = n.w.length := List.length_map _
  have q6 := hL.l (n.b.length : Int)
  have q7 := wideL_len n.b hx
  have q8 := hL.l n.qm
  have q9 := hL.l n.qs
  have q10 : ([IntKind.u8.wrap n.qz]).length = 1 := rfl
  have q11 : ([IntKind.u8.wrap n.lo]).length = 1 := rfl
  have q12 : ([IntKind.u8.wrap n.hi]).length = 1 := rfl
  have bu0 : ([] ++ L n.kd).length ≤ 1000000 := by (try simp only [List.nil_append, List.length_append]); omega
  have bu1 : ([] ++ L n.kd ++ L n.na).length ≤ 1000000 := by (try simp only [List.nil_append, List.length_append]); omega
  have bu2 : ([] ++ L n.kd ++ L n.na ++ L n.no).length ≤ 1000000 := by (try simp only [List.nil_append, List.length_append]); omega
  have bu3 : ([] ++ L n.kd ++ L n.na ++ L n.no ++ [IntKind.u8.wrap n.za]).length ≤ 500000 := by (try simp only [List.nil_append, List.length_append]); omega
  have bu4 : ([] ++ L n.kd ++ L n.na ++ L n.no ++ [IntKind.u8.wrap n.za] ++ L (n.w.length : Int)).length ≤ 1000000 := by (try simp only [List.nil_append, List.length_append]); omega
  have bu5 : ([] ++ L n.kd ++ L n.na ++ L n.no ++ [IntKind.u8.wrap n.za] ++ L (n.w.length : Int) ++ smallL n.w).length ≤ 1000000 := by (try simp only [List.nil_append, List.length_append]); omega
  have bu6 : ([] ++ L n.kd ++ L n.na ++ L n.no ++ [IntKind.u8.wrap n.za] ++ L (n.w.length : Int) ++ smallL n.w ++ L (n.b.length : Int)).length ≤ 1000000 := by (try simp only [List.nil_append, List.length_append]); omega
  have bu7 : ([] ++ L n.kd ++ L n.na ++ L n.no ++ [IntKind.u8.wrap n.za] ++ L (n.w.length : Int) ++ smallL n.w ++ L (n.b.length : Int) ++ wideL n.b).length ≤ 1000000 := by (try simp only [List.nil_append, List.length_append]); omega
  have bu8 : ([] ++ L n.kd ++ L n.na ++ L n.no ++ [IntKind.u8.wrap n.za] ++ L (n.w.length : Int) ++ smallL n.w ++ L (n.b.length : Int) ++ wideL n.b ++ L n.qm).length ≤ 1000000 := by (try simp only [List.nil_append, List.length_append]); omega
  have bu9 : ([] ++ L n.kd ++ L n.na ++ L n.no ++ [IntKind.u8.wrap n.za] ++ L (n.w.length : Int) ++ smallL n.w ++ L (n.b.length : Int) ++ wideL n.b ++ L n.qm ++ L n.qs).length ≤ 1000000 := by (try simp only [List.nil_append, List.length_append]); omega
  have bu10 : ([] ++ L n.kd ++ L n.na ++ L n.no ++ [IntKind.u8.wrap n.za] ++ L (n.w.length : Int) ++ smallL n.w ++ L (n.b.length : Int) ++ wideL n.b ++ L n.qm ++ L n.qs ++ [IntKind.u8.wrap n.qz]).length ≤ 1000000 := by (try simp only [List.nil_append, List.length_append]); omega
  have bu11 : ([] ++ L n.kd ++ L n.na ++ L n.no ++ [IntKind.u8.wrap n.za] ++ L (n.w.length : Int) ++ smallL n.w ++ L (n.b.length : Int) ++ wideL n.b ++ L n.qm ++ L n.qs ++ [IntKind.u8.wrap n.qz] ++ [IntKind.u8.wrap n.lo]).length ≤ 1000000 := by (try simp only [List.nil_append, List.length_append]); omega
  have bu12 : ([] ++ L n.kd ++ L n.na ++ L n.no ++ [IntKind.u8.wrap n.za] ++ L (n.w.length : Int) ++ smallL n.w ++ L (n.b.length : Int) ++ wideL n.b ++ L n.qm ++ L n.qs ++ [IntKind.u8.wrap n.qz] ++ [IntKind.u8.wrap n.lo] ++ [IntKind.u8.wrap n.hi]).length ≤ 1000000 := by (try simp only [List.nil_append, List.length_append]); omega
  clear q0 q1 q2 q3 q4 q5 q6 q7 q8 q9 q10 q11 q12
  have w5 : n.w.length ≤ 100000 := by omega
  have b5 : n.b.length ≤ 100000 := by omega
  have oz0 := @tells_3 (n.kd) hk
  have oz1 := @VM.pre _ _ ([AV.lit (Value.slice none 0 0), i64 n.kd]) _ ([]) _ _ _ ([GI.nils 0 950 5 1, GI.sort]) _ (@rput_1 ([]) (L) (n.kd) (by (simp; done)) hL) (by kernel_rfl) (.n)
  have oz2 := @rput_1 ([] ++ L n.kd) (L) (n.na) bu0 hL
  have oz3 := (show (0 : Int) ≤ (0 : Int) by omega)
  have oz4 := (show (0 : Int) < (↑(6 : Nat) : Int) by omega)
  have oz5 := (show [[bv false], [bv false], [bv true], [bv true], [bv true], [bv true]][(0 : Nat)]? = some [bv false] from rfl)
  have oz6 := (show false = false by with_reducible rfl)
  have oz7 := (show (0 : Int) ≤ (1 : Int) by omega)
  have oz8 := (show (1 : Int) < (↑(6 : Nat) : Int) by omega)
  have oz9 := (show [[bv false], [bv false], [bv true], [bv true], [bv true], [bv true]][(1 : Nat)]? = some [bv false] from rfl)
  have oz21 := (show [[bv false], [bv false], [bv true], [bv true], [bv true], [bv true]][(2 : Nat)]? = some [bv true] from rfl)
  have oz22 := (show true = true by with_reducible rfl)
  have oz23 := @rput_1 ([] ++ L n.kd ++ L n.na) (L) (n.no) bu1 hL
  have oz26 := (show [[bv false], [bv false], [bv true], [bv true], [bv true], [bv true]][(3 : Nat)]? = some [bv true] from rfl)
  have oz36 := (show [[bv false], [bv false], [bv true], [bv true], [bv true], [bv true]][(4 : Nat)]? = some [bv true] from rfl)
  have oz38 := @VM.pre _ _ ([AV.own 950, AV.sl 1 (List.map (row1 IntKind.i8) n.w), AV.sl 1 (List.map (row1 IntKind.i32) n.b)]) _ ([(950, Blk.slc 5 1 (List.map (row1 IntKind.u8) ([] ++ L n.kd ++ L n.na ++ L n.no) ++ [[u8 (IntKind.u8.wrap n.za)]]))]) _ _ _ ([GI.blk 950 (Blk.slc 5 1 (List.map (row1 IntKind.u8) ([] ++ L n.kd ++ L n.na ++ L n.no ++ [IntKind.u8.wrap n.za]))), GI.sort]) _ (@rlists_v ([] ++ L n.kd ++ L n.na ++ L n.no ++ [IntKind.u8.wrap n.za]) (L) (n.w) (n.b) bu3 hL w5 hb hx) (by kernel_rfl) (.c (BlkW.rows (e := 5) (z := 1) (rows_to (row1 IntKind.u8) (r := List.map (row1 IntKind.u8) ([] ++ L n.kd ++ L n.na ++ L n.no) ++ [[u8 (IntKind.u8.wrap n.za)]]) (l := [] ++ L n.kd ++ L n.na ++ L n.no ++ [IntKind.u8.wrap n.za]) (m := [] ++ L n.kd ++ L n.na ++ L n.no ++ [IntKind.u8.wrap n.za]) (by first | (simp only [List.map_append, List.map_cons, List.map_nil, List.map_set, List.map_replicate, List.map_take, List.map_drop]; done) | rfl | (simp only [List.map_append, List.map_cons, List.map_nil, List.map_set, List.map_replicate, List.map_take, List.map_drop]; rfl)) rfl)) <| .n)
  have oz41 := (show [[bv false], [bv false], [bv true], [bv true], [bv true], [bv true]][(5 : Nat)]? = some [bv true] from rfl)
  have oz44 := @rput_1 ([] ++ L n.kd ++ L n.na ++ L n.no ++ [IntKind.u8.wrap n.za] ++ L (↑n.w.length : Int) ++ smallL n.w ++ L (↑n.b.length : Int) ++ wideL n.b) (L) (n.qm) bu7 hL
  have oz45 := @rput_1 ([] ++ L n.kd ++ L n.na ++ L n.no ++ [IntKind.u8.wrap n.za] ++ L (↑n.w.length : Int) ++ smallL n.w ++ L (↑n.b.length : Int) ++ wideL n.b ++ L n.qm) (L) (n.qs) bu8 hL
  exact (VC.run (fn := Try.f107) (W := [.r [] [], .r [] [.callr (rO oz0)], .r [] [.callm [] [(951, 20000)] (rM oz1) (oM oz1), .callm [(20000, 950)] [(951, 20001)] (rM oz2) (oM oz2)], .r [] [.row (sO oz5)], .br false, .r [] [.row (sO oz5)], .br false, .r [] [.row (sO oz5), .br true, .br true, .br true, .br false], .br false, .r [] [.row (sO oz21)], .br true, .r [] [.callm [(20001, 950)] [(951, 20002)] (rM oz23) (oM oz23)], .r [] [.row (sO oz26)], .br true, .r [] [.w], .r [] [.row (sO oz5)], .br false, .r [] [.row (sO oz36)], .br true, .r [] [.callm [(53, 950)] [(951, 20003)] (rM oz38) (oM oz38)], .r [] [.row (sO oz41)], .br true, .r [] [.n n.qm, .callm [(20003, 950)] [(951, 20004)] (rM oz44) (oM oz44), .callm [(20004, 950)] [(951, 20005)] (rM oz45) (oM oz45), .w], .r [] [.row (sO oz5)], .br false, .r [] [.w, .w], .r [] []]) (r := AV.sl 1 (List.map (row1 IntKind.u8) ([] ++ L n.kd ++ L n.na ++ L n.no ++ [IntKind.u8.wrap n.za] ++ L (↑n.w.length : Int) ++ smallL n.w ++ L (↑n.b.length : Int) ++ wideL n.b ++ L n.qm ++ L n.qs) ++ [[u8 (IntKind.u8.wrap n.qz)]] ++ [[u8 (IntKind.u8.wrap n.lo)], [u8 (IntKind.u8.wrap n.hi)]])) Try.func107 (by kernel_rfl) (.c oz0 <| .c oz1 <| .c oz2 <| .c oz3 <| .c oz4 <| .c oz5 <| .c oz6 <| .c oz7 <| .c oz8 <| .c oz9 <| .c oz6 <| .c oz7 <| .c oz8 <| .c oz9 <| .c oz6 <| .c oz6 <| .c oz6 <| .c oz6 <| .c (show (n.kd == 8) = false by (refine decide_eq_false ?_; omega)) <| .c (show (0 : Int) ≤ (2 : Int) by omega) <| .c (show (2 : Int) < (↑(6 : Nat) : Int) by omega) <| .c oz21 <| .c oz22 <| .c oz23 <| .c (show (0 : Int) ≤ (3 : Int) by omega) <| .c (show (3 : Int) < (↑(6 : Nat) : Int) by omega) <| .c oz26 <| .c oz22 <| .c (show ((List.map (row1 IntKind.u8) ([] ++ L n.kd ++ L n.na ++ L n.no)).length + 1) * 1 ≤ 140737488355328 by (simp only [List.length_map] at *; omega)) <| .c (show (List.map (row1 IntKind.u8) ([] ++ L n.kd ++ L n.na ++ L n.no)).length + 1 ≤ 9223372036854775807 by (simp only [List.length_map] at *; omega)) <| .c oz3 <| .c oz4 <| .c oz5 <| .c oz6 <| .c (show (0 : Int) ≤ (4 : Int) by omega) <| .c (show (4 : Int) < (↑(6 : Nat) : Int) by omega) <| .c oz36 <| .c oz22 <| .c oz38 <| .c (show (0 : Int) ≤ (5 : Int) by omega) <| .c (show (5 : Int) < (↑(6 : Nat) : Int) by omega) <| .c oz41 <| .c oz22 <| .c (IntWalk.i64_in n.qm (by omega)) <| .c oz44 <| .c oz45 <| .c (show ((List.map (row1 IntKind.u8) ([] ++ L n.kd ++ L n.na ++ L n.no ++ [IntKind.u8.wrap n.za] ++ L (↑n.w.length : Int) ++ smallL n.w ++ L (↑n.b.length : Int) ++ wideL n.b ++ L n.qm ++ L n.qs)).length + 1) * 1 ≤ 140737488355328 by (simp only [List.length_map] at *; omega)) <| .c (show (List.map (row1 IntKind.u8) ([] ++ L n.kd ++ L n.na ++ L n.no ++ [IntKind.u8.wrap n.za] ++ L (↑n.w.length : Int) ++ smallL n.w ++ L (↑n.b.length : Int) ++ wideL n.b ++ L n.qm ++ L n.qs)).length + 1 ≤ 9223372036854775807 by (simp only [List.length_map] at *; omega)) <| .c oz3 <| .c oz4 <| .c oz5 <| .c oz6 <| .c (show ((List.map (row1 IntKind.u8) ([] ++ L n.kd ++ L n.na ++ L n.no ++ [IntKind.u8.wrap n.za] ++ L (↑n.w.length : Int) ++ smallL n.w ++ L (↑n.b.length : Int) ++ wideL n.b ++ L n.qm ++ L n.qs) ++ [[u8 (IntKind.u8.wrap n.qz)]]).length + 2) * 1 ≤ 140737488355328 by (simp at *; omega)) <| .c (show (List.map (row1 IntKind.u8) ([] ++ L n.kd ++ L n.na ++ L n.no ++ [IntKind.u8.wrap n.za] ++ L (↑n.w.length : Int) ++ smallL n.w ++ L (↑n.b.length : Int) ++ wideL n.b ++ L n.qm ++ L n.qs) ++ [[u8 (IntKind.u8.wrap n.qz)]]).length + 2 ≤ 9223372036854775807 by (simp at *; omega)) <| .n)).weak (WeakL.refl _) (Weak.rows (rows_to (row1 IntKind.u8) (r := List.map (row1 IntKind.u8) ([] ++ L n.kd ++ L n.na ++ L n.no ++ [IntKind.u8.wrap n.za] ++ L (↑n.w.length : Int) ++ smallL n.w ++ L (↑n.b.length : Int) ++ wideL n.b ++ L n.qm ++ L n.qs) ++ [[u8 (IntKind.u8.wrap n.qz)]] ++ [[u8 (IntKind.u8.wrap n.lo)], [u8 (IntKind.u8.wrap n.hi)]]) (l := [] ++ L n.kd ++ L n.na ++ L n.no ++ [IntKind.u8.wrap n.za] ++ L (↑n.w.length : Int) ++ smallL n.w ++ L (↑n.b.length : Int) ++ wideL n.b ++ L n.qm ++ L n.qs ++ [IntKind.u8.wrap n.qz] ++ [IntKind.u8.wrap n.lo, IntKind.u8.wrap n.hi]) (m := L n.kd ++ L n.na ++ L n.no ++ [IntKind.u8.wrap n.za] ++ L (↑n.w.length : Int) ++ smallL n.w ++ L (↑n.b.length : Int) ++ wideL n.b ++ L n.qm ++ L n.qs ++ [IntKind.u8.wrap n.qz] ++ [IntKind.u8.wrap n.lo] ++ [IntKind.u8.wrap n.hi]) (by first | (simp only [List.map_append, List.map_cons, List.map_nil, List.map_set, List.map_replicate, List.map_take, List.map_drop]; done) | rfl | (simp only [List.map_append, List.map_cons, List.map_nil, List.map_set, List.map_replicate, List.map_take, List.map_drop]; rfl)) (show ([] ++ L n.kd ++ L n.na ++ L n.no ++ [IntKind.u8.wrap n.za] ++ L (↑n.w.length : Int) ++ smallL n.w ++ L (↑n.b.length : Int) ++ wideL n.b ++ L n.qm ++ L n.qs ++ [IntKind.u8.wrap n.qz] ++ [IntKind.u8.wrap n.lo, IntKind.u8.wrap n.hi]) = (L n.kd ++ L n.na ++ L n.no ++ [IntKind.u8.wrap n.za] ++ L (↑n.w.length : Int) ++ smallL n.w ++ L (↑n.b.length : Int) ++ wideL n.b ++ L n.qm ++ L n.qs ++ [IntKind.u8.wrap n.qz] ++ [IntKind.u8.wrap n.lo] ++ [IntKind.u8.wrap n.hi]) from (by (simp; done)))))

set_option maxRecDepth 100000 in
set_option maxHeartbeats 2000000 in
theorem rbytes_4 (L : Int → List Int) (n : Nod) (hL : RPuts L) (hk : n.kd = 4 ∨ n.kd = 5) (hw : n.w.length ≤ 16384) (hb : n.b.length ≤ 16384) (hx : ∀ x ∈ n.b, -2147483648 ≤ x ∧ x ≤ 2147483647) (hq : In32 n.qm) (hr : In32 n.rm) : VC Try.prog 107 ([nod n]) (.sl 1 ((L n.kd ++ L n.na ++ L n.nk ++ L n.ns ++ L n.np).map (row1 .u8))) := by
  have q0 := hL.l n.kd
  have q1 := hL.l n.na
  have q2 := hL.l n.nk
  have q3 := hL.l n.ns
  have q4 := hL.l n.np
  have bu0 : ([] ++ L n.kd).length ≤ 1000000 := by (try simp only [List.nil_append, List.length_append]); omega
  have bu1 : ([] ++ L n.kd ++ L n.na).length ≤ 1000000 := by (try simp only [List.nil_append, List.length_append]); omega
  have bu2 : ([] ++ L n.kd ++ L n.na ++ L n.nk).length ≤ 1000000 := by (try simp only [List.nil_append, List.length_append]); omega
  have bu3 : ([] ++ L n.kd ++ L n.na ++ L n.nk ++ L n.ns).length ≤ 1000000 := by (try simp only [List.nil_append, List.length_append]); omega
  have bu4 : ([] ++ L n.kd ++ L n.na ++ L n.nk ++ L n.ns ++ L n.np).length ≤ 1000000 := by (try simp only [List.nil_append, List.length_append]); omega
  clear q0 q1 q2 q3 q4
  have w5 : n.w.length ≤ 100000 := by omega
  have b5 : n.b.length ≤ 100000 := by omega
  have oz0 := @tells_4 (n.kd) hk
  have oz1 := @VM.pre _ _ ([AV.lit (Value.slice none 0 0), i64 n.kd]) _ ([]) _ _ _ ([GI.nils 0 950 5 1, GI.sort]) _ (@rput_1 ([]) (L) (n.kd) (by (simp; done)) hL) (by kernel_rfl) (.n)
  have oz2 := @rput_1 ([] ++ L n.kd) (L) (n.na) bu0 hL
  have oz3 := (show (0 : Int) ≤ (0 : Int) by omega)
  have oz4 := (show (0 : Int) < (↑(6 : Nat) : Int) by omega)
  have oz5 := (show [[bv false], [bv true], [bv false], [bv false], [bv false], [bv false]][(0 : Nat)]? = some [bv false] from rfl)
  have oz6 := (show false = false by with_reducible rfl)
  have oz7 := (show (0 : Int) ≤ (1 : Int) by omega)
  have oz8 := (show (1 : Int) < (↑(6 : Nat) : Int) by omega)
  have oz9 := (show [[bv false], [bv true], [bv false], [bv false], [bv false], [bv false]][(1 : Nat)]? = some [bv true] from rfl)
  have oz10 := (show true = true by with_reducible rfl)
  have oz11 := @rput_1 ([] ++ L n.kd ++ L n.na) (L) (n.nk) bu1 hL
  have oz12 := @rput_1 ([] ++ L n.kd ++ L n.na ++ L n.nk) (L) (n.ns) bu2 hL
  have oz16 := (show true = !false by (simp; done))
  have oz21 := @rput_1 ([] ++ L n.kd ++ L n.na ++ L n.nk ++ L n.ns) (L) (n.np) bu3 hL
  have oz24 := (show [[bv false], [bv true], [bv false], [bv false], [bv false], [bv false]][(2 : Nat)]? = some [bv false] from rfl)
  have oz28 := (show [[bv false], [bv true], [bv false], [bv false], [bv false], [bv false]][(3 : Nat)]? = some [bv false] from rfl)
  have oz36 := (show [[bv false], [bv true], [bv false], [bv false], [bv false], [bv false]][(4 : Nat)]? = some [bv false] from rfl)
  have oz40 := (show [[bv false], [bv true], [bv false], [bv false], [bv false], [bv false]][(5 : Nat)]? = some [bv false] from rfl)
  exact (VC.run (fn := Try.f107) (W := [.r [] [], .r [] [.callr (rO oz0)], .r [] [.callm [] [(951, 20000)] (rM oz1) (oM oz1), .callm [(20000, 950)] [(951, 20001)] (rM oz2) (oM oz2)], .r [] [.row (sO oz5)], .br false, .r [] [.row (sO oz9)], .br true, .r [] [.callm [(20001, 950)] [(951, 20002)] (rM oz11) (oM oz11), .callm [(20002, 950)] [(951, 20003)] (rM oz12) (oM oz12)], .r [] [.row (sO oz9), .br false, .br false, .br false, .br true], .br true, .r [] [.callm [(20003, 950)] [(951, 20004)] (rM oz21) (oM oz21)], .r [] [.row (sO oz24)], .br false, .r [] [.row (sO oz24)], .br false, .r [] [.row (sO oz24)], .br false, .r [] [.row (sO oz24)], .br false, .r [] [.row (sO oz24)], .br false, .r [] []]) (r := AV.sl 1 (List.map (row1 IntKind.u8) ([] ++ L n.kd ++ L n.na ++ L n.nk ++ L n.ns ++ L n.np))) Try.func107 (by kernel_rfl) (.c oz0 <| .c oz1 <| .c oz2 <| .c oz3 <| .c oz4 <| .c oz5 <| .c oz6 <| .c oz7 <| .c oz8 <| .c oz9 <| .c oz10 <| .c oz11 <| .c oz12 <| .c oz7 <| .c oz8 <| .c oz9 <| .c oz16 <| .c oz16 <| .c oz16 <| .c oz10 <| .c oz10 <| .c oz21 <| .c (show (0 : Int) ≤ (2 : Int) by omega) <| .c (show (2 : Int) < (↑(6 : Nat) : Int) by omega) <| .c oz24 <| .c oz6 <| .c (show (0 : Int) ≤ (3 : Int) by omega) <| .c (show (3 : Int) < (↑(6 : Nat) : Int) by omega) <| .c oz28 <| .c oz6 <| .c oz3 <| .c oz4 <| .c oz5 <| .c oz6 <| .c (show (0 : Int) ≤ (4 : Int) by omega) <| .c (show (4 : Int) < (↑(6 : Nat) : Int) by omega) <| .c oz36 <| .c oz6 <| .c (show (0 : Int) ≤ (5 : Int) by omega) <| .c (show (5 : Int) < (↑(6 : Nat) : Int) by omega) <| .c oz40 <| .c oz6 <| .n)).weak (WeakL.refl _) (Weak.rows (rows_to (row1 IntKind.u8) (r := List.map (row1 IntKind.u8) ([] ++ L n.kd ++ L n.na ++ L n.nk ++ L n.ns ++ L n.np)) (l := [] ++ L n.kd ++ L n.na ++ L n.nk ++ L n.ns ++ L n.np) (m := L n.kd ++ L n.na ++ L n.nk ++ L n.ns ++ L n.np) rfl (show ([] ++ L n.kd ++ L n.na ++ L n.nk ++ L n.ns ++ L n.np) = (L n.kd ++ L n.na ++ L n.nk ++ L n.ns ++ L n.np) from (by (simp; done)))))

set_option maxRecDepth 100000 in
set_option maxHeartbeats 2000000 in
theorem rbytes_6 (L : Int → List Int) (n : Nod) (hL : RPuts L) (hk : n.kd = 6) (hw : n.w.length ≤ 16384) (hb : n.b.length ≤ 16384) (hx : ∀ x ∈ n.b, -2147483648 ≤ x ∧ x ≤ 2147483647) (hq : In32 n.qm) (hr : In32 n.rm) : VC Try.prog 107 ([nod n]) (.sl 1 ((L n.kd ++ L n.na ++ L n.nb ++ [IntKind.u8.wrap n.za] ++ [IntKind.u8.wrap n.zb] ++ L n.qm ++ L n.qs ++ [IntKind.u8.wrap n.qz] ++ L n.rm ++ L n.rs ++ [IntKind.u8.wrap n.lo] ++ [IntKind.u8.wrap n.hi]).map (row1 .u8))) := by
  have q0 := hL.l n.kd
  have q1 := hL.l n.na
  have q2 := hL.l n.nb
  have q3 : ([IntKind.u8.wrap n.za]).length = 1 := rfl
  have q4 : ([IntKind.u8.wrap n.zb]).length = 1 := rfl
  have q5 := hL.l n.qm
  have q6 := hL.l n.qs
  have q7 : ([IntKind.u8.wrap n.qz]).length = 1 := rfl
  have q8 := hL.l n.rm
  have q9 := hL.l n.rs
  have q10 : ([IntKind.u8.wrap n.lo]).length = 1 := rfl
  have q11 : ([IntKind.u8.wrap n.hi]).length = 1 := rfl
  have bu0 : ([] ++ L n.kd).length ≤ 1000000 := by (try simp only [List.nil_append, List.length_append]); omega
  have bu1 : ([] ++ L n.kd ++ L n.na).length ≤ 1000000 := by (try simp only [List.nil_append, List.length_append]); omega
  have bu2 : ([] ++ L n.kd ++ L n.na ++ L n.nb).length ≤ 1000000 := by (try simp only [List.nil_append, List.length_append]); omega
  have bu3 : ([] ++ L n.kd ++ L n.na ++ L n.nb ++ [IntKind.u8.wrap n.za]).length ≤ 1000000 := by (try simp only [List.nil_append, List.length_append]); omega
  have bu4 : ([] ++ L n.kd ++ L n.na ++ L n.nb ++ [IntKind.u8.wrap n.za] ++ [IntKind.u8.wrap n.zb]).length ≤ 1000000 := by (try simp only [List.nil_append, List.length_append]); omega
  have bu5 : ([] ++ L n.kd ++ L n.na ++ L n.nb ++ [IntKind.u8.wrap n.za] ++ [IntKind.u8.wrap n.zb] ++ L n.qm).length ≤ 1000000 := by (try simp only [List.nil_append, List.length_append]); omega
  have bu6 : ([] ++ L n.kd ++ L n.na ++ L n.nb ++ [IntKind.u8.wrap n.za] ++ [IntKind.u8.wrap n.zb] ++ L n.qm ++ L n.qs).length ≤ 1000000 := by (try simp only [List.nil_append, List.length_append]); omega
  have bu7 : ([] ++ L n.kd ++ L n.na ++ L n.nb ++ [IntKind.u8.wrap n.za] ++ [IntKind.u8.wrap n.zb] ++ L n.qm ++ L n.qs ++ [IntKind.u8.wrap n.qz]).length ≤ 1000000 := by (try simp only [List.nil_append, List.length_append]); omega
  have bu8 : ([] ++ L n.kd ++ L n.na ++ L n.nb ++ [IntKind.u8.wrap n.za] ++ [IntKind.u8.wrap n.zb] ++ L n.qm ++ L n.qs ++ [IntKind.u8.wrap n.qz] ++ L n.rm).length ≤ 1000000 := by (try simp only [List.nil_append, List.length_append]); omega
  have bu9 : ([] ++ L n.kd ++ L n.na ++ L n.nb ++ [IntKind.u8.wrap n.za] ++ [IntKind.u8.wrap n.zb] ++ L n.qm ++ L n.qs ++ [IntKind.u8.wrap n.qz] ++ L n.rm ++ L n.rs).length ≤ 1000000 := by (try simp only [List.nil_append, List.length_append]); omega
  have bu10 : ([] ++ L n.kd ++ L n.na ++ L n.nb ++ [IntKind.u8.wrap n.za] ++ [IntKind.u8.wrap n.zb] ++ L n.qm ++ L n.qs ++ [IntKind.u8.wrap n.qz] ++ L n.rm ++ L n.rs ++ [IntKind.u8.wrap n.lo]).length ≤ 1000000 := by (try simp only [List.nil_append, List.length_append]); omega
  have bu11 : ([] ++ L n.kd ++ L n.na ++ L n.nb ++ [IntKind.u8.wrap n.za] ++ [IntKind.u8.wrap n.zb] ++ L n.qm ++ L n.qs ++ [IntKind.u8.wrap n.qz] ++ L n.rm ++ L n.rs ++ [IntKind.u8.wrap n.lo] ++ [IntKind.u8.wrap n.hi]).length ≤ 1000000 := by (try simp only [List.nil_append, List.length_append]); omega
  clear q0 q1 q2 q3 q4 q5 q6 q7 q8 q9 q10 q11
  have w5 : n.w.length ≤ 100000 := by omega
  have b5 : n.b.length ≤ 100000 := by omega
  have oz0 := @tells_6 (n.kd) hk
  have oz1 := @VM.pre _ _ ([AV.lit (Value.slice none 0 0), i64 n.kd]) _ ([]) _ _ _ ([GI.nils 0 950 5 1, GI.sort]) _ (@rput_1 ([]) (L) (n.kd) (by (simp; done)) hL) (by kernel_rfl) (.n)
  have oz2 := @rput_1 ([] ++ L n.kd) (L) (n.na) bu0 hL
  have oz3 := (show (0 : Int) ≤ (0 : Int) by omega)
  have oz4 := (show (0 : Int) < (↑(6 : Nat) : Int) by omega)
  have oz5 := (show [[bv true], [bv false], [bv false], [bv true], [bv false], [bv true]][(0 : Nat)]? = some [bv true] from rfl)
  have oz6 := (show true = true by with_reducible rfl)
  have oz7 := @rput_1 ([] ++ L n.kd ++ L n.na) (L) (n.nb) bu1 hL
  have oz8 := (show (0 : Int) ≤ (1 : Int) by omega)
  have oz9 := (show (1 : Int) < (↑(6 : Nat) : Int) by omega)
  have oz10 := (show [[bv true], [bv false], [bv false], [bv true], [bv false], [bv true]][(1 : Nat)]? = some [bv false] from rfl)
  have oz11 := (show false = false by with_reducible rfl)
  have oz22 := (show [[bv true], [bv false], [bv false], [bv true], [bv false], [bv true]][(2 : Nat)]? = some [bv false] from rfl)
  have oz26 := (show [[bv true], [bv false], [bv false], [bv true], [bv false], [bv true]][(3 : Nat)]? = some [bv true] from rfl)
  have oz38 := (show [[bv true], [bv false], [bv false], [bv true], [bv false], [bv true]][(4 : Nat)]? = some [bv false] from rfl)
  have oz42 := (show [[bv true], [bv false], [bv false], [bv true], [bv false], [bv true]][(5 : Nat)]? = some [bv true] from rfl)
  have oz45 := @VM.pre _ _ ([AV.own 950, i64 n.qm]) _ ([(950, Blk.slc 5 1 (List.map (row1 IntKind.u8) ([] ++ L n.kd ++ L n.na ++ L n.nb) ++ [[u8 (IntKind.u8.wrap n.za)]] ++ [[u8 (IntKind.u8.wrap n.zb)]]))]) _ _ _ ([GI.blk 950 (Blk.slc 5 1 (List.map (row1 IntKind.u8) ([] ++ L n.kd ++ L n.na ++ L n.nb ++ [IntKind.u8.wrap n.za] ++ [IntKind.u8.wrap n.zb]))), GI.sort]) _ (@rput_1 ([] ++ L n.kd ++ L n.na ++ L n.nb ++ [IntKind.u8.wrap n.za] ++ [IntKind.u8.wrap n.zb]) (L) (n.qm) bu4 hL) (by kernel_rfl) (.c (BlkW.rows (e := 5) (z := 1) (rows_to (row1 IntKind.u8) (r := List.map (row1 IntKind.u8) ([] ++ L n.kd ++ L n.na ++ L n.nb) ++ [[u8 (IntKind.u8.wrap n.za)]] ++ [[u8 (IntKind.u8.wrap n.zb)]]) (l := [] ++ L n.kd ++ L n.na ++ L n.nb ++ [IntKind.u8.wrap n.za] ++ [IntKind.u8.wrap n.zb]) (m := [] ++ L n.kd ++ L n.na ++ L n.nb ++ [IntKind.u8.wrap n.za] ++ [IntKind.u8.wrap n.zb]) (by first | (simp only [List.map_append, List.map_cons, List.map_nil, List.map_set, List.map_replicate, List.map_take, List.map_drop]; done) | rfl | (simp only [List.map_append, List.map_cons, List.map_nil, List.map_set, List.map_replicate, List.map_take, List.map_drop]; rfl)) rfl)) <| .n)
  have oz46 := @rput_1 ([] ++ L n.kd ++ L n.na ++ L n.nb ++ [IntKind.u8.wrap n.za] ++ [IntKind.u8.wrap n.zb] ++ L n.qm) (L) (n.qs) bu5 hL
  have oz54 := @VM.pre _ _ ([AV.own 950, i64 n.rm]) _ ([(950, Blk.slc 5 1 (List.map (row1 IntKind.u8) ([] ++ L n.kd ++ L n.na ++ L n.nb ++ [IntKind.u8.wrap n.za] ++ [IntKind.u8.wrap n.zb] ++ L n.qm ++ L n.qs) ++ [[u8 (IntKind.u8.wrap n.qz)]]))]) _ _ _ ([GI.blk 950 (Blk.slc 5 1 (List.map (row1 IntKind.u8) ([] ++ L n.kd ++ L n.na ++ L n.nb ++ [IntKind.u8.wrap n.za] ++ [IntKind.u8.wrap n.zb] ++ L n.qm ++ L n.qs ++ [IntKind.u8.wrap n.qz]))), GI.sort]) _ (@rput_1 ([] ++ L n.kd ++ L n.na ++ L n.nb ++ [IntKind.u8.wrap n.za] ++ [IntKind.u8.wrap n.zb] ++ L n.qm ++ L n.qs ++ [IntKind.u8.wrap n.qz]) (L) (n.rm) bu7 hL) (by kernel_rfl) (.c (BlkW.rows (e := 5) (z := 1) (rows_to (row1 IntKind.u8) (r := List.map (row1 IntKind.u8) ([] ++ L n.kd ++ L n.na ++ L n.nb ++ [IntKind.u8.wrap n.za] ++ [IntKind.u8.wrap n.zb] ++ L n.qm ++ L n.qs) ++ [[u8 (IntKind.u8.wrap n.qz)]]) (l := [] ++ L n.kd ++ L n.na ++ L n.nb ++ [IntKind.u8.wrap n.za] ++ [IntKind.u8.wrap n.zb] ++ L n.qm ++ L n.qs ++ [IntKind.u8.wrap n.qz]) (m := [] ++ L n.kd ++ L n.na ++ L n.nb ++ [IntKind.u8.wrap n.za] ++ [IntKind.u8.wrap n.zb] ++ L n.qm ++ L n.qs ++ [IntKind.u8.wrap n.qz]) (by first | (simp only [List.map_append, List.map_cons, List.map_nil, List.map_set, List.map_replicate, List.map_take, List.map_drop]; done) | rfl | (simp only [List.map_append, List.map_cons, List.map_nil, List.map_set, List.map_replicate, List.map_take, List.map_drop]; rfl)) rfl)) <| .n)
  have oz55 := @rput_1 ([] ++ L n.kd ++ L n.na ++ L n.nb ++ [IntKind.u8.wrap n.za] ++ [IntKind.u8.wrap n.zb] ++ L n.qm ++ L n.qs ++ [IntKind.u8.wrap n.qz] ++ L n.rm) (L) (n.rs) bu8 hL
  exact (VC.run (fn := Try.f107) (W := [.r [] [], .r [] [.callr (rO oz0)], .r [] [.callm [] [(951, 20000)] (rM oz1) (oM oz1), .callm [(20000, 950)] [(951, 20001)] (rM oz2) (oM oz2)], .r [] [.row (sO oz5)], .br true, .r [] [.callm [(20001, 950)] [(951, 20002)] (rM oz7) (oM oz7)], .r [] [.row (sO oz10)], .br false, .r [] [.row (sO oz10), .br true, .br true, .br true, .br false], .br false, .r [] [.row (sO oz10)], .br false, .r [] [.row (sO oz26)], .br true, .r [] [.w], .r [] [.row (sO oz26)], .br true, .r [] [.w], .r [] [.row (sO oz38)], .br false, .r [] [.row (sO oz42)], .br true, .r [] [.n n.qm, .callm [(61, 950)] [(951, 20003)] (rM oz45) (oM oz45), .callm [(20003, 950)] [(951, 20004)] (rM oz46) (oM oz46), .w], .r [] [.row (sO oz5)], .br true, .r [] [.n n.rm, .callm [(87, 950)] [(951, 20005)] (rM oz54) (oM oz54), .callm [(20005, 950)] [(951, 20006)] (rM oz55) (oM oz55)], .r [] [.w, .w], .r [] []]) (r := AV.sl 1 (List.map (row1 IntKind.u8) ([] ++ L n.kd ++ L n.na ++ L n.nb ++ [IntKind.u8.wrap n.za] ++ [IntKind.u8.wrap n.zb] ++ L n.qm ++ L n.qs ++ [IntKind.u8.wrap n.qz] ++ L n.rm ++ L n.rs) ++ [[u8 (IntKind.u8.wrap n.lo)], [u8 (IntKind.u8.wrap n.hi)]])) Try.func107 (by kernel_rfl) (.c oz0 <| .c oz1 <| .c oz2 <| .c oz3 <| .c oz4 <| .c oz5 <| .c oz6 <| .c oz7 <| .c oz8 <| .c oz9 <| .c oz10 <| .c oz11 <| .c oz8 <| .c oz9 <| .c oz10 <| .c oz11 <| .c oz11 <| .c oz11 <| .c oz11 <| .c (show (n.kd == 8) = false by (refine decide_eq_false ?_; omega)) <| .c (show (0 : Int) ≤ (2 : Int) by omega) <| .c (show (2 : Int) < (↑(6 : Nat) : Int) by omega) <| .c oz22 <| .c oz11 <| .c (show (0 : Int) ≤ (3 : Int) by omega) <| .c (show (3 : Int) < (↑(6 : Nat) : Int) by omega) <| .c oz26 <| .c oz6 <| .c (show ((List.map (row1 IntKind.u8) ([] ++ L n.kd ++ L n.na ++ L n.nb)).length + 1) * 1 ≤ 140737488355328 by (simp only [List.length_map] at *; omega)) <| .c (show (List.map (row1 IntKind.u8) ([] ++ L n.kd ++ L n.na ++ L n.nb)).length + 1 ≤ 9223372036854775807 by (simp only [List.length_map] at *; omega)) <| .c oz3 <| .c oz4 <| .c oz5 <| .c oz6 <| .c (show ((List.map (row1 IntKind.u8) ([] ++ L n.kd ++ L n.na ++ L n.nb) ++ [[u8 (IntKind.u8.wrap n.za)]]).length + 1) * 1 ≤ 140737488355328 by (simp at *; omega)) <| .c (show (List.map (row1 IntKind.u8) ([] ++ L n.kd ++ L n.na ++ L n.nb) ++ [[u8 (IntKind.u8.wrap n.za)]]).length + 1 ≤ 9223372036854775807 by (simp at *; omega)) <| .c (show (0 : Int) ≤ (4 : Int) by omega) <| .c (show (4 : Int) < (↑(6 : Nat) : Int) by omega) <| .c oz38 <| .c oz11 <| .c (show (0 : Int) ≤ (5 : Int) by omega) <| .c (show (5 : Int) < (↑(6 : Nat) : Int) by omega) <| .c oz42 <| .c oz6 <| .c (IntWalk.i64_in n.qm (by omega)) <| .c oz45 <| .c oz46 <| .c (show ((List.map (row1 IntKind.u8) ([] ++ L n.kd ++ L n.na ++ L n.nb ++ [IntKind.u8.wrap n.za] ++ [IntKind.u8.wrap n.zb] ++ L n.qm ++ L n.qs)).length + 1) * 1 ≤ 140737488355328 by (simp only [List.length_map] at *; omega)) <| .c (show (List.map (row1 IntKind.u8) ([] ++ L n.kd ++ L n.na ++ L n.nb ++ [IntKind.u8.wrap n.za] ++ [IntKind.u8.wrap n.zb] ++ L n.qm ++ L n.qs)).length + 1 ≤ 9223372036854775807 by (simp only [List.length_map] at *; omega)) <| .c oz3 <| .c oz4 <| .c oz5 <| .c oz6 <| .c (IntWalk.i64_in n.rm (by omega)) <| .c oz54 <| .c oz55 <| .c (show ((List.map (row1 IntKind.u8) ([] ++ L n.kd ++ L n.na ++ L n.nb ++ [IntKind.u8.wrap n.za] ++ [IntKind.u8.wrap n.zb] ++ L n.qm ++ L n.qs ++ [IntKind.u8.wrap n.qz] ++ L n.rm ++ L n.rs)).length + 2) * 1 ≤ 140737488355328 by (simp only [List.length_map] at *; omega)) <| .c (show (List.map (row1 IntKind.u8) ([] ++ L n.kd ++ L n.na ++ L n.nb ++ [IntKind.u8.wrap n.za] ++ [IntKind.u8.wrap n.zb] ++ L n.qm ++ L n.qs ++ [IntKind.u8.wrap n.qz] ++ L n.rm ++ L n.rs)).length + 2 ≤ 9223372036854775807 by (simp only [List.length_map] at *; omega)) <| .n)).weak (WeakL.refl _) (Weak.rows (rows_to (row1 IntKind.u8) (r := List.map (row1 IntKind.u8) ([] ++ L n.kd ++ L n.na ++ L n.nb ++ [IntKind.u8.wrap n.za] ++ [IntKind.u8.wrap n.zb] ++ L n.qm ++ L n.qs ++ [IntKind.u8.wrap n.qz] ++ L n.rm ++ L n.rs) ++ [[u8 (IntKind.u8.wrap n.lo)], [u8 (IntKind.u8.wrap n.hi)]]) (l := [] ++ L n.kd ++ L n.na ++ L n.nb ++ [IntKind.u8.wrap n.za] ++ [IntKind.u8.wrap n.zb] ++ L n.qm ++ L n.qs ++ [IntKind.u8.wrap n.qz] ++ L n.rm ++ L n.rs ++ [IntKind.u8.wrap n.lo, IntKind.u8.wrap n.hi]) (m := L n.kd ++ L n.na ++ L n.nb ++ [IntKind.u8.wrap n.za] ++ [IntKind.u8.wrap n.zb] ++ L n.qm ++ L n.qs ++ [IntKind.u8.wrap n.qz] ++ L n.rm ++ L n.rs ++ [IntKind.u8.wrap n.lo] ++ [IntKind.u8.wrap n.hi]) (by first | (simp only [List.map_append, List.map_cons, List.map_nil, List.map_set, List.map_replicate, List.map_take, List.map_drop]; done) | rfl | (simp only [List.map_append, List.map_cons, List.map_nil, List.map_set, List.map_replicate, List.map_take, List.map_drop]; rfl)) (show ([] ++ L n.kd ++ L n.na ++ L n.nb ++ [IntKind.u8.wrap n.za] ++ [IntKind.u8.wrap n.zb] ++ L n.qm ++ L n.qs ++ [IntKind.u8.wrap n.qz] ++ L n.rm ++ L n.rs ++ [IntKind.u8.wrap n.lo, IntKind.u8.wrap n.hi]) = (L n.kd ++ L n.na ++ L n.nb ++ [IntKind.u8.wrap n.za] ++ [IntKind.u8.wrap n.zb] ++ L n.qm ++ L n.qs ++ [IntKind.u8.wrap n.qz] ++ L n.rm ++ L n.rs ++ [IntKind.u8.wrap n.lo] ++ [IntKind.u8.wrap n.hi]) from (by (simp; done)))))

set_option maxRecDepth 100000 in
set_option maxHeartbeats 2000000 in
theorem rbytes_7 (L : Int → List Int) (n : Nod) (hL : RPuts L) (hk : n.kd = 7) (hw : n.w.length ≤ 16384) (hb : n.b.length ≤ 16384) (hx : ∀ x ∈ n.b, -2147483648 ≤ x ∧ x ≤ 2147483647) (hq : In32 n.qm) (hr : In32 n.rm) : VC Try.prog 107 ([nod n]) (.sl 1 ((L n.kd ++ L n.na ++ [IntKind.u8.wrap n.za] ++ L n.qm ++ L n.qs ++ [IntKind.u8.wrap n.qz] ++ [IntKind.u8.wrap n.lo] ++ [IntKind.u8.wrap n.hi]).map (row1 .u8))) := by
  have q0 := hL.l n.kd
  have q1 := hL.l n.na
  have q2 : ([IntKind.u8.wrap n.za]).length = 1 := rfl
  have q3 := hL.l n.qm
  have q4 := hL.l n.qs
  have q5 : ([IntKind.u8.wrap n.qz]).length = 1 := rfl
  have q6 : ([IntKind.u8.wrap n.lo]).length = 1 := rfl
  have q7 : ([IntKind.u8.wrap n.hi]).length = 1 := rfl
  have bu0 : ([] ++ L n.kd).length ≤ 1000000 := by (try simp only [List.nil_append, List.length_append]); omega
  have bu1 : ([] ++ L n.kd ++ L n.na).length ≤ 1000000 := by (try simp only [List.nil_append, List.length_append]); omega
  have bu2 : ([] ++ L n.kd ++ L n.na ++ [IntKind.u8.wrap n.za]).length ≤ 1000000 := by (try simp only [List.nil_append, List.length_append]); omega
  have bu3 : ([] ++ L n.kd ++ L n.na ++ [IntKind.u8.wrap n.za] ++ L n.qm).length ≤ 1000000 := by (try simp only [List.nil_append, List.length_append]); omega
  have bu4 : ([] ++ L n.kd ++ L n.na ++ [IntKind.u8.wrap n.za] ++ L n.qm ++ L n.qs).length ≤ 1000000 := by (try simp only [List.nil_append, List.length_append]); omega
  have bu5 : ([] ++ L n.kd ++ L n.na ++ [IntKind.u8.wrap n.za] ++ L n.qm ++ L n.qs ++ [IntKind.u8.wrap n.qz]).length ≤ 1000000 := by (try simp only [List.nil_append, List.length_append]); omega
  have bu6 : ([] ++ L n.kd ++ L n.na ++ [IntKind.u8.wrap n.za] ++ L n.qm ++ L n.qs ++ [IntKind.u8.wrap n.qz] ++ [IntKind.u8.wrap n.lo]).length ≤ 1000000 := by (try simp only [List.nil_append, List.length_append]); omega
  have bu7 : ([] ++ L n.kd ++ L n.na ++ [IntKind.u8.wrap n.za] ++ L n.qm ++ L n.qs ++ [IntKind.u8.wrap n.qz] ++ [IntKind.u8.wrap n.lo] ++ [IntKind.u8.wrap n.hi]).length ≤ 1000000 := by (try simp only [List.nil_append, List.length_append]); omega
  clear q0 q1 q2 q3 q4 q5 q6 q7
  have w5 : n.w.length ≤ 100000 := by omega
  have b5 : n.b.length ≤ 100000 := by omega
  have oz0 := @tells_7 (n.kd) hk
  have oz1 := @VM.pre _ _ ([AV.lit (Value.slice none 0 0), i64 n.kd]) _ ([]) _ _ _ ([GI.nils 0 950 5 1, GI.sort]) _ (@rput_1 ([]) (L) (n.kd) (by (simp; done)) hL) (by kernel_rfl) (.n)
  have oz2 := @rput_1 ([] ++ L n.kd) (L) (n.na) bu0 hL
  have oz3 := (show (0 : Int) ≤ (0 : Int) by omega)
  have oz4 := (show (0 : Int) < (↑(6 : Nat) : Int) by omega)
  have oz5 := (show [[bv false], [bv false], [bv false], [bv true], [bv false], [bv true]][(0 : Nat)]? = some [bv false] from rfl)
  have oz6 := (show false = false by with_reducible rfl)
  have oz7 := (show (0 : Int) ≤ (1 : Int) by omega)
  have oz8 := (show (1 : Int) < (↑(6 : Nat) : Int) by omega)
  have oz9 := (show [[bv false], [bv false], [bv false], [bv true], [bv false], [bv true]][(1 : Nat)]? = some [bv false] from rfl)
  have oz21 := (show [[bv false], [bv false], [bv false], [bv true], [bv false], [bv true]][(2 : Nat)]? = some [bv false] from rfl)
  have oz25 := (show [[bv false], [bv false], [bv false], [bv true], [bv false], [bv true]][(3 : Nat)]? = some [bv true] from rfl)
  have oz26 := (show true = true by with_reducible rfl)
  have oz35 := (show [[bv false], [bv false], [bv false], [bv true], [bv false], [bv true]][(4 : Nat)]? = some [bv false] from rfl)
  have oz39 := (show [[bv false], [bv false], [bv false], [bv true], [bv false], [bv true]][(5 : Nat)]? = some [bv true] from rfl)
  have oz42 := @VM.pre _ _ ([AV.own 950, i64 n.qm]) _ ([(950, Blk.slc 5 1 (List.map (row1 IntKind.u8) ([] ++ L n.kd ++ L n.na) ++ [[u8 (IntKind.u8.wrap n.za)]]))]) _ _ _ ([GI.blk 950 (Blk.slc 5 1 (List.map (row1 IntKind.u8) ([] ++ L n.kd ++ L n.na ++ [IntKind.u8.wrap n.za]))), GI.sort]) _ (@rput_1 ([] ++ L n.kd ++ L n.na ++ [IntKind.u8.wrap n.za]) (L) (n.qm) bu2 hL) (by kernel_rfl) (.c (BlkW.rows (e := 5) (z := 1) (rows_to (row1 IntKind.u8) (r := List.map (row1 IntKind.u8) ([] ++ L n.kd ++ L n.na) ++ [[u8 (IntKind.u8.wrap n.za)]]) (l := [] ++ L n.kd ++ L n.na ++ [IntKind.u8.wrap n.za]) (m := [] ++ L n.kd ++ L n.na ++ [IntKind.u8.wrap n.za]) (by first | (simp only [List.map_append, List.map_cons, List.map_nil, List.map_set, List.map_replicate, List.map_take, List.map_drop]; done) | rfl | (simp only [List.map_append, List.map_cons, List.map_nil, List.map_set, List.map_replicate, List.map_take, List.map_drop]; rfl)) rfl)) <| .n)
  have oz43 := @rput_1 ([] ++ L n.kd ++ L n.na ++ [IntKind.u8.wrap n.za] ++ L n.qm) (L) (n.qs) bu3 hL
  exact (VC.run (fn := Try.f107) (W := [.r [] [], .r [] [.callr (rO oz0)], .r [] [.callm [] [(951, 20000)] (rM oz1) (oM oz1), .callm [(20000, 950)] [(951, 20001)] (rM oz2) (oM oz2)], .r [] [.row (sO oz5)], .br false, .r [] [.row (sO oz5)], .br false, .r [] [.row (sO oz5), .br true, .br true, .br true, .br false], .br false, .r [] [.row (sO oz5)], .br false, .r [] [.row (sO oz25)], .br true, .r [] [.w], .r [] [.row (sO oz5)], .br false, .r [] [.row (sO oz5)], .br false, .r [] [.row (sO oz39)], .br true, .r [] [.n n.qm, .callm [(53, 950)] [(951, 20002)] (rM oz42) (oM oz42), .callm [(20002, 950)] [(951, 20003)] (rM oz43) (oM oz43), .w], .r [] [.row (sO oz5)], .br false, .r [] [.w, .w], .r [] []]) (r := AV.sl 1 (List.map (row1 IntKind.u8) ([] ++ L n.kd ++ L n.na ++ [IntKind.u8.wrap n.za] ++ L n.qm ++ L n.qs) ++ [[u8 (IntKind.u8.wrap n.qz)]] ++ [[u8 (IntKind.u8.wrap n.lo)], [u8 (IntKind.u8.wrap n.hi)]])) Try.func107 (by kernel_rfl) (.c oz0 <| .c oz1 <| .c oz2 <| .c oz3 <| .c oz4 <| .c oz5 <| .c oz6 <| .c oz7 <| .c oz8 <| .c oz9 <| .c oz6 <| .c oz7 <| .c oz8 <| .c oz9 <| .c oz6 <| .c oz6 <| .c oz6 <| .c oz6 <| .c (show (n.kd == 8) = false by (refine decide_eq_false ?_; omega)) <| .c (show (0 : Int) ≤ (2 : Int) by omega) <| .c (show (2 : Int) < (↑(6 : Nat) : Int) by omega) <| .c oz21 <| .c oz6 <| .c (show (0 : Int) ≤ (3 : Int) by omega) <| .c (show (3 : Int) < (↑(6 : Nat) : Int) by omega) <| .c oz25 <| .c oz26 <| .c (show ((List.map (row1 IntKind.u8) ([] ++ L n.kd ++ L n.na)).length + 1) * 1 ≤ 140737488355328 by (simp only [List.length_map] at *; omega)) <| .c (show (List.map (row1 IntKind.u8) ([] ++ L n.kd ++ L n.na)).length + 1 ≤ 9223372036854775807 by (simp only [List.length_map] at *; omega)) <| .c oz3 <| .c oz4 <| .c oz5 <| .c oz6 <| .c (show (0 : Int) ≤ (4 : Int) by omega) <| .c (show (4 : Int) < (↑(6 : Nat) : Int) by omega) <| .c oz35 <| .c oz6 <| .c (show (0 : Int) ≤ (5 : Int) by omega) <| .c (show (5 : Int) < (↑(6 : Nat) : Int) by omega) <| .c oz39 <| .c oz26 <| .c (IntWalk.i64_in n.qm (by omega)) <| .c oz42 <| .c oz43 <| .c (show ((List.map (row1 IntKind.u8) ([] ++ L n.kd ++ L n.na ++ [IntKind.u8.wrap n.za] ++ L n.qm ++ L n.qs)).length + 1) * 1 ≤ 140737488355328 by (simp only [List.length_map] at *; omega)) <| .c (show (List.map (row1 IntKind.u8) ([] ++ L n.kd ++ L n.na ++ [IntKind.u8.wrap n.za] ++ L n.qm ++ L n.qs)).length + 1 ≤ 9223372036854775807 by (simp only [List.length_map] at *; omega)) <| .c oz3 <| .c oz4 <| .c oz5 <| .c oz6 <| .c (show ((List.map (row1 IntKind.u8) ([] ++ L n.kd ++ L n.na ++ [IntKind.u8.wrap n.za] ++ L n.qm ++ L n.qs) ++ [[u8 (IntKind.u8.wrap n.qz)]]).length + 2) * 1 ≤ 140737488355328 by (simp at *; omega)) <| .c (show (List.map (row1 IntKind.u8) ([] ++ L n.kd ++ L n.na ++ [IntKind.u8.wrap n.za] ++ L n.qm ++ L n.qs) ++ [[u8 (IntKind.u8.wrap n.qz)]]).length + 2 ≤ 9223372036854775807 by (simp at *; omega)) <| .n)).weak (WeakL.refl _) (Weak.rows (rows_to (row1 IntKind.u8) (r := List.map (row1 IntKind.u8) ([] ++ L n.kd ++ L n.na ++ [IntKind.u8.wrap n.za] ++ L n.qm ++ L n.qs) ++ [[u8 (IntKind.u8.wrap n.qz)]] ++ [[u8 (IntKind.u8.wrap n.lo)], [u8 (IntKind.u8.wrap n.hi)]]) (l := [] ++ L n.kd ++ L n.na ++ [IntKind.u8.wrap n.za] ++ L n.qm ++ L n.qs ++ [IntKind.u8.wrap n.qz] ++ [IntKind.u8.wrap n.lo, IntKind.u8.wrap n.hi]) (m := L n.kd ++ L n.na ++ [IntKind.u8.wrap n.za] ++ L n.qm ++ L n.qs ++ [IntKind.u8.wrap n.qz] ++ [IntKind.u8.wrap n.lo] ++ [IntKind.u8.wrap n.hi]) (by first | (simp only [List.map_append, List.map_cons, List.map_nil, List.map_set, List.map_replicate, List.map_take, List.map_drop]; done) | rfl | (simp only [List.map_append, List.map_cons, List.map_nil, List.map_set, List.map_replicate, List.map_take, List.map_drop]; rfl)) (show ([] ++ L n.kd ++ L n.na ++ [IntKind.u8.wrap n.za] ++ L n.qm ++ L n.qs ++ [IntKind.u8.wrap n.qz] ++ [IntKind.u8.wrap n.lo, IntKind.u8.wrap n.hi]) = (L n.kd ++ L n.na ++ [IntKind.u8.wrap n.za] ++ L n.qm ++ L n.qs ++ [IntKind.u8.wrap n.qz] ++ [IntKind.u8.wrap n.lo] ++ [IntKind.u8.wrap n.hi]) from (by (simp; done)))))

set_option maxRecDepth 100000 in
set_option maxHeartbeats 2000000 in
theorem rbytes_8 (L : Int → List Int) (n : Nod) (hL : RPuts L) (hk : n.kd = 8) (hw : n.w.length ≤ 16384) (hb : n.b.length ≤ 16384) (hx : ∀ x ∈ n.b, -2147483648 ≤ x ∧ x ≤ 2147483647) (hq : In32 n.qm) (hr : In32 n.rm) : VC Try.prog 107 ([nod n]) (.sl 1 ((L n.kd ++ L n.na ++ L n.np ++ [IntKind.u8.wrap n.za]).map (row1 .u8))) := by
  have q0 := hL.l n.kd
  have q1 := hL.l n.na
  have q2 := hL.l n.np
  have q3 : ([IntKind.u8.wrap n.za]).length = 1 := rfl
  have bu0 : ([] ++ L n.kd).length ≤ 1000000 := by (try simp only [List.nil_append, List.length_append]); omega
  have bu1 : ([] ++ L n.kd ++ L n.na).length ≤ 1000000 := by (try simp only [List.nil_append, List.length_append]); omega
  have bu2 : ([] ++ L n.kd ++ L n.na ++ L n.np).length ≤ 1000000 := by (try simp only [List.nil_append, List.length_append]); omega
  have bu3 : ([] ++ L n.kd ++ L n.na ++ L n.np ++ [IntKind.u8.wrap n.za]).length ≤ 1000000 := by (try simp only [List.nil_append, List.length_append]); omega
  clear q0 q1 q2 q3
  have w5 : n.w.length ≤ 100000 := by omega
  have b5 : n.b.length ≤ 100000 := by omega
  have oz0 := @tells_8 (n.kd) hk
  have oz1 := @VM.pre _ _ ([AV.lit (Value.slice none 0 0), i64 n.kd]) _ ([]) _ _ _ ([GI.nils 0 950 5 1, GI.sort]) _ (@rput_1 ([]) (L) (n.kd) (by (simp; done)) hL) (by kernel_rfl) (.n)
  have oz2 := @rput_1 ([] ++ L n.kd) (L) (n.na) bu0 hL
  have oz3 := (show (0 : Int) ≤ (0 : Int) by omega)
  have oz4 := (show (0 : Int) < (↑(6 : Nat) : Int) by omega)
  have oz5 := (show [[bv false], [bv false], [bv false], [bv true], [bv false], [bv false]][(0 : Nat)]? = some [bv false] from rfl)
  have oz6 := (show false = false by with_reducible rfl)
  have oz7 := (show (0 : Int) ≤ (1 : Int) by omega)
  have oz8 := (show (1 : Int) < (↑(6 : Nat) : Int) by omega)
  have oz9 := (show [[bv false], [bv false], [bv false], [bv true], [bv false], [bv false]][(1 : Nat)]? = some [bv false] from rfl)
  have oz19 := @rput_1 ([] ++ L n.kd ++ L n.na) (L) (n.np) bu1 hL
  have oz22 := (show [[bv false], [bv false], [bv false], [bv true], [bv false], [bv false]][(2 : Nat)]? = some [bv false] from rfl)
  have oz26 := (show [[bv false], [bv false], [bv false], [bv true], [bv false], [bv false]][(3 : Nat)]? = some [bv true] from rfl)
  have oz36 := (show [[bv false], [bv false], [bv false], [bv true], [bv false], [bv false]][(4 : Nat)]? = some [bv false] from rfl)
  have oz40 := (show [[bv false], [bv false], [bv false], [bv true], [bv false], [bv false]][(5 : Nat)]? = some [bv false] from rfl)
  exact (VC.run (fn := Try.f107) (W := [.r [] [], .r [] [.callr (rO oz0)], .r [] [.callm [] [(951, 20000)] (rM oz1) (oM oz1), .callm [(20000, 950)] [(951, 20001)] (rM oz2) (oM oz2)], .r [] [.row (sO oz5)], .br false, .r [] [.row (sO oz5)], .br false, .r [] [.row (sO oz5), .br true, .br true, .br true, .br false], .br true, .r [] [.callm [(20001, 950)] [(951, 20002)] (rM oz19) (oM oz19)], .r [] [.row (sO oz22)], .br false, .r [] [.row (sO oz26)], .br true, .r [] [.w], .r [] [.row (sO oz5)], .br false, .r [] [.row (sO oz5)], .br false, .r [] [.row (sO oz5)], .br false, .r [] []]) (r := AV.sl 1 (List.map (row1 IntKind.u8) ([] ++ L n.kd ++ L n.na ++ L n.np) ++ [[u8 (IntKind.u8.wrap n.za)]])) Try.func107 (by kernel_rfl) (.c oz0 <| .c oz1 <| .c oz2 <| .c oz3 <| .c oz4 <| .c oz5 <| .c oz6 <| .c oz7 <| .c oz8 <| .c oz9 <| .c oz6 <| .c oz7 <| .c oz8 <| .c oz9 <| .c oz6 <| .c oz6 <| .c oz6 <| .c oz6 <| .c (show (n.kd == 8) = true by (refine decide_eq_true ?_; omega)) <| .c oz19 <| .c (show (0 : Int) ≤ (2 : Int) by omega) <| .c (show (2 : Int) < (↑(6 : Nat) : Int) by omega) <| .c oz22 <| .c oz6 <| .c (show (0 : Int) ≤ (3 : Int) by omega) <| .c (show (3 : Int) < (↑(6 : Nat) : Int) by omega) <| .c oz26 <| .c (show true = true by with_reducible rfl) <| .c (show ((List.map (row1 IntKind.u8) ([] ++ L n.kd ++ L n.na ++ L n.np)).length + 1) * 1 ≤ 140737488355328 by (simp only [List.length_map] at *; omega)) <| .c (show (List.map (row1 IntKind.u8) ([] ++ L n.kd ++ L n.na ++ L n.np)).length + 1 ≤ 9223372036854775807 by (simp only [List.length_map] at *; omega)) <| .c oz3 <| .c oz4 <| .c oz5 <| .c oz6 <| .c (show (0 : Int) ≤ (4 : Int) by omega) <| .c (show (4 : Int) < (↑(6 : Nat) : Int) by omega) <| .c oz36 <| .c oz6 <| .c (show (0 : Int) ≤ (5 : Int) by omega) <| .c (show (5 : Int) < (↑(6 : Nat) : Int) by omega) <| .c oz40 <| .c oz6 <| .n)).weak (WeakL.refl _) (Weak.rows (rows_to (row1 IntKind.u8) (r := List.map (row1 IntKind.u8) ([] ++ L n.kd ++ L n.na ++ L n.np) ++ [[u8 (IntKind.u8.wrap n.za)]]) (l := [] ++ L n.kd ++ L n.na ++ L n.np ++ [IntKind.u8.wrap n.za]) (m := L n.kd ++ L n.na ++ L n.np ++ [IntKind.u8.wrap n.za]) (by first | (simp only [List.map_append, List.map_cons, List.map_nil, List.map_set, List.map_replicate, List.map_take, List.map_drop]; done) | rfl | (simp only [List.map_append, List.map_cons, List.map_nil, List.map_set, List.map_replicate, List.map_take, List.map_drop]; rfl)) (show ([] ++ L n.kd ++ L n.na ++ L n.np ++ [IntKind.u8.wrap n.za]) = (L n.kd ++ L n.na ++ L n.np ++ [IntKind.u8.wrap n.za]) from (by (simp; done)))))

set_option maxRecDepth 100000 in
set_option maxHeartbeats 2000000 in
theorem rbytes_9 (L : Int → List Int) (n : Nod) (hL : RPuts L) (hk : n.kd < 1 ∨ 8 < n.kd) (hw : n.w.length ≤ 16384) (hb : n.b.length ≤ 16384) (hx : ∀ x ∈ n.b, -2147483648 ≤ x ∧ x ≤ 2147483647) (hq : In32 n.qm) (hr : In32 n.rm) : VC Try.prog 107 ([nod n]) (.sl 1 ((L n.kd ++ L n.na).map (row1 .u8))) := by
  have q0 := hL.l n.kd
  have q1 := hL.l n.na
  have bu0 : ([] ++ L n.kd).length ≤ 1000000 := by (try simp only [List.nil_append, List.length_append]); omega
  have bu1 : ([] ++ L n.kd ++ L n.na).length ≤ 1000000 := by (try simp only [List.nil_append, List.length_append]); omega
  clear q0 q1
  have w5 : n.w.length ≤ 100000 := by omega
  have b5 : n.b.length ≤ 100000 := by omega
  have oz0 := @tells_9 (n.kd) hk
  have oz1 := @VM.pre _ _ ([AV.lit (Value.slice none 0 0), i64 n.kd]) _ ([]) _ _ _ ([GI.nils 0 950 5 1, GI.sort]) _ (@rput_1 ([]) (L) (n.kd) (by (simp; done)) hL) (by kernel_rfl) (.n)
  have oz2 := @rput_1 ([] ++ L n.kd) (L) (n.na) bu0 hL
  have oz3 := (show (0 : Int) ≤ (0 : Int) by omega)
  have oz4 := (show (0 : Int) < (↑(6 : Nat) : Int) by omega)
  have oz5 := (show [[bv false], [bv false], [bv false], [bv false], [bv false], [bv false]][(0 : Nat)]? = some [bv false] from rfl)
  have oz6 := (show false = false by with_reducible rfl)
  have oz7 := (show (0 : Int) ≤ (1 : Int) by omega)
  have oz8 := (show (1 : Int) < (↑(6 : Nat) : Int) by omega)
  have oz9 := (show [[bv false], [bv false], [bv false], [bv false], [bv false], [bv false]][(1 : Nat)]? = some [bv false] from rfl)
  have oz21 := (show [[bv false], [bv false], [bv false], [bv false], [bv false], [bv false]][(2 : Nat)]? = some [bv false] from rfl)
  have oz25 := (show [[bv false], [bv false], [bv false], [bv false], [bv false], [bv false]][(3 : Nat)]? = some [bv false] from rfl)
  have oz33 := (show [[bv false], [bv false], [bv false], [bv false], [bv false], [bv false]][(4 : Nat)]? = some [bv false] from rfl)
  have oz37 := (show [[bv false], [bv false], [bv false], [bv false], [bv false], [bv false]][(5 : Nat)]? = some [bv false] from rfl)
  exact (VC.run (fn := Try.f107) (W := [.r [] [], .r [] [.callr (rO oz0)], .r [] [.callm [] [(951, 20000)] (rM oz1) (oM oz1), .callm [(20000, 950)] [(951, 20001)] (rM oz2) (oM oz2)], .r [] [.row (sO oz5)], .br false, .r [] [.row (sO oz5)], .br false, .r [] [.row (sO oz5), .br true, .br true, .br true, .br false], .br false, .r [] [.row (sO oz5)], .br false, .r [] [.row (sO oz5)], .br false, .r [] [.row (sO oz5)], .br false, .r [] [.row (sO oz5)], .br false, .r [] [.row (sO oz5)], .br false, .r [] []]) (r := AV.sl 1 (List.map (row1 IntKind.u8) ([] ++ L n.kd ++ L n.na))) Try.func107 (by kernel_rfl) (.c oz0 <| .c oz1 <| .c oz2 <| .c oz3 <| .c oz4 <| .c oz5 <| .c oz6 <| .c oz7 <| .c oz8 <| .c oz9 <| .c oz6 <| .c oz7 <| .c oz8 <| .c oz9 <| .c oz6 <| .c oz6 <| .c oz6 <| .c oz6 <| .c (show (n.kd == 8) = false by (refine decide_eq_false ?_; omega)) <| .c (show (0 : Int) ≤ (2 : Int) by omega) <| .c (show (2 : Int) < (↑(6 : Nat) : Int) by omega) <| .c oz21 <| .c oz6 <| .c (show (0 : Int) ≤ (3 : Int) by omega) <| .c (show (3 : Int) < (↑(6 : Nat) : Int) by omega) <| .c oz25 <| .c oz6 <| .c oz3 <| .c oz4 <| .c oz5 <| .c oz6 <| .c (show (0 : Int) ≤ (4 : Int) by omega) <| .c (show (4 : Int) < (↑(6 : Nat) : Int) by omega) <| .c oz33 <| .c oz6 <| .c (show (0 : Int) ≤ (5 : Int) by omega) <| .c (show (5 : Int) < (↑(6 : Nat) : Int) by omega) <| .c oz37 <| .c oz6 <| .n)).weak (WeakL.refl _) (Weak.rows (rows_to (row1 IntKind.u8) (r := List.map (row1 IntKind.u8) ([] ++ L n.kd ++ L n.na)) (l := [] ++ L n.kd ++ L n.na) (m := L n.kd ++ L n.na) rfl (show ([] ++ L n.kd ++ L n.na) = (L n.kd ++ L n.na) from (by (simp; done)))))
end Go.Proofs.Ytgecmooedhnenaa

/- A node's bytes, by the program and by the document. No condition. -/
namespace Go.Proofs.Ytgecmooedhnenaa
open Go.RowKit
set_option linter.unusedSimpArgs false
set_option linter.unusedVariables false
set_option linter.unnecessarySimpa false

noncomputable def nrng_y_I (l : List Int) (n : Nod) (k : Nat) : VS := stt 57 [(1, .ptr 1 0 0), (25, .sl 1 (l.map (row1 .i64))), (26, i64 6), (27, i64 k)] [(1, .var (nodC n))]
noncomputable def nrng_y_Z (l : List Int) (n : Nod) : VS := nrng_y_I l n (6)
set_option maxRecDepth 100000 in
set_option maxHeartbeats 2000000 in
theorem nrng_y_s (l : List Int) (n : Nod) (hl : l.length = 6) (h : ∀ k, k < 6 → okI (l.getD k default) = true) (k : Nat) (hk : k < 6) : VT Try.prog (fnC Try.f37 [1, 1, 0, 1, 0, 0]) (nrng_y_I l n k) .normal (nrng_y_I l n (k + 1)) := by
  have q := h k hk
  simp only [okI, Bool.and_eq_true, decide_eq_true_eq] at q
  have ql : (l.map (row1 .i64)).length = 6 := by rw [List.length_map]; exact hl
  exact VT.run (W := [.r [] [], .br true, .r [] [.row [i64 (l.getD k 0)]], .r [] [.op false, .op false, .sel 1], .br false, .r [] [.n ((↑k : Int) + 1)]]) (G := [.any (rg [(6, 1), (28, 6), (36, 2)]), .weak 27 (i64 (↑(k + 1) : Int)), .sort]) (by kernel_rfl) (.c (decide_eq_true (p := ((↑k : Int) < 6)) (by omega)) <| .c (show 0 ≤ (↑k : Int) by omega) <| .c (map_at (row1 IntKind.i64) (0) (l := l) (i := k) (by omega)) <| .c (show (decide (l.getD k 0 < 0) || decide (l.getD k 0 > 1024)) = false by (simp at *; omega)) <| .c (IntWalk.i64_in ((↑k : Int) + 1) (by omega)) <| .c (Weak.int (k := .i64) (show (((↑k : Int) + 1) : Int) = ((↑(k + 1) : Int)) from (by omega))) <| .n)
set_option maxRecDepth 100000 in
set_option maxHeartbeats 2000000 in
theorem nrng_y_e (l : List Int) (n : Nod) (hl : l.length = 6) (h : ∀ k, k < 6 → okI (l.getD k default) = true) : VT Try.prog (fnC Try.f37 [1, 1, 0, 1, 0, 0]) (nrng_y_I l n (6)) (.exit 0) (nrng_y_Z l n) := by
  exact VT.run (W := [.r [] [], .br false]) (G := [.any [28], .sort]) (by kernel_rfl) (.c (show false = false by with_reducible rfl) <| .n)
theorem nrng_y (l : List Int) (n : Nod) (hl : l.length = 6) (h : ∀ k, k < 6 → okI (l.getD k default) = true) : VT Try.prog (fnC Try.f37 [1, 1, 0, 1, 0]) (nrng_y_I l n 0) (.exit 0) (nrng_y_Z l n) :=
  VT.loop (fun k => nrng_y_I l n k) (6) (fun k hk => nrng_y_s l n hl h k hk) (nrng_y_e l n hl h) (by intro h; cases h)

noncomputable def nrng_n_I (l : List Int) (n : Nod) (m : Nat) (k : Nat) : VS := stt 57 [(1, .ptr 1 0 0), (25, .sl 1 (l.map (row1 .i64))), (26, i64 6), (27, i64 k)] [(1, .var (nodC n))]
noncomputable def nrng_n_Z (l : List Int) (n : Nod) (m : Nat) : VS := stt 57 [(2, nilv), (3, i64 3)] []
set_option maxRecDepth 100000 in
set_option maxHeartbeats 2000000 in
theorem nrng_n_s (l : List Int) (n : Nod) (m : Nat) (hl : l.length = 6) (hm : m < 6) (hf : okI (l.getD m default) ≠ true) (h : ∀ k, k < m → okI (l.getD k default) = true) (k : Nat) (hk : k < m) : VT Try.prog (fnC Try.f37 [1, 1, 0, 1, 0, 0]) (nrng_n_I l n m k) .normal (nrng_n_I l n m (k + 1)) := by
  have q := h k hk
  simp only [okI, Bool.and_eq_true, decide_eq_true_eq] at q
  have ql : (l.map (row1 .i64)).length = 6 := by rw [List.length_map]; exact hl
  exact VT.run (W := [.r [] [], .br true, .r [] [.row [i64 (l.getD k 0)]], .r [] [.op false, .op false, .sel 1], .br false, .r [] [.n ((↑k : Int) + 1)]]) (G := [.any (rg [(6, 1), (28, 6), (36, 2)]), .weak 27 (i64 (↑(k + 1) : Int)), .sort]) (by kernel_rfl) (.c (decide_eq_true (p := ((↑k : Int) < 6)) (by omega)) <| .c (show 0 ≤ (↑k : Int) by omega) <| .c (map_at (row1 IntKind.i64) (0) (l := l) (i := k) (by omega)) <| .c (show (decide (l.getD k 0 < 0) || decide (l.getD k 0 > 1024)) = false by (simp at *; omega)) <| .c (IntWalk.i64_in ((↑k : Int) + 1) (by omega)) <| .c (Weak.int (k := .i64) (show (((↑k : Int) + 1) : Int) = ((↑(k + 1) : Int)) from (by omega))) <| .n)
set_option maxRecDepth 100000 in
set_option maxHeartbeats 2000000 in
theorem nrng_n_e (l : List Int) (n : Nod) (m : Nat) (hl : l.length = 6) (hm : m < 6) (hf : okI (l.getD m default) ≠ true) (h : ∀ k, k < m → okI (l.getD k default) = true) : VT Try.prog (fnC Try.f37 [1, 1, 0, 1, 0, 0]) (nrng_n_I l n m (m)) (.ret) (nrng_n_Z l n m) := by
  have q := okI_n hf
  have ql : (l.map (row1 .i64)).length = 6 := by rw [List.length_map]; exact hl
  exact VT.run (W := [.r [] [], .br true, .r [] [.row [i64 (l.getD m 0)]], .r [] [.op false, .op false, .sel 1], .br true, .r [] []]) (G := [.any (rg [(1, 1), (6, 1), (25, 9), (36, 1)]), .drop [1], .sort]) (by kernel_rfl) (.c (decide_eq_true (p := ((↑m : Int) < 6)) (by omega)) <| .c (show 0 ≤ (↑m : Int) by omega) <| .c (map_at (row1 IntKind.i64) (0) (l := l) (i := m) (by omega)) <| .c (show (decide (l.getD m 0 < 0) || decide (l.getD m 0 > 1024)) = true by (simp at *; omega)) <| .n)
theorem nrng_n (l : List Int) (n : Nod) (m : Nat) (hl : l.length = 6) (hm : m < 6) (hf : okI (l.getD m default) ≠ true) (h : ∀ k, k < m → okI (l.getD k default) = true) : VT Try.prog (fnC Try.f37 [1, 1, 0, 1, 0]) (nrng_n_I l n m 0) (.ret) (nrng_n_Z l n m) :=
  VT.loop (fun k => nrng_n_I l n m k) (m) (fun k hk => nrng_n_s l n m hl hm hf h k hk) (nrng_n_e l n m hl hm hf h) (by intro h; cases h)

noncomputable def rrng_y_I (l : List Int) (n : Nod) (k : Nat) : VS := stt 53 [(1, .ptr 1 0 0), (5, .sl 1 (l.map (row1 .i64))), (6, i64 k)] [(1, .var (nodC n))]
noncomputable def rrng_y_Z (l : List Int) (n : Nod) : VS := rrng_y_I l n (6)
set_option maxRecDepth 100000 in
set_option maxHeartbeats 2000000 in
theorem rrng_y_s (l : List Int) (n : Nod) (hl : l.length = 6) (h : ∀ k, k < 6 → okI (l.getD k default) = true) (k : Nat) (hk : k < 6) : VT Try.prog (fnC Try.f38 [1, 1, 1, 0, 1, 0, 0]) (rrng_y_I l n k) .normal (rrng_y_I l n (k + 1)) := by
  have q := h k hk
  simp only [okI, Bool.and_eq_true, decide_eq_true_eq] at q
  have ql : (l.map (row1 .i64)).length = 6 := by rw [List.length_map]; exact hl
  have oz1 := (show 0 ≤ (↑k : Int) by omega)
  have oz2 := (map_at (row1 IntKind.i64) (0) (l := l) (i := k) (by omega))
  exact VT.run (W := [.r [] [], .br true, .r [] [.row (sO oz2), .op false, .op false, .op false, .row (sO oz2), .op false, .op false, .sel 1], .br false, .r [] [.n ((↑k : Int) + 1)]]) (G := [.any (rg [(25, 10), (40, 1)]), .weak 6 (i64 (↑(k + 1) : Int)), .sort]) (by kernel_rfl) (.c (decide_eq_true (p := ((↑k : Int) < 6)) (by omega)) <| .c oz1 <| .c oz2 <| .c oz1 <| .c oz2 <| .c (show (decide (l.getD k 0 < 0) || decide (l.getD k 0 > 1024)) = false by (simp at *; omega)) <| .c (IntWalk.i64_in ((↑k : Int) + 1) (by omega)) <| .c (Weak.int (k := .i64) (show (((↑k : Int) + 1) : Int) = ((↑(k + 1) : Int)) from (by omega))) <| .n)
set_option maxRecDepth 100000 in
set_option maxHeartbeats 2000000 in
theorem rrng_y_e (l : List Int) (n : Nod) (hl : l.length = 6) (h : ∀ k, k < 6 → okI (l.getD k default) = true) : VT Try.prog (fnC Try.f38 [1, 1, 1, 0, 1, 0, 0]) (rrng_y_I l n (6)) (.exit 0) (rrng_y_Z l n) := by
  exact VT.run (W := [.r [] [], .br false]) (G := [.any [25, 26], .sort]) (by kernel_rfl) (.c (show false = false by with_reducible rfl) <| .n)
theorem rrng_y (l : List Int) (n : Nod) (hl : l.length = 6) (h : ∀ k, k < 6 → okI (l.getD k default) = true) : VT Try.prog (fnC Try.f38 [1, 1, 1, 0, 1, 0]) (rrng_y_I l n 0) (.exit 0) (rrng_y_Z l n) :=
  VT.loop (fun k => rrng_y_I l n k) (6) (fun k hk => rrng_y_s l n hl h k hk) (rrng_y_e l n hl h) (by intro h; cases h)

noncomputable def rrng_n_I (l : List Int) (n : Nod) (m : Nat) (k : Nat) : VS := stt 53 [(1, .ptr 1 0 0), (5, .sl 1 (l.map (row1 .i64))), (6, i64 k)] [(1, .var (nodC n))]
noncomputable def rrng_n_Z (l : List Int) (n : Nod) (m : Nat) : VS := stt 53 [(2, nilv), (3, i64 3)] []
set_option maxRecDepth 100000 in
set_option maxHeartbeats 2000000 in
theorem rrng_n_s (l : List Int) (n : Nod) (m : Nat) (hl : l.length = 6) (hm : m < 6) (hf : okI (l.getD m default) ≠ true) (h : ∀ k, k < m → okI (l.getD k default) = true) (k : Nat) (hk : k < m) : VT Try.prog (fnC Try.f38 [1, 1, 1, 0, 1, 0, 0]) (rrng_n_I l n m k) .normal (rrng_n_I l n m (k + 1)) := by
  have q := h k hk
  simp only [okI, Bool.and_eq_true, decide_eq_true_eq] at q
  have ql : (l.map (row1 .i64)).length = 6 := by rw [List.length_map]; exact hl
  have oz1 := (show 0 ≤ (↑k : Int) by omega)
  have oz2 := (map_at (row1 IntKind.i64) (0) (l := l) (i := k) (by omega))
  exact VT.run (W := [.r [] [], .br true, .r [] [.row (sO oz2), .op false, .op false, .op false, .row (sO oz2), .op false, .op false, .sel 1], .br false, .r [] [.n ((↑k : Int) + 1)]]) (G := [.any (rg [(25, 10), (40, 1)]), .weak 6 (i64 (↑(k + 1) : Int)), .sort]) (by kernel_rfl) (.c (decide_eq_true (p := ((↑k : Int) < 6)) (by omega)) <| .c oz1 <| .c oz2 <| .c oz1 <| .c oz2 <| .c (show (decide (l.getD k 0 < 0) || decide (l.getD k 0 > 1024)) = false by (simp at *; omega)) <| .c (IntWalk.i64_in ((↑k : Int) + 1) (by omega)) <| .c (Weak.int (k := .i64) (show (((↑k : Int) + 1) : Int) = ((↑(k + 1) : Int)) from (by omega))) <| .n)
set_option maxRecDepth 100000 in
set_option maxHeartbeats 2000000 in
theorem rrng_n_e (l : List Int) (n : Nod) (m : Nat) (hl : l.length = 6) (hm : m < 6) (hf : okI (l.getD m default) ≠ true) (h : ∀ k, k < m → okI (l.getD k default) = true) : VT Try.prog (fnC Try.f38 [1, 1, 1, 0, 1, 0, 0]) (rrng_n_I l n m (m)) (.ret) (rrng_n_Z l n m) := by
  have q := okI_n hf
  have ql : (l.map (row1 .i64)).length = 6 := by rw [List.length_map]; exact hl
  have oz1 := (show 0 ≤ (↑m : Int) by omega)
  have oz2 := (map_at (row1 IntKind.i64) (0) (l := l) (i := m) (by omega))
  exact VT.run (W := [.r [] [], .br true, .r [] [.row (sO oz2), .op false, .op false, .op false, .row (sO oz2), .op false, .op false, .sel 1], .br true, .r [] []]) (G := [.any [1, 5, 6, 25, 26, 29, 30, 31, 32, 33, 34, 40], .drop [1], .sort]) (by kernel_rfl) (.c (decide_eq_true (p := ((↑m : Int) < 6)) (by omega)) <| .c oz1 <| .c oz2 <| .c oz1 <| .c oz2 <| .c (show (decide (l.getD m 0 < 0) || decide (l.getD m 0 > 1024)) = true by (simp at *; omega)) <| .n)
theorem rrng_n (l : List Int) (n : Nod) (m : Nat) (hl : l.length = 6) (hm : m < 6) (hf : okI (l.getD m default) ≠ true) (h : ∀ k, k < m → okI (l.getD k default) = true) : VT Try.prog (fnC Try.f38 [1, 1, 1, 0, 1, 0]) (rrng_n_I l n m 0) (.ret) (rrng_n_Z l n m) :=
  VT.loop (fun k => rrng_n_I l n m k) (m) (fun k hk => rrng_n_s l n m hl hm hf h k hk) (rrng_n_e l n m hl hm hf h) (by intro h; cases h)

set_option maxRecDepth 100000 in
set_option maxHeartbeats 2000000 in
theorem pnode_c (n : Nod) (hw : n.w.length ≤ 100000) (hb : n.b.length ≤ 100000) (hk : In64 n.kd) (hc : checkE n ≠ 0) : VC Try.prog 37 ([nod n]) (.tup [.sl 1 (([] : List Int).map (row1 .u8)), i64 (checkE n)]) := by
  have oz0 := @check_v (n) hw hb hk
  exact (VC.run (fn := Try.f37) (W := [.r [] [], .r [] [.callr (rO oz0)], .r [] [], .br true, .r [] []]) (r := AV.tup [AV.lit (Value.slice none 0 0), i64 (checkE n)]) Try.func37 (by kernel_rfl) (.c oz0 <| .c (show (checkE n != 0) = true by (simp; omega)) <| .n)).weak (WeakL.refl _) (Weak.tup (.cons (Weak.nil _) (.cons (.refl _) .nil)))

set_option maxRecDepth 100000 in
set_option maxHeartbeats 2000000 in
theorem pnode_r (n : Nod) (m : Nat) (hw : n.w.length ≤ 100000) (hb : n.b.length ≤ 100000) (hk : In64 n.kd) (hc : checkE n = 0) (hm : m < 6) (hf : okI ((six n).getD m default) ≠ true) (h : ∀ k, k < m → okI ((six n).getD k default) = true) : VC Try.prog 37 ([nod n]) (.tup [.sl 1 (([] : List Int).map (row1 .u8)), i64 3]) := by
  have hl6 : (six n).length = 6 := rfl
  have oz0 := @check_v (n) hw hb hk
  have oz4 := @nrng_n (six n) (n) (m) hl6 hm hf h
  exact (VC.run (fn := Try.f37) (W := [.r [] [], .r [] [.callr (rO oz0)], .r [] [], .br false, .r [] [], .code [.frz 25, .any (rg [(0, 1), (2, 3), (8, 4), (13, 12)]), .weak 26 (i64 6), .weak 27 (i64 (↑0 : Int)), .sort] (Exit.ret) (zO oz4)]) (r := AV.tup [AV.lit (Value.slice none 0 0), i64 3]) Try.func37 (by kernel_rfl) (.c oz0 <| .c (show (checkE n != 0) = false by (simp; omega)) <| .c (Weak.int (k := .i64) (show (((↑6 : Int)) : Int) = (6) from (by (simp; done)))) <| .c (Weak.int (k := .i64) (show ((0) : Int) = ((↑0 : Int)) from (by omega))) <| .c oz4 <| .n)).weak (WeakL.refl _) (Weak.tup (.cons (Weak.nil _) (.cons (.refl _) .nil)))

set_option maxRecDepth 100000 in
set_option maxHeartbeats 2000000 in
theorem pnode_w (n : Nod) (hw : n.w.length ≤ 100000) (hb : n.b.length ≤ 100000) (hk : In64 n.kd) (hc : checkE n = 0) (h : ∀ k, k < 6 → okI ((six n).getD k default) = true) (hl : 16384 < n.w.length ∨ 16384 < n.b.length) : VC Try.prog 37 ([nod n]) (.tup [.sl 1 (([] : List Int).map (row1 .u8)), i64 3]) := by
  have hl6 : (six n).length = 6 := rfl
  have oz0 := @check_v (n) hw hb hk
  have oz4 := @nrng_y (six n) (n) hl6 h
  exact (VC.run (fn := Try.f37) (W := [.r [] [], .r [] [.callr (rO oz0)], .r [] [], .br false, .r [] [], .code [.frz 25, .any (rg [(0, 1), (2, 3), (8, 4), (13, 12)]), .weak 26 (i64 6), .weak 27 (i64 (↑0 : Int)), .sort] (Exit.exit 0) (zO oz4), .r [] [.op false, .op false, .op false, .op false, .sel 1], .br true, .r [] []]) (r := AV.tup [AV.lit (Value.slice none 0 0), i64 3]) Try.func37 (by kernel_rfl) (.c oz0 <| .c (show (checkE n != 0) = false by (simp; omega)) <| .c (Weak.int (k := .i64) (show (((↑6 : Int)) : Int) = (6) from (by (simp; done)))) <| .c (Weak.int (k := .i64) (show ((0) : Int) = ((↑0 : Int)) from (by omega))) <| .c oz4 <| .c (show (decide ((↑(List.map (row1 IntKind.i8) n.w).length : Int) > 16384) || decide ((↑(List.map (row1 IntKind.i32) n.b).length : Int) > 16384)) = true by (simp; omega)) <| .n)).weak (WeakL.refl _) (Weak.tup (.cons (Weak.nil _) (.cons (.refl _) .nil)))

set_option maxRecDepth 100000 in
set_option maxHeartbeats 2000000 in
theorem pnode_y (L : Int → List Int) (n : Nod) (hL : Puts L) (okn : n.Ok) (hc : checkE n = 0) (h : ∀ k, k < 6 → okI ((six n).getD k default) = true) (hw : n.w.length ≤ 16384) (hb : n.b.length ≤ 16384) : VC Try.prog 37 ([nod n]) (.tup [.sl 1 ((nodeL L n).map (row1 .u8)), i64 0]) := by
  have hk := okn.kd
  have hx := okn.b
  have hq := okn.qm
  have hr := okn.rm
  have hl6 : (six n).length = 6 := rfl
  have oz0 := @check_v (n) (by omega) (by omega) hk
  have oz4 := @nrng_y (six n) (n) hl6 h
  have oz6 := @lwalk_v (L) (n) hL hw hb hx hq hr
  exact VC.run (fn := Try.f37) (W := [.r [] [], .r [] [.callr (rO oz0)], .r [] [], .br false, .r [] [], .code [.frz 25, .any (rg [(0, 1), (2, 3), (8, 4), (13, 12)]), .weak 26 (i64 6), .weak 27 (i64 (↑0 : Int)), .sort] (Exit.exit 0) (zO oz4), .r [] [.op false, .op false, .op false, .op false, .sel 1], .br false, .r [] [], .r [] [.callm [(49, 100000), (1, 100001)] [(951, 20000)] (rM oz6) (oM oz6)], .r [] []]) Try.func37 (by kernel_rfl) (.c oz0 <| .c (show (checkE n != 0) = false by (simp; omega)) <| .c (Weak.int (k := .i64) (show (((↑6 : Int)) : Int) = (6) from (by (simp; done)))) <| .c (Weak.int (k := .i64) (show ((0) : Int) = ((↑0 : Int)) from (by omega))) <| .c oz4 <| .c (show (decide ((↑(List.map (row1 IntKind.i8) n.w).length : Int) > 16384) || decide ((↑(List.map (row1 IntKind.i32) n.b).length : Int) > 16384)) = false by (simp; omega)) <| .c oz6 <| .n)

set_option maxRecDepth 100000 in
set_option maxHeartbeats 2000000 in
theorem rnode_c (n : Nod) (hw : n.w.length ≤ 100000) (hb : n.b.length ≤ 100000) (hk : In64 n.kd) (hc : checkE n ≠ 0) : VC Try.prog 38 ([nod n]) (.tup [.sl 1 (([] : List Int).map (row1 .u8)), i64 (checkE n)]) := by
  have oz0 := @refCheck_v (n) hw hb hk
  exact (VC.run (fn := Try.f38) (W := [.r [] [], .r [] [.callr (rO oz0)], .r [] [], .br true, .r [] []]) (r := AV.tup [AV.lit (Value.slice none 0 0), i64 (checkE n)]) Try.func38 (by kernel_rfl) (.c oz0 <| .c (show (checkE n != 0) = true by (simp; omega)) <| .n)).weak (WeakL.refl _) (Weak.tup (.cons (Weak.nil _) (.cons (.refl _) .nil)))

set_option maxRecDepth 100000 in
set_option maxHeartbeats 2000000 in
theorem rnode_r (n : Nod) (m : Nat) (hw : n.w.length ≤ 100000) (hb : n.b.length ≤ 100000) (hk : In64 n.kd) (hc : checkE n = 0) (hm : m < 6) (hf : okI ((six n).getD m default) ≠ true) (h : ∀ k, k < m → okI ((six n).getD k default) = true) : VC Try.prog 38 ([nod n]) (.tup [.sl 1 (([] : List Int).map (row1 .u8)), i64 3]) := by
  have hl6 : (six n).length = 6 := rfl
  have oz0 := @refCheck_v (n) hw hb hk
  have oz3 := @rrng_n (six n) (n) (m) hl6 hm hf h
  exact (VC.run (fn := Try.f38) (W := [.r [] [], .r [] [.callr (rO oz0)], .r [] [], .br false, .r [] [], .r [] [], .code [.frz 24, .any (rg [(0, 1), (2, 3), (7, 4), (12, 13)]), .weak 6 (i64 (↑0 : Int)), .sort] (Exit.ret) (zO oz3)]) (r := AV.tup [AV.lit (Value.slice none 0 0), i64 3]) Try.func38 (by kernel_rfl) (.c oz0 <| .c (show (checkE n != 0) = false by (simp; omega)) <| .c (Weak.int (k := .i64) (show ((0) : Int) = ((↑0 : Int)) from (by omega))) <| .c oz3 <| .n)).weak (WeakL.refl _) (Weak.tup (.cons (Weak.nil _) (.cons (.refl _) .nil)))

set_option maxRecDepth 100000 in
set_option maxHeartbeats 2000000 in
theorem rnode_w (n : Nod) (hw : n.w.length ≤ 100000) (hb : n.b.length ≤ 100000) (hk : In64 n.kd) (hc : checkE n = 0) (h : ∀ k, k < 6 → okI ((six n).getD k default) = true) (hl : 16384 < n.w.length ∨ 16384 < n.b.length) : VC Try.prog 38 ([nod n]) (.tup [.sl 1 (([] : List Int).map (row1 .u8)), i64 3]) := by
  have hl6 : (six n).length = 6 := rfl
  have oz0 := @refCheck_v (n) hw hb hk
  have oz3 := @rrng_y (six n) (n) hl6 h
  exact (VC.run (fn := Try.f38) (W := [.r [] [], .r [] [.callr (rO oz0)], .r [] [], .br false, .r [] [], .r [] [], .code [.frz 24, .any (rg [(0, 1), (2, 3), (7, 4), (12, 13)]), .weak 6 (i64 (↑0 : Int)), .sort] (Exit.exit 0) (zO oz3), .r [] [.op false, .op false, .op false, .op false, .sel 1], .br true, .r [] []]) (r := AV.tup [AV.lit (Value.slice none 0 0), i64 3]) Try.func38 (by kernel_rfl) (.c oz0 <| .c (show (checkE n != 0) = false by (simp; omega)) <| .c (Weak.int (k := .i64) (show ((0) : Int) = ((↑0 : Int)) from (by omega))) <| .c oz3 <| .c (show (decide ((↑(List.map (row1 IntKind.i8) n.w).length : Int) > 16384) || decide ((↑(List.map (row1 IntKind.i32) n.b).length : Int) > 16384)) = true by (simp; omega)) <| .n)).weak (WeakL.refl _) (Weak.tup (.cons (Weak.nil _) (.cons (.refl _) .nil)))
theorem rbytes_v (L : Int → List Int) (n : Nod) (hL : RPuts L) (hw : n.w.length ≤ 16384) (hb : n.b.length ≤ 16384) (hx : ∀ x ∈ n.b, -2147483648 ≤ x ∧ x ≤ 2147483647) (hq : In32 n.qm) (hr : In32 n.rm) : VC Try.prog 107 [nod n] (.sl 1 ((nodeL L n).map (row1 .u8))) := by
  by_cases k1 : n.kd = 1
  · rw [show nodeL L n = lb_1 L n from by unfold nodeL; rw [if_pos k1]]
    exact rbytes_1 L n hL k1 hw hb hx hq hr
  by_cases k2 : n.kd = 2
  · rw [show nodeL L n = lb_2 L n from by unfold nodeL; rw [if_neg k1, if_pos k2]]
    exact rbytes_2 L n hL k2 hw hb hx hq hr
  by_cases k3 : n.kd = 3
  · rw [show nodeL L n = lb_3 L n from by unfold nodeL; rw [if_neg k1, if_neg k2, if_pos k3]]
    exact rbytes_3 L n hL k3 hw hb hx hq hr
  by_cases k4 : n.kd = 4 ∨ n.kd = 5
  · rw [show nodeL L n = lb_4 L n from by unfold nodeL; rw [if_neg k1, if_neg k2, if_neg k3, if_pos k4]]
    exact rbytes_4 L n hL k4 hw hb hx hq hr
  by_cases k6 : n.kd = 6
  · rw [show nodeL L n = lb_6 L n from by unfold nodeL; rw [if_neg k1, if_neg k2, if_neg k3, if_neg k4, if_pos k6]]
    exact rbytes_6 L n hL k6 hw hb hx hq hr
  by_cases k7 : n.kd = 7
  · rw [show nodeL L n = lb_7 L n from by unfold nodeL; rw [if_neg k1, if_neg k2, if_neg k3, if_neg k4, if_neg k6, if_pos k7]]
    exact rbytes_7 L n hL k7 hw hb hx hq hr
  by_cases k8 : n.kd = 8
  · rw [show nodeL L n = lb_8 L n from by unfold nodeL; rw [if_neg k1, if_neg k2, if_neg k3, if_neg k4, if_neg k6, if_neg k7, if_pos k8]]
    exact rbytes_8 L n hL k8 hw hb hx hq hr
  rw [show nodeL L n = lb_9 L n from by unfold nodeL; rw [if_neg k1, if_neg k2, if_neg k3, if_neg k4, if_neg k6, if_neg k7, if_neg k8]]
  exact rbytes_9 L n hL (by omega) hw hb hx hq hr
set_option maxRecDepth 100000 in
set_option maxHeartbeats 2000000 in
theorem rnode_y (L : Int → List Int) (n : Nod) (hL : RPuts L) (okn : n.Ok) (hc : checkE n = 0) (h : ∀ k, k < 6 → okI ((six n).getD k default) = true) (hw : n.w.length ≤ 16384) (hb : n.b.length ≤ 16384) : VC Try.prog 38 ([nod n]) (.tup [.sl 1 ((nodeL L n).map (row1 .u8)), i64 0]) := by
  have hk := okn.kd
  have hx := okn.b
  have hq := okn.qm
  have hr := okn.rm
  have hl6 : (six n).length = 6 := rfl
  have oz0 := @refCheck_v (n) (by omega) (by omega) hk
  have oz3 := @rrng_y (six n) (n) hl6 h
  have oz5 := @rbytes_v (L) (n) hL hw hb hx hq hr
  exact VC.run (fn := Try.f38) (W := [.r [] [], .r [] [.callr (rO oz0)], .r [] [], .br false, .r [] [], .r [] [], .code [.frz 24, .any (rg [(0, 1), (2, 3), (7, 4), (12, 13)]), .weak 6 (i64 (↑0 : Int)), .sort] (Exit.exit 0) (zO oz3), .r [] [.op false, .op false, .op false, .op false, .sel 1], .br false, .r [] [.callr (rO oz5)]]) Try.func38 (by kernel_rfl) (.c oz0 <| .c (show (checkE n != 0) = false by (simp; omega)) <| .c (Weak.int (k := .i64) (show ((0) : Int) = ((↑0 : Int)) from (by omega))) <| .c oz3 <| .c (show (decide ((↑(List.map (row1 IntKind.i8) n.w).length : Int) > 16384) || decide ((↑(List.map (row1 IntKind.i32) n.b).length : Int) > 16384)) = false by (simp; omega)) <| .c oz5 <| .n)
theorem pnode_v (n : Nod) (okn : n.Ok) (hw : n.w.length ≤ 100000) (hb : n.b.length ≤ 100000) : VC Try.prog 37 [nod n] (.tup [.sl 1 ((nodeR n).1.map (row1 .u8)), i64 (nodeR n).2]) := by
  by_cases hc : checkE n = 0
  · cases hs : (six n).all okI with
    | true =>
      by_cases hl : 16384 < n.w.length ∨ 16384 < n.b.length
      · rw [show nodeR n = ([], 3) from by unfold nodeR; rw [if_neg (by simpa using hc), if_neg (by rw [hs]; simp), if_pos hl]]
        exact pnode_w n hw hb okn.kd hc (six_y hs) hl
      · rw [show nodeR n = (nodeL putN n, 0) from by unfold nodeR; rw [if_neg (by simpa using hc), if_neg (by rw [hs]; simp), if_neg hl]]
        exact pnode_y putN n puts okn hc (six_y hs) (by omega) (by omega)
    | false =>
      obtain ⟨m, hm, hf, h⟩ := six_n hs
      rw [show nodeR n = ([], 3) from by unfold nodeR; rw [if_neg (by simpa using hc), if_pos hs]]
      exact pnode_r n m hw hb okn.kd hc hm hf h
  · rw [show nodeR n = ([], checkE n) from by unfold nodeR; rw [if_pos hc]]
    exact pnode_c n hw hb okn.kd hc
theorem rnode_v (n : Nod) (okn : n.Ok) (hw : n.w.length ≤ 100000) (hb : n.b.length ≤ 100000) : VC Try.prog 38 [nod n] (.tup [.sl 1 ((nodeR n).1.map (row1 .u8)), i64 (nodeR n).2]) := by
  by_cases hc : checkE n = 0
  · cases hs : (six n).all okI with
    | true =>
      by_cases hl : 16384 < n.w.length ∨ 16384 < n.b.length
      · rw [show nodeR n = ([], 3) from by unfold nodeR; rw [if_neg (by simpa using hc), if_neg (by rw [hs]; simp), if_pos hl]]
        exact rnode_w n hw hb okn.kd hc (six_y hs) hl
      · rw [show nodeR n = (nodeL putN n, 0) from by unfold nodeR; rw [if_neg (by simpa using hc), if_neg (by rw [hs]; simp), if_neg hl]]
        exact rnode_y putN n rputs okn hc (six_y hs) (by omega) (by omega)
    | false =>
      obtain ⟨m, hm, hf, h⟩ := six_n hs
      rw [show nodeR n = ([], 3) from by unfold nodeR; rw [if_neg (by simpa using hc), if_pos hs]]
      exact rnode_r n m hw hb okn.kd hc hm hf h
  · rw [show nodeR n = ([], checkE n) from by unfold nodeR; rw [if_pos hc]]
    exact rnode_c n hw hb okn.kd hc
end Go.Proofs.Ytgecmooedhnenaa

/- Numbers and lists of bytes go there and back. No condition. (Plain.) -/
namespace Go.Proofs.Ytgecmooedhnenaa
open Go.RowKit
set_option linter.unusedSimpArgs false
set_option linter.unusedVariables false
set_option linter.unnecessarySimpa false

theorem putN_eq {v : Int} (h0 : 0 ≤ v) (h1 : v ≤ 2147483647) : putN v = putL v.toNat := by
  unfold putN; rw [IntKind.wrap_u64, show v % 18446744073709551616 = v from by omega]
end Go.Proofs.Ytgecmooedhnenaa

/- Bytes alike; a reader of bytes; what must come of fixed calls. No condition. -/
namespace Go.Proofs.Ytgecmooedhnenaa
open Go.RowKit
set_option linter.unusedSimpArgs false
set_option linter.unusedVariables false
set_option linter.unnecessarySimpa false

theorem putL_9 : putL 9 = [9] := by unfold putL; rfl
theorem putL_0 : putL 0 = [0] := by unfold putL; rfl
theorem nodeR_9 : nodeR ⟨9, 0, 0, 0, 0, 0, 0, 0, 0, [], [], 0, 0, 0, 0, 0, 0, 0, 0⟩ = ([9, 0], 0) := by
  have h : nodeR ⟨9, 0, 0, 0, 0, 0, 0, 0, 0, [], [], 0, 0, 0, 0, 0, 0, 0, 0⟩ = (putN 9 ++ putN 0, 0) := rfl
  rw [h, putN_eq (by decide) (by decide), putN_eq (by decide) (by decide)]
  show (putL 9 ++ putL 0, 0) = _
  rw [putL_9, putL_0]; rfl
theorem pnode9_v : VC Try.prog 37 [.agg [i64 9, i64 0, i64 0, i64 0, i64 0, i64 0, i64 0, i8 0, i8 0, .sl 1 [], .sl 1 [], i32 0, i64 0, i8 0, i32 0, i64 0, i8 0, i8 0, i8 0]] (.tup [.sl 1 (([9, 0] : List Int).map (row1 .u8)), i64 0]) := by
  have h := pnode_v ⟨9, 0, 0, 0, 0, 0, 0, 0, 0, [], [], 0, 0, 0, 0, 0, 0, 0, 0⟩ (by constructor <;> first | (constructor <;> decide) | (intro v hv; cases hv)) (by decide) (by decide)
  rw [nodeR_9] at h
  exact h
set_option maxRecDepth 100000 in
set_option maxHeartbeats 2000000 in
theorem known34_v   : VC Try.prog 36 ([]) (bv true) := by
  have oz1 := @pnode9_v
  have oz2 := @take_nil
  have oz3 := (show true = true by with_reducible rfl)
  exact VC.run (fn := Try.f36) (W := [.r [] [], .r [] [.call (aO oz1) (rO oz1)], .r [] [.callr (rO oz2)], .r [] [.br true, .br true, .il [9, 0], .br true, .br true, .br true, .br true, .br true]]) Try.func36 (by kernel_rfl) (.c (show WeakL [AV.agg [i64 9, i64 0, i64 0, i64 0, i64 0, i64 0, i64 0, i8 0, i8 0, AV.lit (Value.slice none 0 0), AV.lit (Value.slice none 0 0), i32 0, i64 0, i8 0, i32 0, i64 0, i8 0, i8 0, i8 0]] [AV.agg [i64 9, i64 0, i64 0, i64 0, i64 0, i64 0, i64 0, i8 0, i8 0, AV.sl 1 [], AV.sl 1 [], i32 0, i64 0, i8 0, i32 0, i64 0, i8 0, i8 0, i8 0]] from (.cons (Weak.agg (.cons (.refl _) (.cons (.refl _) (.cons (.refl _) (.cons (.refl _) (.cons (.refl _) (.cons (.refl _) (.cons (.refl _) (.cons (.refl _) (.cons (.refl _) (.cons (Weak.nil _) (.cons (Weak.nil _) (.cons (.refl _) (.cons (.refl _) (.cons (.refl _) (.cons (.refl _) (.cons (.refl _) (.cons (.refl _) (.cons (.refl _) (.cons (.refl _) .nil)))))))))))))))))))) .nil)) <| .c oz1 <| .c oz2 <| .c oz3 <| .c oz3 <| .c (show [[u8 (9 : Int)], [u8 (0 : Int)]] = List.map (fun (n : Int) => [u8 n]) [(9 : Int), (0 : Int)] from rfl) <| .c oz3 <| .c oz3 <| .c oz3 <| .c oz3 <| .c oz3 <| .n)
end Go.Proofs.Ytgecmooedhnenaa

