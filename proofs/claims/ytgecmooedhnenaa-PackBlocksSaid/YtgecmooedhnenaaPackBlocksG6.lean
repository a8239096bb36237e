/- Texts of this claim, put together: PkS, PkP, PkT, PkW, PkY, PbA, PbT, PbU, PbM, PbH. No condition. -/
import Derived.Test.YtgecmooedhnenaaPackBlocksG5
set_option linter.unusedVariables false
set_option linter.unusedSimpArgs false
set_option linter.unnecessarySimpa false
set_option maxRecDepth 100000
set_option maxHeartbeats 2000000
/- Nodes go there and back, by their kinds. (Plain.) No condition. -/
namespace Go.Proofs.Ytgecmooedhnenaa
open Go.RowKit
set_option linter.unusedSimpArgs false
set_option linter.unusedVariables false
set_option linter.unnecessarySimpa false
structure NTh (n : Nod) : Prop where
  okn : n.Ok
  kd : 0 ≤ n.kd ∧ n.kd ≤ 9
  na : 0 ≤ n.na ∧ n.na ≤ 1024
  nb : 0 ≤ n.nb ∧ n.nb ≤ 1024
  nk : 0 ≤ n.nk ∧ n.nk ≤ 1024
  ns : 0 ≤ n.ns ∧ n.ns ≤ 1024
  np : 0 ≤ n.np ∧ n.np ≤ 1024
  no : 0 ≤ n.no ∧ n.no ≤ 1024
  wl : n.w.length ≤ 16384
  bl : n.b.length ≤ 16384
  q : scaledB n.kd = true → (0 ≤ n.qm ∧ n.qm ≤ 2147483647) ∧ (0 ≤ n.qs ∧ n.qs ≤ 62)
  r : n.kd = 6 → (0 ≤ n.rm ∧ n.rm ≤ 2147483647) ∧ (0 ≤ n.rs ∧ n.rs ≤ 62)
theorem cntS_there {v m : Int} (h : 0 ≤ v ∧ v ≤ m) (hm : m ≤ 2147483647) : ∀ b, cntS (putN v ++ b, 0) m = (b, 0) := fun b => (cnt_there h.1 h.2 hm b).1
theorem cntV_there {v m : Int} (h : 0 ≤ v ∧ v ≤ m) (hm : m ≤ 2147483647) : ∀ b, cntV (putN v ++ b, 0) m = v := fun b => (cnt_there h.1 h.2 hm b).2
theorem oneS_there {x : Int} (h : In8 x) : ∀ b, smlS ([IntKind.u8.wrap x] ++ b, 0) 1 = (b, 0) := fun b => (one_there h b).1
theorem oneV_there {x : Int} (h : In8 x) : ∀ b, oneV ([IntKind.u8.wrap x] ++ b, 0) = x := fun b => (one_there h b).2
theorem lst_there {w d : List Int} (hw : w.length ≤ 16384) (hd : d.length ≤ 16384) (h8 : ∀ x ∈ w, In8 x) (h32 : ∀ x ∈ d, In32 x) (b : List Int) :
    lstW (putN (w.length : Int) ++ (smallL w ++ (putN (d.length : Int) ++ (wideL d ++ b))), 0) = w ∧ lstB (putN (w.length : Int) ++ (smallL w ++ (putN (d.length : Int) ++ (wideL d ++ b))), 0) = d ∧ lstS (putN (w.length : Int) ++ (smallL w ++ (putN (d.length : Int) ++ (wideL d ++ b))), 0) = (b, 0) := by
  have a1 := cntS_there (v := (w.length : Int)) (m := 16384) ⟨by omega, by omega⟩ (by decide)
  have a2 := cntV_there (v := (w.length : Int)) (m := 16384) ⟨by omega, by omega⟩ (by decide)
  have a3 := cntS_there (v := (d.length : Int)) (m := 16384) ⟨by omega, by omega⟩ (by decide)
  have a4 := cntV_there (v := (d.length : Int)) (m := 16384) ⟨by omega, by omega⟩ (by decide)
  have b1 := fun b => (sml_there w h8 b).1
  have b2 := fun b => (sml_there w h8 b).2
  have b3 := fun b => (wid_there d h32 b).1
  have b4 := fun b => (wid_there d h32 b).2
  unfold lstW lstB lstS lst1
  simp only [a1, a2, a3, a4, b1, b2, b3, b4, and_self]
theorem scl_there {m s : Int} (hm : 0 ≤ m ∧ m ≤ 2147483647) (hs : 0 ≤ s ∧ s ≤ 62) (b : List Int) : sclS (putN m ++ (putN s ++ b), 0) = (b, 0) ∧ sclM (putN m ++ (putN s ++ b), 0) = m ∧ sclH (putN m ++ (putN s ++ b), 0) = s := by
  have a1 := cntS_there hm (by decide)
  have a2 := cntV_there hm (by decide)
  have a3 := cntS_there hs (by decide)
  have a4 := cntV_there hs (by decide)
  unfold sclS sclM sclH
  simp only [a1, a2, a3, a4, and_self]
theorem there_1 (n : Nod) (h : NTh n) (hk : n.kd = 1) (b : List Int) : ts_1 (lb_1 putN n ++ b, 0) = (b, 0) ∧ tn_1 (lb_1 putN n ++ b, 0) nod0 = ⟨n.kd, n.na, 0, n.nk, n.ns, n.np, n.no, n.za, 0, n.w, n.b, n.qm, n.qs, n.qz, 0, 0, 0, n.lo, n.hi⟩ := by
  have a0 := cntS_there h.kd (by decide)
  have b0 := cntV_there h.kd (by decide)
  have a1 := cntS_there h.na (by decide)
  have b1 := cntV_there h.na (by decide)
  have a2 := cntS_there h.nk (by decide)
  have b2 := cntV_there h.nk (by decide)
  have a3 := cntS_there h.ns (by decide)
  have b3 := cntV_there h.ns (by decide)
  have a4 := cntS_there h.np (by decide)
  have b4 := cntV_there h.np (by decide)
  have a5 := cntS_there h.no (by decide)
  have b5 := cntV_there h.no (by decide)
  have a6 := oneS_there h.okn.za
  have b6 := oneV_there h.okn.za
  have l := lst_there h.wl h.bl h.okn.w h.okn.b
  have l1 := fun b => (l b).1
  have l2 := fun b => (l b).2.1
  have l3 := fun b => (l b).2.2
  have sq := scl_there (h.q (by simp [scaledB, hk])).1 (h.q (by simp [scaledB, hk])).2
  have sq1 := fun b => (sq b).1
  have sq2 := fun b => (sq b).2.1
  have sq3 := fun b => (sq b).2.2
  have a10 := oneS_there h.okn.qz
  have b10 := oneV_there h.okn.qz
  have a11 := oneS_there h.okn.lo
  have b11 := oneV_there h.okn.lo
  have a12 := oneS_there h.okn.hi
  have b12 := oneV_there h.okn.hi
  unfold ts_1 tn_1 lb_1
  simp only [List.append_assoc, a0, b0, a1, b1, a2, b2, a3, b3, a4, b4, a5, b5, a6, b6, l1, l2, l3, sq1, sq2, sq3, a10, b10, a11, b11, a12, b12, nod0, and_self]
theorem back_1 (s : Rst) (h : s.In) (hs : (ts_1 s).2 = 0) : s.1 = lb_1 putN (tn_1 s nod0) ++ (ts_1 s).1 := by
  have i0 := h
  have i1 : (cntS s 9).In := cnt_in i0 _
  have i2 : (cntS (cntS s 9) 1024).In := cnt_in i1 _
  have i3 : (cntS (cntS (cntS s 9) 1024) 1024).In := cnt_in i2 _
  have i4 : (cntS (cntS (cntS (cntS s 9) 1024) 1024) 1024).In := cnt_in i3 _
  have i5 : (cntS (cntS (cntS (cntS (cntS s 9) 1024) 1024) 1024) 1024).In := cnt_in i4 _
  have i6 : (cntS (cntS (cntS (cntS (cntS (cntS s 9) 1024) 1024) 1024) 1024) 1024).In := cnt_in i5 _
  have i7 : (smlS (cntS (cntS (cntS (cntS (cntS (cntS s 9) 1024) 1024) 1024) 1024) 1024) 1).In := sml_in i6 _
  have i8 : (cntS (smlS (cntS (cntS (cntS (cntS (cntS (cntS s 9) 1024) 1024) 1024) 1024) 1024) 1) 16384).In := cnt_in i7 _
  have i9 : (smlS (cntS (smlS (cntS (cntS (cntS (cntS (cntS (cntS s 9) 1024) 1024) 1024) 1024) 1024) 1) 16384) (cntV (smlS (cntS (cntS (cntS (cntS (cntS (cntS s 9) 1024) 1024) 1024) 1024) 1024) 1) 16384)).In := sml_in i8 _
  have i10 : (cntS (smlS (cntS (smlS (cntS (cntS (cntS (cntS (cntS (cntS s 9) 1024) 1024) 1024) 1024) 1024) 1) 16384) (cntV (smlS (cntS (cntS (cntS (cntS (cntS (cntS s 9) 1024) 1024) 1024) 1024) 1024) 1) 16384)) 16384).In := cnt_in i9 _
  have i11 : (widS (cntS (smlS (cntS (smlS (cntS (cntS (cntS (cntS (cntS (cntS s 9) 1024) 1024) 1024) 1024) 1024) 1) 16384) (cntV (smlS (cntS (cntS (cntS (cntS (cntS (cntS s 9) 1024) 1024) 1024) 1024) 1024) 1) 16384)) 16384) (cntV (smlS (cntS (smlS (cntS (cntS (cntS (cntS (cntS (cntS s 9) 1024) 1024) 1024) 1024) 1024) 1) 16384) (cntV (smlS (cntS (cntS (cntS (cntS (cntS (cntS s 9) 1024) 1024) 1024) 1024) 1024) 1) 16384)) 16384)).In := wid_in i10 _
  have i12 : (cntS (widS (cntS (smlS (cntS (smlS (cntS (cntS (cntS (cntS (cntS (cntS s 9) 1024) 1024) 1024) 1024) 1024) 1) 16384) (cntV (smlS (cntS (cntS (cntS (cntS (cntS (cntS s 9) 1024) 1024) 1024) 1024) 1024) 1) 16384)) 16384) (cntV (smlS (cntS (smlS (cntS (cntS (cntS (cntS (cntS (cntS s 9) 1024) 1024) 1024) 1024) 1024) 1) 16384) (cntV (smlS (cntS (cntS (cntS (cntS (cntS (cntS s 9) 1024) 1024) 1024) 1024) 1024) 1) 16384)) 16384)) 2147483647).In := cnt_in i11 _
  have i13 : (cntS (cntS (widS (cntS (smlS (cntS (smlS (cntS (cntS (cntS (cntS (cntS (cntS s 9) 1024) 1024) 1024) 1024) 1024) 1) 16384) (cntV (smlS (cntS (cntS (cntS (cntS (cntS (cntS s 9) 1024) 1024) 1024) 1024) 1024) 1) 16384)) 16384) (cntV (smlS (cntS (smlS (cntS (cntS (cntS (cntS (cntS (cntS s 9) 1024) 1024) 1024) 1024) 1024) 1) 16384) (cntV (smlS (cntS (cntS (cntS (cntS (cntS (cntS s 9) 1024) 1024) 1024) 1024) 1024) 1) 16384)) 16384)) 2147483647) 62).In := cnt_in i12 _
  have i14 : (smlS (cntS (cntS (widS (cntS (smlS (cntS (smlS (cntS (cntS (cntS (cntS (cntS (cntS s 9) 1024) 1024) 1024) 1024) 1024) 1) 16384) (cntV (smlS (cntS (cntS (cntS (cntS (cntS (cntS s 9) 1024) 1024) 1024) 1024) 1024) 1) 16384)) 16384) (cntV (smlS (cntS (smlS (cntS (cntS (cntS (cntS (cntS (cntS s 9) 1024) 1024) 1024) 1024) 1024) 1) 16384) (cntV (smlS (cntS (cntS (cntS (cntS (cntS (cntS s 9) 1024) 1024) 1024) 1024) 1024) 1) 16384)) 16384)) 2147483647) 62) 1).In := sml_in i13 _
  have i15 : (smlS (smlS (cntS (cntS (widS (cntS (smlS (cntS (smlS (cntS (cntS (cntS (cntS (cntS (cntS s 9) 1024) 1024) 1024) 1024) 1024) 1) 16384) (cntV (smlS (cntS (cntS (cntS (cntS (cntS (cntS s 9) 1024) 1024) 1024) 1024) 1024) 1) 16384)) 16384) (cntV (smlS (cntS (smlS (cntS (cntS (cntS (cntS (cntS (cntS s 9) 1024) 1024) 1024) 1024) 1024) 1) 16384) (cntV (smlS (cntS (cntS (cntS (cntS (cntS (cntS s 9) 1024) 1024) 1024) 1024) 1024) 1) 16384)) 16384)) 2147483647) 62) 1) 1).In := sml_in i14 _
  have h16 : (smlS (smlS (smlS (cntS (cntS (widS (cntS (smlS (cntS (smlS (cntS (cntS (cntS (cntS (cntS (cntS s 9) 1024) 1024) 1024) 1024) 1024) 1) 16384) (cntV (smlS (cntS (cntS (cntS (cntS (cntS (cntS s 9) 1024) 1024) 1024) 1024) 1024) 1) 16384)) 16384) (cntV (smlS (cntS (smlS (cntS (cntS (cntS (cntS (cntS (cntS s 9) 1024) 1024) 1024) 1024) 1024) 1) 16384) (cntV (smlS (cntS (cntS (cntS (cntS (cntS (cntS s 9) 1024) 1024) 1024) 1024) 1024) 1) 16384)) 16384)) 2147483647) 62) 1) 1) 1).2 = 0 := hs
  have h15 : (smlS (smlS (cntS (cntS (widS (cntS (smlS (cntS (smlS (cntS (cntS (cntS (cntS (cntS (cntS s 9) 1024) 1024) 1024) 1024) 1024) 1) 16384) (cntV (smlS (cntS (cntS (cntS (cntS (cntS (cntS s 9) 1024) 1024) 1024) 1024) 1024) 1) 16384)) 16384) (cntV (smlS (cntS (smlS (cntS (cntS (cntS (cntS (cntS (cntS s 9) 1024) 1024) 1024) 1024) 1024) 1) 16384) (cntV (smlS (cntS (cntS (cntS (cntS (cntS (cntS s 9) 1024) 1024) 1024) 1024) 1024) 1) 16384)) 16384)) 2147483647) 62) 1) 1).2 = 0 := sml_ok h16
  have h14 : (smlS (cntS (cntS (widS (cntS (smlS (cntS (smlS (cntS (cntS (cntS (cntS (cntS (cntS s 9) 1024) 1024) 1024) 1024) 1024) 1) 16384) (cntV (smlS (cntS (cntS (cntS (cntS (cntS (cntS s 9) 1024) 1024) 1024) 1024) 1024) 1) 16384)) 16384) (cntV (smlS (cntS (smlS (cntS (cntS (cntS (cntS (cntS (cntS s 9) 1024) 1024) 1024) 1024) 1024) 1) 16384) (cntV (smlS (cntS (cntS (cntS (cntS (cntS (cntS s 9) 1024) 1024) 1024) 1024) 1024) 1) 16384)) 16384)) 2147483647) 62) 1).2 = 0 := sml_ok h15
  have h13 : (cntS (cntS (widS (cntS (smlS (cntS (smlS (cntS (cntS (cntS (cntS (cntS (cntS s 9) 1024) 1024) 1024) 1024) 1024) 1) 16384) (cntV (smlS (cntS (cntS (cntS (cntS (cntS (cntS s 9) 1024) 1024) 1024) 1024) 1024) 1) 16384)) 16384) (cntV (smlS (cntS (smlS (cntS (cntS (cntS (cntS (cntS (cntS s 9) 1024) 1024) 1024) 1024) 1024) 1) 16384) (cntV (smlS (cntS (cntS (cntS (cntS (cntS (cntS s 9) 1024) 1024) 1024) 1024) 1024) 1) 16384)) 16384)) 2147483647) 62).2 = 0 := sml_ok h14
  have h12 : (cntS (widS (cntS (smlS (cntS (smlS (cntS (cntS (cntS (cntS (cntS (cntS s 9) 1024) 1024) 1024) 1024) 1024) 1) 16384) (cntV (smlS (cntS (cntS (cntS (cntS (cntS (cntS s 9) 1024) 1024) 1024) 1024) 1024) 1) 16384)) 16384) (cntV (smlS (cntS (smlS (cntS (cntS (cntS (cntS (cntS (cntS s 9) 1024) 1024) 1024) 1024) 1024) 1) 16384) (cntV (smlS (cntS (cntS (cntS (cntS (cntS (cntS s 9) 1024) 1024) 1024) 1024) 1024) 1) 16384)) 16384)) 2147483647).2 = 0 := cnt_ok h13
  have h11 : (widS (cntS (smlS (cntS (smlS (cntS (cntS (cntS (cntS (cntS (cntS s 9) 1024) 1024) 1024) 1024) 1024) 1) 16384) (cntV (smlS (cntS (cntS (cntS (cntS (cntS (cntS s 9) 1024) 1024) 1024) 1024) 1024) 1) 16384)) 16384) (cntV (smlS (cntS (smlS (cntS (cntS (cntS (cntS (cntS (cntS s 9) 1024) 1024) 1024) 1024) 1024) 1) 16384) (cntV (smlS (cntS (cntS (cntS (cntS (cntS (cntS s 9) 1024) 1024) 1024) 1024) 1024) 1) 16384)) 16384)).2 = 0 := cnt_ok h12
  have h10 : (cntS (smlS (cntS (smlS (cntS (cntS (cntS (cntS (cntS (cntS s 9) 1024) 1024) 1024) 1024) 1024) 1) 16384) (cntV (smlS (cntS (cntS (cntS (cntS (cntS (cntS s 9) 1024) 1024) 1024) 1024) 1024) 1) 16384)) 16384).2 = 0 := wid_ok h11
  have h9 : (smlS (cntS (smlS (cntS (cntS (cntS (cntS (cntS (cntS s 9) 1024) 1024) 1024) 1024) 1024) 1) 16384) (cntV (smlS (cntS (cntS (cntS (cntS (cntS (cntS s 9) 1024) 1024) 1024) 1024) 1024) 1) 16384)).2 = 0 := cnt_ok h10
  have h8 : (cntS (smlS (cntS (cntS (cntS (cntS (cntS (cntS s 9) 1024) 1024) 1024) 1024) 1024) 1) 16384).2 = 0 := sml_ok h9
  have h7 : (smlS (cntS (cntS (cntS (cntS (cntS (cntS s 9) 1024) 1024) 1024) 1024) 1024) 1).2 = 0 := cnt_ok h8
  have h6 : (cntS (cntS (cntS (cntS (cntS (cntS s 9) 1024) 1024) 1024) 1024) 1024).2 = 0 := sml_ok h7
  have h5 : (cntS (cntS (cntS (cntS (cntS s 9) 1024) 1024) 1024) 1024).2 = 0 := cnt_ok h6
  have h4 : (cntS (cntS (cntS (cntS s 9) 1024) 1024) 1024).2 = 0 := cnt_ok h5
  have h3 : (cntS (cntS (cntS s 9) 1024) 1024).2 = 0 := cnt_ok h4
  have h2 : (cntS (cntS s 9) 1024).2 = 0 := cnt_ok h3
  have h1 : (cntS s 9).2 = 0 := cnt_ok h2
  have e0 : s.1 = putN (cntV s 9) ++ (cntS s 9).1 := cnt_back i0 h1
  have e1 : (cntS s 9).1 = putN (cntV (cntS s 9) 1024) ++ (cntS (cntS s 9) 1024).1 := cnt_back i1 h2
  have e2 : (cntS (cntS s 9) 1024).1 = putN (cntV (cntS (cntS s 9) 1024) 1024) ++ (cntS (cntS (cntS s 9) 1024) 1024).1 := cnt_back i2 h3
  have e3 : (cntS (cntS (cntS s 9) 1024) 1024).1 = putN (cntV (cntS (cntS (cntS s 9) 1024) 1024) 1024) ++ (cntS (cntS (cntS (cntS s 9) 1024) 1024) 1024).1 := cnt_back i3 h4
  have e4 : (cntS (cntS (cntS (cntS s 9) 1024) 1024) 1024).1 = putN (cntV (cntS (cntS (cntS (cntS s 9) 1024) 1024) 1024) 1024) ++ (cntS (cntS (cntS (cntS (cntS s 9) 1024) 1024) 1024) 1024).1 := cnt_back i4 h5
  have e5 : (cntS (cntS (cntS (cntS (cntS s 9) 1024) 1024) 1024) 1024).1 = putN (cntV (cntS (cntS (cntS (cntS (cntS s 9) 1024) 1024) 1024) 1024) 1024) ++ (cntS (cntS (cntS (cntS (cntS (cntS s 9) 1024) 1024) 1024) 1024) 1024).1 := cnt_back i5 h6
  have e6 : (cntS (cntS (cntS (cntS (cntS (cntS s 9) 1024) 1024) 1024) 1024) 1024).1 = [IntKind.u8.wrap (oneV (cntS (cntS (cntS (cntS (cntS (cntS s 9) 1024) 1024) 1024) 1024) 1024))] ++ (smlS (cntS (cntS (cntS (cntS (cntS (cntS s 9) 1024) 1024) 1024) 1024) 1024) 1).1 := one_back i6 h7
  have c7 := (sml_back i8 h9 (cntV_rng (m := 16384) i7 (by decide)).1).2
  have e7 : (smlS (cntS (cntS (cntS (cntS (cntS (cntS s 9) 1024) 1024) 1024) 1024) 1024) 1).1 = putN (((smlV (cntS (smlS (cntS (cntS (cntS (cntS (cntS (cntS s 9) 1024) 1024) 1024) 1024) 1024) 1) 16384) (cntV (smlS (cntS (cntS (cntS (cntS (cntS (cntS s 9) 1024) 1024) 1024) 1024) 1024) 1) 16384)).length : Nat) : Int) ++ (cntS (smlS (cntS (cntS (cntS (cntS (cntS (cntS s 9) 1024) 1024) 1024) 1024) 1024) 1) 16384).1 := by rw [c7]; exact cnt_back i7 h8
  have e8 : (cntS (smlS (cntS (cntS (cntS (cntS (cntS (cntS s 9) 1024) 1024) 1024) 1024) 1024) 1) 16384).1 = smallL (smlV (cntS (smlS (cntS (cntS (cntS (cntS (cntS (cntS s 9) 1024) 1024) 1024) 1024) 1024) 1) 16384) (cntV (smlS (cntS (cntS (cntS (cntS (cntS (cntS s 9) 1024) 1024) 1024) 1024) 1024) 1) 16384)) ++ (smlS (cntS (smlS (cntS (cntS (cntS (cntS (cntS (cntS s 9) 1024) 1024) 1024) 1024) 1024) 1) 16384) (cntV (smlS (cntS (cntS (cntS (cntS (cntS (cntS s 9) 1024) 1024) 1024) 1024) 1024) 1) 16384)).1 := (sml_back i8 h9 (cntV_rng (m := 16384) i7 (by decide)).1).1
  have c9 := (wid_back i10 h11 (cntV_rng (m := 16384) i9 (by decide)).1).2
  have e9 : (smlS (cntS (smlS (cntS (cntS (cntS (cntS (cntS (cntS s 9) 1024) 1024) 1024) 1024) 1024) 1) 16384) (cntV (smlS (cntS (cntS (cntS (cntS (cntS (cntS s 9) 1024) 1024) 1024) 1024) 1024) 1) 16384)).1 = putN (((widV (cntS (smlS (cntS (smlS (cntS (cntS (cntS (cntS (cntS (cntS s 9) 1024) 1024) 1024) 1024) 1024) 1) 16384) (cntV (smlS (cntS (cntS (cntS (cntS (cntS (cntS s 9) 1024) 1024) 1024) 1024) 1024) 1) 16384)) 16384) (cntV (smlS (cntS (smlS (cntS (cntS (cntS (cntS (cntS (cntS s 9) 1024) 1024) 1024) 1024) 1024) 1) 16384) (cntV (smlS (cntS (cntS (cntS (cntS (cntS (cntS s 9) 1024) 1024) 1024) 1024) 1024) 1) 16384)) 16384)).length : Nat) : Int) ++ (cntS (smlS (cntS (smlS (cntS (cntS (cntS (cntS (cntS (cntS s 9) 1024) 1024) 1024) 1024) 1024) 1) 16384) (cntV (smlS (cntS (cntS (cntS (cntS (cntS (cntS s 9) 1024) 1024) 1024) 1024) 1024) 1) 16384)) 16384).1 := by rw [c9]; exact cnt_back i9 h10
  have e10 : (cntS (smlS (cntS (smlS (cntS (cntS (cntS (cntS (cntS (cntS s 9) 1024) 1024) 1024) 1024) 1024) 1) 16384) (cntV (smlS (cntS (cntS (cntS (cntS (cntS (cntS s 9) 1024) 1024) 1024) 1024) 1024) 1) 16384)) 16384).1 = wideL (widV (cntS (smlS (cntS (smlS (cntS (cntS (cntS (cntS (cntS (cntS s 9) 1024) 1024) 1024) 1024) 1024) 1) 16384) (cntV (smlS (cntS (cntS (cntS (cntS (cntS (cntS s 9) 1024) 1024) 1024) 1024) 1024) 1) 16384)) 16384) (cntV (smlS (cntS (smlS (cntS (cntS (cntS (cntS (cntS (cntS s 9) 1024) 1024) 1024) 1024) 1024) 1) 16384) (cntV (smlS (cntS (cntS (cntS (cntS (cntS (cntS s 9) 1024) 1024) 1024) 1024) 1024) 1) 16384)) 16384)) ++ (widS (cntS (smlS (cntS (smlS (cntS (cntS (cntS (cntS (cntS (cntS s 9) 1024) 1024) 1024) 1024) 1024) 1) 16384) (cntV (smlS (cntS (cntS (cntS (cntS (cntS (cntS s 9) 1024) 1024) 1024) 1024) 1024) 1) 16384)) 16384) (cntV (smlS (cntS (smlS (cntS (cntS (cntS (cntS (cntS (cntS s 9) 1024) 1024) 1024) 1024) 1024) 1) 16384) (cntV (smlS (cntS (cntS (cntS (cntS (cntS (cntS s 9) 1024) 1024) 1024) 1024) 1024) 1) 16384)) 16384)).1 := (wid_back i10 h11 (cntV_rng (m := 16384) i9 (by decide)).1).1
  have e11 : (widS (cntS (smlS (cntS (smlS (cntS (cntS (cntS (cntS (cntS (cntS s 9) 1024) 1024) 1024) 1024) 1024) 1) 16384) (cntV (smlS (cntS (cntS (cntS (cntS (cntS (cntS s 9) 1024) 1024) 1024) 1024) 1024) 1) 16384)) 16384) (cntV (smlS (cntS (smlS (cntS (cntS (cntS (cntS (cntS (cntS s 9) 1024) 1024) 1024) 1024) 1024) 1) 16384) (cntV (smlS (cntS (cntS (cntS (cntS (cntS (cntS s 9) 1024) 1024) 1024) 1024) 1024) 1) 16384)) 16384)).1 = putN (cntV (widS (cntS (smlS (cntS (smlS (cntS (cntS (cntS (cntS (cntS (cntS s 9) 1024) 1024) 1024) 1024) 1024) 1) 16384) (cntV (smlS (cntS (cntS (cntS (cntS (cntS (cntS s 9) 1024) 1024) 1024) 1024) 1024) 1) 16384)) 16384) (cntV (smlS (cntS (smlS (cntS (cntS (cntS (cntS (cntS (cntS s 9) 1024) 1024) 1024) 1024) 1024) 1) 16384) (cntV (smlS (cntS (cntS (cntS (cntS (cntS (cntS s 9) 1024) 1024) 1024) 1024) 1024) 1) 16384)) 16384)) 2147483647) ++ (cntS (widS (cntS (smlS (cntS (smlS (cntS (cntS (cntS (cntS (cntS (cntS s 9) 1024) 1024) 1024) 1024) 1024) 1) 16384) (cntV (smlS (cntS (cntS (cntS (cntS (cntS (cntS s 9) 1024) 1024) 1024) 1024) 1024) 1) 16384)) 16384) (cntV (smlS (cntS (smlS (cntS (cntS (cntS (cntS (cntS (cntS s 9) 1024) 1024) 1024) 1024) 1024) 1) 16384) (cntV (smlS (cntS (cntS (cntS (cntS (cntS (cntS s 9) 1024) 1024) 1024) 1024) 1024) 1) 16384)) 16384)) 2147483647).1 := cnt_back i11 h12
  have e12 : (cntS (widS (cntS (smlS (cntS (smlS (cntS (cntS (cntS (cntS (cntS (cntS s 9) 1024) 1024) 1024) 1024) 1024) 1) 16384) (cntV (smlS (cntS (cntS (cntS (cntS (cntS (cntS s 9) 1024) 1024) 1024) 1024) 1024) 1) 16384)) 16384) (cntV (smlS (cntS (smlS (cntS (cntS (cntS (cntS (cntS (cntS s 9) 1024) 1024) 1024) 1024) 1024) 1) 16384) (cntV (smlS (cntS (cntS (cntS (cntS (cntS (cntS s 9) 1024) 1024) 1024) 1024) 1024) 1) 16384)) 16384)) 2147483647).1 = putN (cntV (cntS (widS (cntS (smlS (cntS (smlS (cntS (cntS (cntS (cntS (cntS (cntS s 9) 1024) 1024) 1024) 1024) 1024) 1) 16384) (cntV (smlS (cntS (cntS (cntS (cntS (cntS (cntS s 9) 1024) 1024) 1024) 1024) 1024) 1) 16384)) 16384) (cntV (smlS (cntS (smlS (cntS (cntS (cntS (cntS (cntS (cntS s 9) 1024) 1024) 1024) 1024) 1024) 1) 16384) (cntV (smlS (cntS (cntS (cntS (cntS (cntS (cntS s 9) 1024) 1024) 1024) 1024) 1024) 1) 16384)) 16384)) 2147483647) 62) ++ (cntS (cntS (widS (cntS (smlS (cntS (smlS (cntS (cntS (cntS (cntS (cntS (cntS s 9) 1024) 1024) 1024) 1024) 1024) 1) 16384) (cntV (smlS (cntS (cntS (cntS (cntS (cntS (cntS s 9) 1024) 1024) 1024) 1024) 1024) 1) 16384)) 16384) (cntV (smlS (cntS (smlS (cntS (cntS (cntS (cntS (cntS (cntS s 9) 1024) 1024) 1024) 1024) 1024) 1) 16384) (cntV (smlS (cntS (cntS (cntS (cntS (cntS (cntS s 9) 1024) 1024) 1024) 1024) 1024) 1) 16384)) 16384)) 2147483647) 62).1 := cnt_back i12 h13
  have e13 : (cntS (cntS (widS (cntS (smlS (cntS (smlS (cntS (cntS (cntS (cntS (cntS (cntS s 9) 1024) 1024) 1024) 1024) 1024) 1) 16384) (cntV (smlS (cntS (cntS (cntS (cntS (cntS (cntS s 9) 1024) 1024) 1024) 1024) 1024) 1) 16384)) 16384) (cntV (smlS (cntS (smlS (cntS (cntS (cntS (cntS (cntS (cntS s 9) 1024) 1024) 1024) 1024) 1024) 1) 16384) (cntV (smlS (cntS (cntS (cntS (cntS (cntS (cntS s 9) 1024) 1024) 1024) 1024) 1024) 1) 16384)) 16384)) 2147483647) 62).1 = [IntKind.u8.wrap (oneV (cntS (cntS (widS (cntS (smlS (cntS (smlS (cntS (cntS (cntS (cntS (cntS (cntS s 9) 1024) 1024) 1024) 1024) 1024) 1) 16384) (cntV (smlS (cntS (cntS (cntS (cntS (cntS (cntS s 9) 1024) 1024) 1024) 1024) 1024) 1) 16384)) 16384) (cntV (smlS (cntS (smlS (cntS (cntS (cntS (cntS (cntS (cntS s 9) 1024) 1024) 1024) 1024) 1024) 1) 16384) (cntV (smlS (cntS (cntS (cntS (cntS (cntS (cntS s 9) 1024) 1024) 1024) 1024) 1024) 1) 16384)) 16384)) 2147483647) 62))] ++ (smlS (cntS (cntS (widS (cntS (smlS (cntS (smlS (cntS (cntS (cntS (cntS (cntS (cntS s 9) 1024) 1024) 1024) 1024) 1024) 1) 16384) (cntV (smlS (cntS (cntS (cntS (cntS (cntS (cntS s 9) 1024) 1024) 1024) 1024) 1024) 1) 16384)) 16384) (cntV (smlS (cntS (smlS (cntS (cntS (cntS (cntS (cntS (cntS s 9) 1024) 1024) 1024) 1024) 1024) 1) 16384) (cntV (smlS (cntS (cntS (cntS (cntS (cntS (cntS s 9) 1024) 1024) 1024) 1024) 1024) 1) 16384)) 16384)) 2147483647) 62) 1).1 := one_back i13 h14
  have e14 : (smlS (cntS (cntS (widS (cntS (smlS (cntS (smlS (cntS (cntS (cntS (cntS (cntS (cntS s 9) 1024) 1024) 1024) 1024) 1024) 1) 16384) (cntV (smlS (cntS (cntS (cntS (cntS (cntS (cntS s 9) 1024) 1024) 1024) 1024) 1024) 1) 16384)) 16384) (cntV (smlS (cntS (smlS (cntS (cntS (cntS (cntS (cntS (cntS s 9) 1024) 1024) 1024) 1024) 1024) 1) 16384) (cntV (smlS (cntS (cntS (cntS (cntS (cntS (cntS s 9) 1024) 1024) 1024) 1024) 1024) 1) 16384)) 16384)) 2147483647) 62) 1).1 = [IntKind.u8.wrap (oneV (smlS (cntS (cntS (widS (cntS (smlS (cntS (smlS (cntS (cntS (cntS (cntS (cntS (cntS s 9) 1024) 1024) 1024) 1024) 1024) 1) 16384) (cntV (smlS (cntS (cntS (cntS (cntS (cntS (cntS s 9) 1024) 1024) 1024) 1024) 1024) 1) 16384)) 16384) (cntV (smlS (cntS (smlS (cntS (cntS (cntS (cntS (cntS (cntS s 9) 1024) 1024) 1024) 1024) 1024) 1) 16384) (cntV (smlS (cntS (cntS (cntS (cntS (cntS (cntS s 9) 1024) 1024) 1024) 1024) 1024) 1) 16384)) 16384)) 2147483647) 62) 1))] ++ (smlS (smlS (cntS (cntS (widS (cntS (smlS (cntS (smlS (cntS (cntS (cntS (cntS (cntS (cntS s 9) 1024) 1024) 1024) 1024) 1024) 1) 16384) (cntV (smlS (cntS (cntS (cntS (cntS (cntS (cntS s 9) 1024) 1024) 1024) 1024) 1024) 1) 16384)) 16384) (cntV (smlS (cntS (smlS (cntS (cntS (cntS (cntS (cntS (cntS s 9) 1024) 1024) 1024) 1024) 1024) 1) 16384) (cntV (smlS (cntS (cntS (cntS (cntS (cntS (cntS s 9) 1024) 1024) 1024) 1024) 1024) 1) 16384)) 16384)) 2147483647) 62) 1) 1).1 := one_back i14 h15
  have e15 : (smlS (smlS (cntS (cntS (widS (cntS (smlS (cntS (smlS (cntS (cntS (cntS (cntS (cntS (cntS s 9) 1024) 1024) 1024) 1024) 1024) 1) 16384) (cntV (smlS (cntS (cntS (cntS (cntS (cntS (cntS s 9) 1024) 1024) 1024) 1024) 1024) 1) 16384)) 16384) (cntV (smlS (cntS (smlS (cntS (cntS (cntS (cntS (cntS (cntS s 9) 1024) 1024) 1024) 1024) 1024) 1) 16384) (cntV (smlS (cntS (cntS (cntS (cntS (cntS (cntS s 9) 1024) 1024) 1024) 1024) 1024) 1) 16384)) 16384)) 2147483647) 62) 1) 1).1 = [IntKind.u8.wrap (oneV (smlS (smlS (cntS (cntS (widS (cntS (smlS (cntS (smlS (cntS (cntS (cntS (cntS (cntS (cntS s 9) 1024) 1024) 1024) 1024) 1024) 1) 16384) (cntV (smlS (cntS (cntS (cntS (cntS (cntS (cntS s 9) 1024) 1024) 1024) 1024) 1024) 1) 16384)) 16384) (cntV (smlS (cntS (smlS (cntS (cntS (cntS (cntS (cntS (cntS s 9) 1024) 1024) 1024) 1024) 1024) 1) 16384) (cntV (smlS (cntS (cntS (cntS (cntS (cntS (cntS s 9) 1024) 1024) 1024) 1024) 1024) 1) 16384)) 16384)) 2147483647) 62) 1) 1))] ++ (smlS (smlS (smlS (cntS (cntS (widS (cntS (smlS (cntS (smlS (cntS (cntS (cntS (cntS (cntS (cntS s 9) 1024) 1024) 1024) 1024) 1024) 1) 16384) (cntV (smlS (cntS (cntS (cntS (cntS (cntS (cntS s 9) 1024) 1024) 1024) 1024) 1024) 1) 16384)) 16384) (cntV (smlS (cntS (smlS (cntS (cntS (cntS (cntS (cntS (cntS s 9) 1024) 1024) 1024) 1024) 1024) 1) 16384) (cntV (smlS (cntS (cntS (cntS (cntS (cntS (cntS s 9) 1024) 1024) 1024) 1024) 1024) 1) 16384)) 16384)) 2147483647) 62) 1) 1) 1).1 := one_back i15 h16
  show s.1 = (putN (cntV s 9) ++ putN (cntV (cntS s 9) 1024) ++ putN (cntV (cntS (cntS s 9) 1024) 1024) ++ putN (cntV (cntS (cntS (cntS s 9) 1024) 1024) 1024) ++ putN (cntV (cntS (cntS (cntS (cntS s 9) 1024) 1024) 1024) 1024) ++ putN (cntV (cntS (cntS (cntS (cntS (cntS s 9) 1024) 1024) 1024) 1024) 1024) ++ [IntKind.u8.wrap (oneV (cntS (cntS (cntS (cntS (cntS (cntS s 9) 1024) 1024) 1024) 1024) 1024))] ++ putN (((smlV (cntS (smlS (cntS (cntS (cntS (cntS (cntS (cntS s 9) 1024) 1024) 1024) 1024) 1024) 1) 16384) (cntV (smlS (cntS (cntS (cntS (cntS (cntS (cntS s 9) 1024) 1024) 1024) 1024) 1024) 1) 16384)).length : Nat) : Int) ++ smallL (smlV (cntS (smlS (cntS (cntS (cntS (cntS (cntS (cntS s 9) 1024) 1024) 1024) 1024) 1024) 1) 16384) (cntV (smlS (cntS (cntS (cntS (cntS (cntS (cntS s 9) 1024) 1024) 1024) 1024) 1024) 1) 16384)) ++ putN (((widV (cntS (smlS (cntS (smlS (cntS (cntS (cntS (cntS (cntS (cntS s 9) 1024) 1024) 1024) 1024) 1024) 1) 16384) (cntV (smlS (cntS (cntS (cntS (cntS (cntS (cntS s 9) 1024) 1024) 1024) 1024) 1024) 1) 16384)) 16384) (cntV (smlS (cntS (smlS (cntS (cntS (cntS (cntS (cntS (cntS s 9) 1024) 1024) 1024) 1024) 1024) 1) 16384) (cntV (smlS (cntS (cntS (cntS (cntS (cntS (cntS s 9) 1024) 1024) 1024) 1024) 1024) 1) 16384)) 16384)).length : Nat) : Int) ++ wideL (widV (cntS (smlS (cntS (smlS (cntS (cntS (cntS (cntS (cntS (cntS s 9) 1024) 1024) 1024) 1024) 1024) 1) 16384) (cntV (smlS (cntS (cntS (cntS (cntS (cntS (cntS s 9) 1024) 1024) 1024) 1024) 1024) 1) 16384)) 16384) (cntV (smlS (cntS (smlS (cntS (cntS (cntS (cntS (cntS (cntS s 9) 1024) 1024) 1024) 1024) 1024) 1) 16384) (cntV (smlS (cntS (cntS (cntS (cntS (cntS (cntS s 9) 1024) 1024) 1024) 1024) 1024) 1) 16384)) 16384)) ++ putN (cntV (widS (cntS (smlS (cntS (smlS (cntS (cntS (cntS (cntS (cntS (cntS s 9) 1024) 1024) 1024) 1024) 1024) 1) 16384) (cntV (smlS (cntS (cntS (cntS (cntS (cntS (cntS s 9) 1024) 1024) 1024) 1024) 1024) 1) 16384)) 16384) (cntV (smlS (cntS (smlS (cntS (cntS (cntS (cntS (cntS (cntS s 9) 1024) 1024) 1024) 1024) 1024) 1) 16384) (cntV (smlS (cntS (cntS (cntS (cntS (cntS (cntS s 9) 1024) 1024) 1024) 1024) 1024) 1) 16384)) 16384)) 2147483647) ++ putN (cntV (cntS (widS (cntS (smlS (cntS (smlS (cntS (cntS (cntS (cntS (cntS (cntS s 9) 1024) 1024) 1024) 1024) 1024) 1) 16384) (cntV (smlS (cntS (cntS (cntS (cntS (cntS (cntS s 9) 1024) 1024) 1024) 1024) 1024) 1) 16384)) 16384) (cntV (smlS (cntS (smlS (cntS (cntS (cntS (cntS (cntS (cntS s 9) 1024) 1024) 1024) 1024) 1024) 1) 16384) (cntV (smlS (cntS (cntS (cntS (cntS (cntS (cntS s 9) 1024) 1024) 1024) 1024) 1024) 1) 16384)) 16384)) 2147483647) 62) ++ [IntKind.u8.wrap (oneV (cntS (cntS (widS (cntS (smlS (cntS (smlS (cntS (cntS (cntS (cntS (cntS (cntS s 9) 1024) 1024) 1024) 1024) 1024) 1) 16384) (cntV (smlS (cntS (cntS (cntS (cntS (cntS (cntS s 9) 1024) 1024) 1024) 1024) 1024) 1) 16384)) 16384) (cntV (smlS (cntS (smlS (cntS (cntS (cntS (cntS (cntS (cntS s 9) 1024) 1024) 1024) 1024) 1024) 1) 16384) (cntV (smlS (cntS (cntS (cntS (cntS (cntS (cntS s 9) 1024) 1024) 1024) 1024) 1024) 1) 16384)) 16384)) 2147483647) 62))] ++ [IntKind.u8.wrap (oneV (smlS (cntS (cntS (widS (cntS (smlS (cntS (smlS (cntS (cntS (cntS (cntS (cntS (cntS s 9) 1024) 1024) 1024) 1024) 1024) 1) 16384) (cntV (smlS (cntS (cntS (cntS (cntS (cntS (cntS s 9) 1024) 1024) 1024) 1024) 1024) 1) 16384)) 16384) (cntV (smlS (cntS (smlS (cntS (cntS (cntS (cntS (cntS (cntS s 9) 1024) 1024) 1024) 1024) 1024) 1) 16384) (cntV (smlS (cntS (cntS (cntS (cntS (cntS (cntS s 9) 1024) 1024) 1024) 1024) 1024) 1) 16384)) 16384)) 2147483647) 62) 1))] ++ [IntKind.u8.wrap (oneV (smlS (smlS (cntS (cntS (widS (cntS (smlS (cntS (smlS (cntS (cntS (cntS (cntS (cntS (cntS s 9) 1024) 1024) 1024) 1024) 1024) 1) 16384) (cntV (smlS (cntS (cntS (cntS (cntS (cntS (cntS s 9) 1024) 1024) 1024) 1024) 1024) 1) 16384)) 16384) (cntV (smlS (cntS (smlS (cntS (cntS (cntS (cntS (cntS (cntS s 9) 1024) 1024) 1024) 1024) 1024) 1) 16384) (cntV (smlS (cntS (cntS (cntS (cntS (cntS (cntS s 9) 1024) 1024) 1024) 1024) 1024) 1) 16384)) 16384)) 2147483647) 62) 1) 1))]) ++ (smlS (smlS (smlS (cntS (cntS (widS (cntS (smlS (cntS (smlS (cntS (cntS (cntS (cntS (cntS (cntS s 9) 1024) 1024) 1024) 1024) 1024) 1) 16384) (cntV (smlS (cntS (cntS (cntS (cntS (cntS (cntS s 9) 1024) 1024) 1024) 1024) 1024) 1) 16384)) 16384) (cntV (smlS (cntS (smlS (cntS (cntS (cntS (cntS (cntS (cntS s 9) 1024) 1024) 1024) 1024) 1024) 1) 16384) (cntV (smlS (cntS (cntS (cntS (cntS (cntS (cntS s 9) 1024) 1024) 1024) 1024) 1024) 1) 16384)) 16384)) 2147483647) 62) 1) 1) 1).1
  simp only [List.append_assoc]
  exact e0.trans (congrArg (putN (cntV s 9) ++ ·) (e1.trans (congrArg (putN (cntV (cntS s 9) 1024) ++ ·) (e2.trans (congrArg (putN (cntV (cntS (cntS s 9) 1024) 1024) ++ ·) (e3.trans (congrArg (putN (cntV (cntS (cntS (cntS s 9) 1024) 1024) 1024) ++ ·) (e4.trans (congrArg (putN (cntV (cntS (cntS (cntS (cntS s 9) 1024) 1024) 1024) 1024) ++ ·) (e5.trans (congrArg (putN (cntV (cntS (cntS (cntS (cntS (cntS s 9) 1024) 1024) 1024) 1024) 1024) ++ ·) (e6.trans (congrArg ([IntKind.u8.wrap (oneV (cntS (cntS (cntS (cntS (cntS (cntS s 9) 1024) 1024) 1024) 1024) 1024))] ++ ·) (e7.trans (congrArg (putN (((smlV (cntS (smlS (cntS (cntS (cntS (cntS (cntS (cntS s 9) 1024) 1024) 1024) 1024) 1024) 1) 16384) (cntV (smlS (cntS (cntS (cntS (cntS (cntS (cntS s 9) 1024) 1024) 1024) 1024) 1024) 1) 16384)).length : Nat) : Int) ++ ·) (e8.trans (congrArg (smallL (smlV (cntS (smlS (cntS (cntS (cntS (cntS (cntS (cntS s 9) 1024) 1024) 1024) 1024) 1024) 1) 16384) (cntV (smlS (cntS (cntS (cntS (cntS (cntS (cntS s 9) 1024) 1024) 1024) 1024) 1024) 1) 16384)) ++ ·) (e9.trans (congrArg (putN (((widV (cntS (smlS (cntS (smlS (cntS (cntS (cntS (cntS (cntS (cntS s 9) 1024) 1024) 1024) 1024) 1024) 1) 16384) (cntV (smlS (cntS (cntS (cntS (cntS (cntS (cntS s 9) 1024) 1024) 1024) 1024) 1024) 1) 16384)) 16384) (cntV (smlS (cntS (smlS (cntS (cntS (cntS (cntS (cntS (cntS s 9) 1024) 1024) 1024) 1024) 1024) 1) 16384) (cntV (smlS (cntS (cntS (cntS (cntS (cntS (cntS s 9) 1024) 1024) 1024) 1024) 1024) 1) 16384)) 16384)).length : Nat) : Int) ++ ·) (e10.trans (congrArg (wideL (widV (cntS (smlS (cntS (smlS (cntS (cntS (cntS (cntS (cntS (cntS s 9) 1024) 1024) 1024) 1024) 1024) 1) 16384) (cntV (smlS (cntS (cntS (cntS (cntS (cntS (cntS s 9) 1024) 1024) 1024) 1024) 1024) 1) 16384)) 16384) (cntV (smlS (cntS (smlS (cntS (cntS (cntS (cntS (cntS (cntS s 9) 1024) 1024) 1024) 1024) 1024) 1) 16384) (cntV (smlS (cntS (cntS (cntS (cntS (cntS (cntS s 9) 1024) 1024) 1024) 1024) 1024) 1) 16384)) 16384)) ++ ·) (e11.trans (congrArg (putN (cntV (widS (cntS (smlS (cntS (smlS (cntS (cntS (cntS (cntS (cntS (cntS s 9) 1024) 1024) 1024) 1024) 1024) 1) 16384) (cntV (smlS (cntS (cntS (cntS (cntS (cntS (cntS s 9) 1024) 1024) 1024) 1024) 1024) 1) 16384)) 16384) (cntV (smlS (cntS (smlS (cntS (cntS (cntS (cntS (cntS (cntS s 9) 1024) 1024) 1024) 1024) 1024) 1) 16384) (cntV (smlS (cntS (cntS (cntS (cntS (cntS (cntS s 9) 1024) 1024) 1024) 1024) 1024) 1) 16384)) 16384)) 2147483647) ++ ·) (e12.trans (congrArg (putN (cntV (cntS (widS (cntS (smlS (cntS (smlS (cntS (cntS (cntS (cntS (cntS (cntS s 9) 1024) 1024) 1024) 1024) 1024) 1) 16384) (cntV (smlS (cntS (cntS (cntS (cntS (cntS (cntS s 9) 1024) 1024) 1024) 1024) 1024) 1) 16384)) 16384) (cntV (smlS (cntS (smlS (cntS (cntS (cntS (cntS (cntS (cntS s 9) 1024) 1024) 1024) 1024) 1024) 1) 16384) (cntV (smlS (cntS (cntS (cntS (cntS (cntS (cntS s 9) 1024) 1024) 1024) 1024) 1024) 1) 16384)) 16384)) 2147483647) 62) ++ ·) (e13.trans (congrArg ([IntKind.u8.wrap (oneV (cntS (cntS (widS (cntS (smlS (cntS (smlS (cntS (cntS (cntS (cntS (cntS (cntS s 9) 1024) 1024) 1024) 1024) 1024) 1) 16384) (cntV (smlS (cntS (cntS (cntS (cntS (cntS (cntS s 9) 1024) 1024) 1024) 1024) 1024) 1) 16384)) 16384) (cntV (smlS (cntS (smlS (cntS (cntS (cntS (cntS (cntS (cntS s 9) 1024) 1024) 1024) 1024) 1024) 1) 16384) (cntV (smlS (cntS (cntS (cntS (cntS (cntS (cntS s 9) 1024) 1024) 1024) 1024) 1024) 1) 16384)) 16384)) 2147483647) 62))] ++ ·) (e14.trans (congrArg ([IntKind.u8.wrap (oneV (smlS (cntS (cntS (widS (cntS (smlS (cntS (smlS (cntS (cntS (cntS (cntS (cntS (cntS s 9) 1024) 1024) 1024) 1024) 1024) 1) 16384) (cntV (smlS (cntS (cntS (cntS (cntS (cntS (cntS s 9) 1024) 1024) 1024) 1024) 1024) 1) 16384)) 16384) (cntV (smlS (cntS (smlS (cntS (cntS (cntS (cntS (cntS (cntS s 9) 1024) 1024) 1024) 1024) 1024) 1) 16384) (cntV (smlS (cntS (cntS (cntS (cntS (cntS (cntS s 9) 1024) 1024) 1024) 1024) 1024) 1) 16384)) 16384)) 2147483647) 62) 1))] ++ ·) (e15))))))))))))))))))))))))))))))
theorem there_2 (n : Nod) (h : NTh n) (hk : n.kd = 2) (b : List Int) : ts_2 (lb_2 putN n ++ b, 0) = (b, 0) ∧ tn_2 (lb_2 putN n ++ b, 0) nod0 = ⟨n.kd, n.na, 0, n.nk, n.ns, n.np, 0, n.za, 0, n.w, n.b, n.qm, n.qs, n.qz, 0, 0, 0, n.lo, n.hi⟩ := by
  have a0 := cntS_there h.kd (by decide)
  have b0 := cntV_there h.kd (by decide)
  have a1 := cntS_there h.na (by decide)
  have b1 := cntV_there h.na (by decide)
  have a2 := cntS_there h.nk (by decide)
  have b2 := cntV_there h.nk (by decide)
  have a3 := cntS_there h.ns (by decide)
  have b3 := cntV_there h.ns (by decide)
  have a4 := cntS_there h.np (by decide)
  have b4 := cntV_there h.np (by decide)
  have a5 := oneS_there h.okn.za
  have b5 := oneV_there h.okn.za
  have l := lst_there h.wl h.bl h.okn.w h.okn.b
  have l1 := fun b => (l b).1
  have l2 := fun b => (l b).2.1
  have l3 := fun b => (l b).2.2
  have sq := scl_there (h.q (by simp [scaledB, hk])).1 (h.q (by simp [scaledB, hk])).2
  have sq1 := fun b => (sq b).1
  have sq2 := fun b => (sq b).2.1
  have sq3 := fun b => (sq b).2.2
  have a9 := oneS_there h.okn.qz
  have b9 := oneV_there h.okn.qz
  have a10 := oneS_there h.okn.lo
  have b10 := oneV_there h.okn.lo
  have a11 := oneS_there h.okn.hi
  have b11 := oneV_there h.okn.hi
  unfold ts_2 tn_2 lb_2
  simp only [List.append_assoc, a0, b0, a1, b1, a2, b2, a3, b3, a4, b4, a5, b5, l1, l2, l3, sq1, sq2, sq3, a9, b9, a10, b10, a11, b11, nod0, and_self]
theorem back_2 (s : Rst) (h : s.In) (hs : (ts_2 s).2 = 0) : s.1 = lb_2 putN (tn_2 s nod0) ++ (ts_2 s).1 := by
  have i0 := h
  have i1 : (cntS s 9).In := cnt_in i0 _
  have i2 : (cntS (cntS s 9) 1024).In := cnt_in i1 _
  have i3 : (cntS (cntS (cntS s 9) 1024) 1024).In := cnt_in i2 _
  have i4 : (cntS (cntS (cntS (cntS s 9) 1024) 1024) 1024).In := cnt_in i3 _
  have i5 : (cntS (cntS (cntS (cntS (cntS s 9) 1024) 1024) 1024) 1024).In := cnt_in i4 _
  have i6 : (smlS (cntS (cntS (cntS (cntS (cntS s 9) 1024) 1024) 1024) 1024) 1).In := sml_in i5 _
  have i7 : (cntS (smlS (cntS (cntS (cntS (cntS (cntS s 9) 1024) 1024) 1024) 1024) 1) 16384).In := cnt_in i6 _
  have i8 : (smlS (cntS (smlS (cntS (cntS (cntS (cntS (cntS s 9) 1024) 1024) 1024) 1024) 1) 16384) (cntV (smlS (cntS (cntS (cntS (cntS (cntS s 9) 1024) 1024) 1024) 1024) 1) 16384)).In := sml_in i7 _
  have i9 : (cntS (smlS (cntS (smlS (cntS (cntS (cntS (cntS (cntS s 9) 1024) 1024) 1024) 1024) 1) 16384) (cntV (smlS (cntS (cntS (cntS (cntS (cntS s 9) 1024) 1024) 1024) 1024) 1) 16384)) 16384).In := cnt_in i8 _
  have i10 : (widS (cntS (smlS (cntS (smlS (cntS (cntS (cntS (cntS (cntS s 9) 1024) 1024) 1024) 1024) 1) 16384) (cntV (smlS (cntS (cntS (cntS (cntS (cntS s 9) 1024) 1024) 1024) 1024) 1) 16384)) 16384) (cntV (smlS (cntS (smlS (cntS (cntS (cntS (cntS (cntS s 9) 1024) 1024) 1024) 1024) 1) 16384) (cntV (smlS (cntS (cntS (cntS (cntS (cntS s 9) 1024) 1024) 1024) 1024) 1) 16384)) 16384)).In := wid_in i9 _
  have i11 : (cntS (widS (cntS (smlS (cntS (smlS (cntS (cntS (cntS (cntS (cntS s 9) 1024) 1024) 1024) 1024) 1) 16384) (cntV (smlS (cntS (cntS (cntS (cntS (cntS s 9) 1024) 1024) 1024) 1024) 1) 16384)) 16384) (cntV (smlS (cntS (smlS (cntS (cntS (cntS (cntS (cntS s 9) 1024) 1024) 1024) 1024) 1) 16384) (cntV (smlS (cntS (cntS (cntS (cntS (cntS s 9) 1024) 1024) 1024) 1024) 1) 16384)) 16384)) 2147483647).In := cnt_in i10 _
  have i12 : (cntS (cntS (widS (cntS (smlS (cntS (smlS (cntS (cntS (cntS (cntS (cntS s 9) 1024) 1024) 1024) 1024) 1) 16384) (cntV (smlS (cntS (cntS (cntS (cntS (cntS s 9) 1024) 1024) 1024) 1024) 1) 16384)) 16384) (cntV (smlS (cntS (smlS (cntS (cntS (cntS (cntS (cntS s 9) 1024) 1024) 1024) 1024) 1) 16384) (cntV (smlS (cntS (cntS (cntS (cntS (cntS s 9) 1024) 1024) 1024) 1024) 1) 16384)) 16384)) 2147483647) 62).In := cnt_in i11 _
  have i13 : (smlS (cntS (cntS (widS (cntS (smlS (cntS (smlS (cntS (cntS (cntS (cntS (cntS s 9) 1024) 1024) 1024) 1024) 1) 16384) (cntV (smlS (cntS (cntS (cntS (cntS (cntS s 9) 1024) 1024) 1024) 1024) 1) 16384)) 16384) (cntV (smlS (cntS (smlS (cntS (cntS (cntS (cntS (cntS s 9) 1024) 1024) 1024) 1024) 1) 16384) (cntV (smlS (cntS (cntS (cntS (cntS (cntS s 9) 1024) 1024) 1024) 1024) 1) 16384)) 16384)) 2147483647) 62) 1).In := sml_in i12 _
  have i14 : (smlS (smlS (cntS (cntS (widS (cntS (smlS (cntS (smlS (cntS (cntS (cntS (cntS (cntS s 9) 1024) 1024) 1024) 1024) 1) 16384) (cntV (smlS (cntS (cntS (cntS (cntS (cntS s 9) 1024) 1024) 1024) 1024) 1) 16384)) 16384) (cntV (smlS (cntS (smlS (cntS (cntS (cntS (cntS (cntS s 9) 1024) 1024) 1024) 1024) 1) 16384) (cntV (smlS (cntS (cntS (cntS (cntS (cntS s 9) 1024) 1024) 1024) 1024) 1) 16384)) 16384)) 2147483647) 62) 1) 1).In := sml_in i13 _
  have h15 : (smlS (smlS (smlS (cntS (cntS (widS (cntS (smlS (cntS (smlS (cntS (cntS (cntS (cntS (cntS s 9) 1024) 1024) 1024) 1024) 1) 16384) (cntV (smlS (cntS (cntS (cntS (cntS (cntS s 9) 1024) 1024) 1024) 1024) 1) 16384)) 16384) (cntV (smlS (cntS (smlS (cntS (cntS (cntS (cntS (cntS s 9) 1024) 1024) 1024) 1024) 1) 16384) (cntV (smlS (cntS (cntS (cntS (cntS (cntS s 9) 1024) 1024) 1024) 1024) 1) 16384)) 16384)) 2147483647) 62) 1) 1) 1).2 = 0 := hs
  have h14 : (smlS (smlS (cntS (cntS (widS (cntS (smlS (cntS (smlS (cntS (cntS (cntS (cntS (cntS s 9) 1024) 1024) 1024) 1024) 1) 16384) (cntV (smlS (cntS (cntS (cntS (cntS (cntS s 9) 1024) 1024) 1024) 1024) 1) 16384)) 16384) (cntV (smlS (cntS (smlS (cntS (cntS (cntS (cntS (cntS s 9) 1024) 1024) 1024) 1024) 1) 16384) (cntV (smlS (cntS (cntS (cntS (cntS (cntS s 9) 1024) 1024) 1024) 1024) 1) 16384)) 16384)) 2147483647) 62) 1) 1).2 = 0 := sml_ok h15
  have h13 : (smlS (cntS (cntS (widS (cntS (smlS (cntS (smlS (cntS (cntS (cntS (cntS (cntS s 9) 1024) 1024) 1024) 1024) 1) 16384) (cntV (smlS (cntS (cntS (cntS (cntS (cntS s 9) 1024) 1024) 1024) 1024) 1) 16384)) 16384) (cntV (smlS (cntS (smlS (cntS (cntS (cntS (cntS (cntS s 9) 1024) 1024) 1024) 1024) 1) 16384) (cntV (smlS (cntS (cntS (cntS (cntS (cntS s 9) 1024) 1024) 1024) 1024) 1) 16384)) 16384)) 2147483647) 62) 1).2 = 0 := sml_ok h14
  have h12 : (cntS (cntS (widS (cntS (smlS (cntS (smlS (cntS (cntS (cntS (cntS (cntS s 9) 1024) 1024) 1024) 1024) 1) 16384) (cntV (smlS (cntS (cntS (cntS (cntS (cntS s 9) 1024) 1024) 1024) 1024) 1) 16384)) 16384) (cntV (smlS (cntS (smlS (cntS (cntS (cntS (cntS (cntS s 9) 1024) 1024) 1024) 1024) 1) 16384) (cntV (smlS (cntS (cntS (cntS (cntS (cntS s 9) 1024) 1024) 1024) 1024) 1) 16384)) 16384)) 2147483647) 62).2 = 0 := sml_ok h13
  have h11 : (cntS (widS (cntS (smlS (cntS (smlS (cntS (cntS (cntS (cntS (cntS s 9) 1024) 1024) 1024) 1024) 1) 16384) (cntV (smlS (cntS (cntS (cntS (cntS (cntS s 9) 1024) 1024) 1024) 1024) 1) 16384)) 16384) (cntV (smlS (cntS (smlS (cntS (cntS (cntS (cntS (cntS s 9) 1024) 1024) 1024) 1024) 1) 16384) (cntV (smlS (cntS (cntS (cntS (cntS (cntS s 9) 1024) 1024) 1024) 1024) 1) 16384)) 16384)) 2147483647).2 = 0 := cnt_ok h12
  have h10 : (widS (cntS (smlS (cntS (smlS (cntS (cntS (cntS (cntS (cntS s 9) 1024) 1024) 1024) 1024) 1) 16384) (cntV (smlS (cntS (cntS (cntS (cntS (cntS s 9) 1024) 1024) 1024) 1024) 1) 16384)) 16384) (cntV (smlS (cntS (smlS (cntS (cntS (cntS (cntS (cntS s 9) 1024) 1024) 1024) 1024) 1) 16384) (cntV (smlS (cntS (cntS (cntS (cntS (cntS s 9) 1024) 1024) 1024) 1024) 1) 16384)) 16384)).2 = 0 := cnt_ok h11
  have h9 : (cntS (smlS (cntS (smlS (cntS (cntS (cntS (cntS (cntS s 9) 1024) 1024) 1024) 1024) 1) 16384) (cntV (smlS (cntS (cntS (cntS (cntS (cntS s 9) 1024) 1024) 1024) 1024) 1) 16384)) 16384).2 = 0 := wid_ok h10
  have h8 : (smlS (cntS (smlS (cntS (cntS (cntS (cntS (cntS s 9) 1024) 1024) 1024) 1024) 1) 16384) (cntV (smlS (cntS (cntS (cntS (cntS (cntS s 9) 1024) 1024) 1024) 1024) 1) 16384)).2 = 0 := cnt_ok h9
  have h7 : (cntS (smlS (cntS (cntS (cntS (cntS (cntS s 9) 1024) 1024) 1024) 1024) 1) 16384).2 = 0 := sml_ok h8
  have h6 : (smlS (cntS (cntS (cntS (cntS (cntS s 9) 1024) 1024) 1024) 1024) 1).2 = 0 := cnt_ok h7
  have h5 : (cntS (cntS (cntS (cntS (cntS s 9) 1024) 1024) 1024) 1024).2 = 0 := sml_ok h6
  have h4 : (cntS (cntS (cntS (cntS s 9) 1024) 1024) 1024).2 = 0 := cnt_ok h5
  have h3 : (cntS (cntS (cntS s 9) 1024) 1024).2 = 0 := cnt_ok h4
  have h2 : (cntS (cntS s 9) 1024).2 = 0 := cnt_ok h3
  have h1 : (cntS s 9).2 = 0 := cnt_ok h2
  have e0 : s.1 = putN (cntV s 9) ++ (cntS s 9).1 := cnt_back i0 h1
  have e1 : (cntS s 9).1 = putN (cntV (cntS s 9) 1024) ++ (cntS (cntS s 9) 1024).1 := cnt_back i1 h2
  have e2 : (cntS (cntS s 9) 1024).1 = putN (cntV (cntS (cntS s 9) 1024) 1024) ++ (cntS (cntS (cntS s 9) 1024) 1024).1 := cnt_back i2 h3
  have e3 : (cntS (cntS (cntS s 9) 1024) 1024).1 = putN (cntV (cntS (cntS (cntS s 9) 1024) 1024) 1024) ++ (cntS (cntS (cntS (cntS s 9) 1024) 1024) 1024).1 := cnt_back i3 h4
  have e4 : (cntS (cntS (cntS (cntS s 9) 1024) 1024) 1024).1 = putN (cntV (cntS (cntS (cntS (cntS s 9) 1024) 1024) 1024) 1024) ++ (cntS (cntS (cntS (cntS (cntS s 9) 1024) 1024) 1024) 1024).1 := cnt_back i4 h5
  have e5 : (cntS (cntS (cntS (cntS (cntS s 9) 1024) 1024) 1024) 1024).1 = [IntKind.u8.wrap (oneV (cntS (cntS (cntS (cntS (cntS s 9) 1024) 1024) 1024) 1024))] ++ (smlS (cntS (cntS (cntS (cntS (cntS s 9) 1024) 1024) 1024) 1024) 1).1 := one_back i5 h6
  have c6 := (sml_back i7 h8 (cntV_rng (m := 16384) i6 (by decide)).1).2
  have e6 : (smlS (cntS (cntS (cntS (cntS (cntS s 9) 1024) 1024) 1024) 1024) 1).1 = putN (((smlV (cntS (smlS (cntS (cntS (cntS (cntS (cntS s 9) 1024) 1024) 1024) 1024) 1) 16384) (cntV (smlS (cntS (cntS (cntS (cntS (cntS s 9) 1024) 1024) 1024) 1024) 1) 16384)).length : Nat) : Int) ++ (cntS (smlS (cntS (cntS (cntS (cntS (cntS s 9) 1024) 1024) 1024) 1024) 1) 16384).1 := by rw [c6]; exact cnt_back i6 h7
  have e7 : (cntS (smlS (cntS (cntS (cntS (cntS (cntS s 9) 1024) 1024) 1024) 1024) 1) 16384).1 = smallL (smlV (cntS (smlS (cntS (cntS (cntS (cntS (cntS s 9) 1024) 1024) 1024) 1024) 1) 16384) (cntV (smlS (cntS (cntS (cntS (cntS (cntS s 9) 1024) 1024) 1024) 1024) 1) 16384)) ++ (smlS (cntS (smlS (cntS (cntS (cntS (cntS (cntS s 9) 1024) 1024) 1024) 1024) 1) 16384) (cntV (smlS (cntS (cntS (cntS (cntS (cntS s 9) 1024) 1024) 1024) 1024) 1) 16384)).1 := (sml_back i7 h8 (cntV_rng (m := 16384) i6 (by decide)).1).1
  have c8 := (wid_back i9 h10 (cntV_rng (m := 16384) i8 (by decide)).1).2
  have e8 : (smlS (cntS (smlS (cntS (cntS (cntS (cntS (cntS s 9) 1024) 1024) 1024) 1024) 1) 16384) (cntV (smlS (cntS (cntS (cntS (cntS (cntS s 9) 1024) 1024) 1024) 1024) 1) 16384)).1 = putN (((widV (cntS (smlS (cntS (smlS (cntS (cntS (cntS (cntS (cntS s 9) 1024) 1024) 1024) 1024) 1) 16384) (cntV (smlS (cntS (cntS (cntS (cntS (cntS s 9) 1024) 1024) 1024) 1024) 1) 16384)) 16384) (cntV (smlS (cntS (smlS (cntS (cntS (cntS (cntS (cntS s 9) 1024) 1024) 1024) 1024) 1) 16384) (cntV (smlS (cntS (cntS (cntS (cntS (cntS s 9) 1024) 1024) 1024) 1024) 1) 16384)) 16384)).length : Nat) : Int) ++ (cntS (smlS (cntS (smlS (cntS (cntS (cntS (cntS (cntS s 9) 1024) 1024) 1024) 1024) 1) 16384) (cntV (smlS (cntS (cntS (cntS (cntS (cntS s 9) 1024) 1024) 1024) 1024) 1) 16384)) 16384).1 := by rw [c8]; exact cnt_back i8 h9
  have e9 : (cntS (smlS (cntS (smlS (cntS (cntS (cntS (cntS (cntS s 9) 1024) 1024) 1024) 1024) 1) 16384) (cntV (smlS (cntS (cntS (cntS (cntS (cntS s 9) 1024) 1024) 1024) 1024) 1) 16384)) 16384).1 = wideL (widV (cntS (smlS (cntS (smlS (cntS (cntS (cntS (cntS (cntS s 9) 1024) 1024) 1024) 1024) 1) 16384) (cntV (smlS (cntS (cntS (cntS (cntS (cntS s 9) 1024) 1024) 1024) 1024) 1) 16384)) 16384) (cntV (smlS (cntS (smlS (cntS (cntS (cntS (cntS (cntS s 9) 1024) 1024) 1024) 1024) 1) 16384) (cntV (smlS (cntS (cntS (cntS (cntS (cntS s 9) 1024) 1024) 1024) 1024) 1) 16384)) 16384)) ++ (widS (cntS (smlS (cntS (smlS (cntS (cntS (cntS (cntS (cntS s 9) 1024) 1024) 1024) 1024) 1) 16384) (cntV (smlS (cntS (cntS (cntS (cntS (cntS s 9) 1024) 1024) 1024) 1024) 1) 16384)) 16384) (cntV (smlS (cntS (smlS (cntS (cntS (cntS (cntS (cntS s 9) 1024) 1024) 1024) 1024) 1) 16384) (cntV (smlS (cntS (cntS (cntS (cntS (cntS s 9) 1024) 1024) 1024) 1024) 1) 16384)) 16384)).1 := (wid_back i9 h10 (cntV_rng (m := 16384) i8 (by decide)).1).1
  have e10 : (widS (cntS (smlS (cntS (smlS (cntS (cntS (cntS (cntS (cntS s 9) 1024) 1024) 1024) 1024) 1) 16384) (cntV (smlS (cntS (cntS (cntS (cntS (cntS s 9) 1024) 1024) 1024) 1024) 1) 16384)) 16384) (cntV (smlS (cntS (smlS (cntS (cntS (cntS (cntS (cntS s 9) 1024) 1024) 1024) 1024) 1) 16384) (cntV (smlS (cntS (cntS (cntS (cntS (cntS s 9) 1024) 1024) 1024) 1024) 1) 16384)) 16384)).1 = putN (cntV (widS (cntS (smlS (cntS (smlS (cntS (cntS (cntS (cntS (cntS s 9) 1024) 1024) 1024) 1024) 1) 16384) (cntV (smlS (cntS (cntS (cntS (cntS (cntS s 9) 1024) 1024) 1024) 1024) 1) 16384)) 16384) (cntV (smlS (cntS (smlS (cntS (cntS (cntS (cntS (cntS s 9) 1024) 1024) 1024) 1024) 1) 16384) (cntV (smlS (cntS (cntS (cntS (cntS (cntS s 9) 1024) 1024) 1024) 1024) 1) 16384)) 16384)) 2147483647) ++ (cntS (widS (cntS (smlS (cntS (smlS (cntS (cntS (cntS (cntS (cntS s 9) 1024) 1024) 1024) 1024) 1) 16384) (cntV (smlS (cntS (cntS (cntS (cntS (cntS s 9) 1024) 1024) 1024) 1024) 1) 16384)) 16384) (cntV (smlS (cntS (smlS (cntS (cntS (cntS (cntS (cntS s 9) 1024) 1024) 1024) 1024) 1) 16384) (cntV (smlS (cntS (cntS (cntS (cntS (cntS s 9) 1024) 1024) 1024) 1024) 1) 16384)) 16384)) 2147483647).1 := cnt_back i10 h11
  have e11 : (cntS (widS (cntS (smlS (cntS (smlS (cntS (cntS (cntS (cntS (cntS s 9) 1024) 1024) 1024) 1024) 1) 16384) (cntV (smlS (cntS (cntS (cntS (cntS (cntS s 9) 1024) 1024) 1024) 1024) 1) 16384)) 16384) (cntV (smlS (cntS (smlS (cntS (cntS (cntS (cntS (cntS s 9) 1024) 1024) 1024) 1024) 1) 16384) (cntV (smlS (cntS (cntS (cntS (cntS (cntS s 9) 1024) 1024) 1024) 1024) 1) 16384)) 16384)) 2147483647).1 = putN (cntV (cntS (widS (cntS (smlS (cntS (smlS (cntS (cntS (cntS (cntS (cntS s 9) 1024) 1024) 1024) 1024) 1) 16384) (cntV (smlS (cntS (cntS (cntS (cntS (cntS s 9) 1024) 1024) 1024) 1024) 1) 16384)) 16384) (cntV (smlS (cntS (smlS (cntS (cntS (cntS (cntS (cntS s 9) 1024) 1024) 1024) 1024) 1) 16384) (cntV (smlS (cntS (cntS (cntS (cntS (cntS s 9) 1024) 1024) 1024) 1024) 1) 16384)) 16384)) 2147483647) 62) ++ (cntS (cntS (widS (cntS (smlS (cntS (smlS (cntS (cntS (cntS (cntS (cntS s 9) 1024) 1024) 1024) 1024) 1) 16384) (cntV (smlS (cntS (cntS (cntS (cntS (cntS s 9) 1024) 1024) 1024) 1024) 1) 16384)) 16384) (cntV (smlS (cntS (smlS (cntS (cntS (cntS (cntS (cntS s 9) 1024) 1024) 1024) 1024) 1) 16384) (cntV (smlS (cntS (cntS (cntS (cntS (cntS s 9) 1024) 1024) 1024) 1024) 1) 16384)) 16384)) 2147483647) 62).1 := cnt_back i11 h12
  have e12 : (cntS (cntS (widS (cntS (smlS (cntS (smlS (cntS (cntS (cntS (cntS (cntS s 9) 1024) 1024) 1024) 1024) 1) 16384) (cntV (smlS (cntS (cntS (cntS (cntS (cntS s 9) 1024) 1024) 1024) 1024) 1) 16384)) 16384) (cntV (smlS (cntS (smlS (cntS (cntS (cntS (cntS (cntS s 9) 1024) 1024) 1024) 1024) 1) 16384) (cntV (smlS (cntS (cntS (cntS (cntS (cntS s 9) 1024) 1024) 1024) 1024) 1) 16384)) 16384)) 2147483647) 62).1 = [IntKind.u8.wrap (oneV (cntS (cntS (widS (cntS (smlS (cntS (smlS (cntS (cntS (cntS (cntS (cntS s 9) 1024) 1024) 1024) 1024) 1) 16384) (cntV (smlS (cntS (cntS (cntS (cntS (cntS s 9) 1024) 1024) 1024) 1024) 1) 16384)) 16384) (cntV (smlS (cntS (smlS (cntS (cntS (cntS (cntS (cntS s 9) 1024) 1024) 1024) 1024) 1) 16384) (cntV (smlS (cntS (cntS (cntS (cntS (cntS s 9) 1024) 1024) 1024) 1024) 1) 16384)) 16384)) 2147483647) 62))] ++ (smlS (cntS (cntS (widS (cntS (smlS (cntS (smlS (cntS (cntS (cntS (cntS (cntS s 9) 1024) 1024) 1024) 1024) 1) 16384) (cntV (smlS (cntS (cntS (cntS (cntS (cntS s 9) 1024) 1024) 1024) 1024) 1) 16384)) 16384) (cntV (smlS (cntS (smlS (cntS (cntS (cntS (cntS (cntS s 9) 1024) 1024) 1024) 1024) 1) 16384) (cntV (smlS (cntS (cntS (cntS (cntS (cntS s 9) 1024) 1024) 1024) 1024) 1) 16384)) 16384)) 2147483647) 62) 1).1 := one_back i12 h13
  have e13 : (smlS (cntS (cntS (widS (cntS (smlS (cntS (smlS (cntS (cntS (cntS (cntS (cntS s 9) 1024) 1024) 1024) 1024) 1) 16384) (cntV (smlS (cntS (cntS (cntS (cntS (cntS s 9) 1024) 1024) 1024) 1024) 1) 16384)) 16384) (cntV (smlS (cntS (smlS (cntS (cntS (cntS (cntS (cntS s 9) 1024) 1024) 1024) 1024) 1) 16384) (cntV (smlS (cntS (cntS (cntS (cntS (cntS s 9) 1024) 1024) 1024) 1024) 1) 16384)) 16384)) 2147483647) 62) 1).1 = [IntKind.u8.wrap (oneV (smlS (cntS (cntS (widS (cntS (smlS (cntS (smlS (cntS (cntS (cntS (cntS (cntS s 9) 1024) 1024) 1024) 1024) 1) 16384) (cntV (smlS (cntS (cntS (cntS (cntS (cntS s 9) 1024) 1024) 1024) 1024) 1) 16384)) 16384) (cntV (smlS (cntS (smlS (cntS (cntS (cntS (cntS (cntS s 9) 1024) 1024) 1024) 1024) 1) 16384) (cntV (smlS (cntS (cntS (cntS (cntS (cntS s 9) 1024) 1024) 1024) 1024) 1) 16384)) 16384)) 2147483647) 62) 1))] ++ (smlS (smlS (cntS (cntS (widS (cntS (smlS (cntS (smlS (cntS (cntS (cntS (cntS (cntS s 9) 1024) 1024) 1024) 1024) 1) 16384) (cntV (smlS (cntS (cntS (cntS (cntS (cntS s 9) 1024) 1024) 1024) 1024) 1) 16384)) 16384) (cntV (smlS (cntS (smlS (cntS (cntS (cntS (cntS (cntS s 9) 1024) 1024) 1024) 1024) 1) 16384) (cntV (smlS (cntS (cntS (cntS (cntS (cntS s 9) 1024) 1024) 1024) 1024) 1) 16384)) 16384)) 2147483647) 62) 1) 1).1 := one_back i13 h14
  have e14 : (smlS (smlS (cntS (cntS (widS (cntS (smlS (cntS (smlS (cntS (cntS (cntS (cntS (cntS s 9) 1024) 1024) 1024) 1024) 1) 16384) (cntV (smlS (cntS (cntS (cntS (cntS (cntS s 9) 1024) 1024) 1024) 1024) 1) 16384)) 16384) (cntV (smlS (cntS (smlS (cntS (cntS (cntS (cntS (cntS s 9) 1024) 1024) 1024) 1024) 1) 16384) (cntV (smlS (cntS (cntS (cntS (cntS (cntS s 9) 1024) 1024) 1024) 1024) 1) 16384)) 16384)) 2147483647) 62) 1) 1).1 = [IntKind.u8.wrap (oneV (smlS (smlS (cntS (cntS (widS (cntS (smlS (cntS (smlS (cntS (cntS (cntS (cntS (cntS s 9) 1024) 1024) 1024) 1024) 1) 16384) (cntV (smlS (cntS (cntS (cntS (cntS (cntS s 9) 1024) 1024) 1024) 1024) 1) 16384)) 16384) (cntV (smlS (cntS (smlS (cntS (cntS (cntS (cntS (cntS s 9) 1024) 1024) 1024) 1024) 1) 16384) (cntV (smlS (cntS (cntS (cntS (cntS (cntS s 9) 1024) 1024) 1024) 1024) 1) 16384)) 16384)) 2147483647) 62) 1) 1))] ++ (smlS (smlS (smlS (cntS (cntS (widS (cntS (smlS (cntS (smlS (cntS (cntS (cntS (cntS (cntS s 9) 1024) 1024) 1024) 1024) 1) 16384) (cntV (smlS (cntS (cntS (cntS (cntS (cntS s 9) 1024) 1024) 1024) 1024) 1) 16384)) 16384) (cntV (smlS (cntS (smlS (cntS (cntS (cntS (cntS (cntS s 9) 1024) 1024) 1024) 1024) 1) 16384) (cntV (smlS (cntS (cntS (cntS (cntS (cntS s 9) 1024) 1024) 1024) 1024) 1) 16384)) 16384)) 2147483647) 62) 1) 1) 1).1 := one_back i14 h15
  show s.1 = (putN (cntV s 9) ++ putN (cntV (cntS s 9) 1024) ++ putN (cntV (cntS (cntS s 9) 1024) 1024) ++ putN (cntV (cntS (cntS (cntS s 9) 1024) 1024) 1024) ++ putN (cntV (cntS (cntS (cntS (cntS s 9) 1024) 1024) 1024) 1024) ++ [IntKind.u8.wrap (oneV (cntS (cntS (cntS (cntS (cntS s 9) 1024) 1024) 1024) 1024))] ++ putN (((smlV (cntS (smlS (cntS (cntS (cntS (cntS (cntS s 9) 1024) 1024) 1024) 1024) 1) 16384) (cntV (smlS (cntS (cntS (cntS (cntS (cntS s 9) 1024) 1024) 1024) 1024) 1) 16384)).length : Nat) : Int) ++ smallL (smlV (cntS (smlS (cntS (cntS (cntS (cntS (cntS s 9) 1024) 1024) 1024) 1024) 1) 16384) (cntV (smlS (cntS (cntS (cntS (cntS (cntS s 9) 1024) 1024) 1024) 1024) 1) 16384)) ++ putN (((widV (cntS (smlS (cntS (smlS (cntS (cntS (cntS (cntS (cntS s 9) 1024) 1024) 1024) 1024) 1) 16384) (cntV (smlS (cntS (cntS (cntS (cntS (cntS s 9) 1024) 1024) 1024) 1024) 1) 16384)) 16384) (cntV (smlS (cntS (smlS (cntS (cntS (cntS (cntS (cntS s 9) 1024) 1024) 1024) 1024) 1) 16384) (cntV (smlS (cntS (cntS (cntS (cntS (cntS s 9) 1024) 1024) 1024) 1024) 1) 16384)) 16384)).length : Nat) : Int) ++ wideL (widV (cntS (smlS (cntS (smlS (cntS (cntS (cntS (cntS (cntS s 9) 1024) 1024) 1024) 1024) 1) 16384) (cntV (smlS (cntS (cntS (cntS (cntS (cntS s 9) 1024) 1024) 1024) 1024) 1) 16384)) 16384) (cntV (smlS (cntS (smlS (cntS (cntS (cntS (cntS (cntS s 9) 1024) 1024) 1024) 1024) 1) 16384) (cntV (smlS (cntS (cntS (cntS (cntS (cntS s 9) 1024) 1024) 1024) 1024) 1) 16384)) 16384)) ++ putN (cntV (widS (cntS (smlS (cntS (smlS (cntS (cntS (cntS (cntS (cntS s 9) 1024) 1024) 1024) 1024) 1) 16384) (cntV (smlS (cntS (cntS (cntS (cntS (cntS s 9) 1024) 1024) 1024) 1024) 1) 16384)) 16384) (cntV (smlS (cntS (smlS (cntS (cntS (cntS (cntS (cntS s 9) 1024) 1024) 1024) 1024) 1) 16384) (cntV (smlS (cntS (cntS (cntS (cntS (cntS s 9) 1024) 1024) 1024) 1024) 1) 16384)) 16384)) 2147483647) ++ putN (cntV (cntS (widS (cntS (smlS (cntS (smlS (cntS (cntS (cntS (cntS (cntS s 9) 1024) 1024) 1024) 1024) 1) 16384) (cntV (smlS (cntS (cntS (cntS (cntS (cntS s 9) 1024) 1024) 1024) 1024) 1) 16384)) 16384) (cntV (smlS (cntS (smlS (cntS (cntS (cntS (cntS (cntS s 9) 1024) 1024) 1024) 1024) 1) 16384) (cntV (smlS (cntS (cntS (cntS (cntS (cntS s 9) 1024) 1024) 1024) 1024) 1) 16384)) 16384)) 2147483647) 62) ++ [IntKind.u8.wrap (oneV (cntS (cntS (widS (cntS (smlS (cntS (smlS (cntS (cntS (cntS (cntS (cntS s 9) 1024) 1024) 1024) 1024) 1) 16384) (cntV (smlS (cntS (cntS (cntS (cntS (cntS s 9) 1024) 1024) 1024) 1024) 1) 16384)) 16384) (cntV (smlS (cntS (smlS (cntS (cntS (cntS (cntS (cntS s 9) 1024) 1024) 1024) 1024) 1) 16384) (cntV (smlS (cntS (cntS (cntS (cntS (cntS s 9) 1024) 1024) 1024) 1024) 1) 16384)) 16384)) 2147483647) 62))] ++ [IntKind.u8.wrap (oneV (smlS (cntS (cntS (widS (cntS (smlS (cntS (smlS (cntS (cntS (cntS (cntS (cntS s 9) 1024) 1024) 1024) 1024) 1) 16384) (cntV (smlS (cntS (cntS (cntS (cntS (cntS s 9) 1024) 1024) 1024) 1024) 1) 16384)) 16384) (cntV (smlS (cntS (smlS (cntS (cntS (cntS (cntS (cntS s 9) 1024) 1024) 1024) 1024) 1) 16384) (cntV (smlS (cntS (cntS (cntS (cntS (cntS s 9) 1024) 1024) 1024) 1024) 1) 16384)) 16384)) 2147483647) 62) 1))] ++ [IntKind.u8.wrap (oneV (smlS (smlS (cntS (cntS (widS (cntS (smlS (cntS (smlS (cntS (cntS (cntS (cntS (cntS s 9) 1024) 1024) 1024) 1024) 1) 16384) (cntV (smlS (cntS (cntS (cntS (cntS (cntS s 9) 1024) 1024) 1024) 1024) 1) 16384)) 16384) (cntV (smlS (cntS (smlS (cntS (cntS (cntS (cntS (cntS s 9) 1024) 1024) 1024) 1024) 1) 16384) (cntV (smlS (cntS (cntS (cntS (cntS (cntS s 9) 1024) 1024) 1024) 1024) 1) 16384)) 16384)) 2147483647) 62) 1) 1))]) ++ (smlS (smlS (smlS (cntS (cntS (widS (cntS (smlS (cntS (smlS (cntS (cntS (cntS (cntS (cntS s 9) 1024) 1024) 1024) 1024) 1) 16384) (cntV (smlS (cntS (cntS (cntS (cntS (cntS s 9) 1024) 1024) 1024) 1024) 1) 16384)) 16384) (cntV (smlS (cntS (smlS (cntS (cntS (cntS (cntS (cntS s 9) 1024) 1024) 1024) 1024) 1) 16384) (cntV (smlS (cntS (cntS (cntS (cntS (cntS s 9) 1024) 1024) 1024) 1024) 1) 16384)) 16384)) 2147483647) 62) 1) 1) 1).1
  simp only [List.append_assoc]
  exact e0.trans (congrArg (putN (cntV s 9) ++ ·) (e1.trans (congrArg (putN (cntV (cntS s 9) 1024) ++ ·) (e2.trans (congrArg (putN (cntV (cntS (cntS s 9) 1024) 1024) ++ ·) (e3.trans (congrArg (putN (cntV (cntS (cntS (cntS s 9) 1024) 1024) 1024) ++ ·) (e4.trans (congrArg (putN (cntV (cntS (cntS (cntS (cntS s 9) 1024) 1024) 1024) 1024) ++ ·) (e5.trans (congrArg ([IntKind.u8.wrap (oneV (cntS (cntS (cntS (cntS (cntS s 9) 1024) 1024) 1024) 1024))] ++ ·) (e6.trans (congrArg (putN (((smlV (cntS (smlS (cntS (cntS (cntS (cntS (cntS s 9) 1024) 1024) 1024) 1024) 1) 16384) (cntV (smlS (cntS (cntS (cntS (cntS (cntS s 9) 1024) 1024) 1024) 1024) 1) 16384)).length : Nat) : Int) ++ ·) (e7.trans (congrArg (smallL (smlV (cntS (smlS (cntS (cntS (cntS (cntS (cntS s 9) 1024) 1024) 1024) 1024) 1) 16384) (cntV (smlS (cntS (cntS (cntS (cntS (cntS s 9) 1024) 1024) 1024) 1024) 1) 16384)) ++ ·) (e8.trans (congrArg (putN (((widV (cntS (smlS (cntS (smlS (cntS (cntS (cntS (cntS (cntS s 9) 1024) 1024) 1024) 1024) 1) 16384) (cntV (smlS (cntS (cntS (cntS (cntS (cntS s 9) 1024) 1024) 1024) 1024) 1) 16384)) 16384) (cntV (smlS (cntS (smlS (cntS (cntS (cntS (cntS (cntS s 9) 1024) 1024) 1024) 1024) 1) 16384) (cntV (smlS (cntS (cntS (cntS (cntS (cntS s 9) 1024) 1024) 1024) 1024) 1) 16384)) 16384)).length : Nat) : Int) ++ ·) (e9.trans (congrArg (wideL (widV (cntS (smlS (cntS (smlS (cntS (cntS (cntS (cntS (cntS s 9) 1024) 1024) 1024) 1024) 1) 16384) (cntV (smlS (cntS (cntS (cntS (cntS (cntS s 9) 1024) 1024) 1024) 1024) 1) 16384)) 16384) (cntV (smlS (cntS (smlS (cntS (cntS (cntS (cntS (cntS s 9) 1024) 1024) 1024) 1024) 1) 16384) (cntV (smlS (cntS (cntS (cntS (cntS (cntS s 9) 1024) 1024) 1024) 1024) 1) 16384)) 16384)) ++ ·) (e10.trans (congrArg (putN (cntV (widS (cntS (smlS (cntS (smlS (cntS (cntS (cntS (cntS (cntS s 9) 1024) 1024) 1024) 1024) 1) 16384) (cntV (smlS (cntS (cntS (cntS (cntS (cntS s 9) 1024) 1024) 1024) 1024) 1) 16384)) 16384) (cntV (smlS (cntS (smlS (cntS (cntS (cntS (cntS (cntS s 9) 1024) 1024) 1024) 1024) 1) 16384) (cntV (smlS (cntS (cntS (cntS (cntS (cntS s 9) 1024) 1024) 1024) 1024) 1) 16384)) 16384)) 2147483647) ++ ·) (e11.trans (congrArg (putN (cntV (cntS (widS (cntS (smlS (cntS (smlS (cntS (cntS (cntS (cntS (cntS s 9) 1024) 1024) 1024) 1024) 1) 16384) (cntV (smlS (cntS (cntS (cntS (cntS (cntS s 9) 1024) 1024) 1024) 1024) 1) 16384)) 16384) (cntV (smlS (cntS (smlS (cntS (cntS (cntS (cntS (cntS s 9) 1024) 1024) 1024) 1024) 1) 16384) (cntV (smlS (cntS (cntS (cntS (cntS (cntS s 9) 1024) 1024) 1024) 1024) 1) 16384)) 16384)) 2147483647) 62) ++ ·) (e12.trans (congrArg ([IntKind.u8.wrap (oneV (cntS (cntS (widS (cntS (smlS (cntS (smlS (cntS (cntS (cntS (cntS (cntS s 9) 1024) 1024) 1024) 1024) 1) 16384) (cntV (smlS (cntS (cntS (cntS (cntS (cntS s 9) 1024) 1024) 1024) 1024) 1) 16384)) 16384) (cntV (smlS (cntS (smlS (cntS (cntS (cntS (cntS (cntS s 9) 1024) 1024) 1024) 1024) 1) 16384) (cntV (smlS (cntS (cntS (cntS (cntS (cntS s 9) 1024) 1024) 1024) 1024) 1) 16384)) 16384)) 2147483647) 62))] ++ ·) (e13.trans (congrArg ([IntKind.u8.wrap (oneV (smlS (cntS (cntS (widS (cntS (smlS (cntS (smlS (cntS (cntS (cntS (cntS (cntS s 9) 1024) 1024) 1024) 1024) 1) 16384) (cntV (smlS (cntS (cntS (cntS (cntS (cntS s 9) 1024) 1024) 1024) 1024) 1) 16384)) 16384) (cntV (smlS (cntS (smlS (cntS (cntS (cntS (cntS (cntS s 9) 1024) 1024) 1024) 1024) 1) 16384) (cntV (smlS (cntS (cntS (cntS (cntS (cntS s 9) 1024) 1024) 1024) 1024) 1) 16384)) 16384)) 2147483647) 62) 1))] ++ ·) (e14))))))))))))))))))))))))))))
theorem there_3 (n : Nod) (h : NTh n) (hk : n.kd = 3) (b : List Int) : ts_3 (lb_3 putN n ++ b, 0) = (b, 0) ∧ tn_3 (lb_3 putN n ++ b, 0) nod0 = ⟨n.kd, n.na, 0, 0, 0, 0, n.no, n.za, 0, n.w, n.b, n.qm, n.qs, n.qz, 0, 0, 0, n.lo, n.hi⟩ := by
  have a0 := cntS_there h.kd (by decide)
  have b0 := cntV_there h.kd (by decide)
  have a1 := cntS_there h.na (by decide)
  have b1 := cntV_there h.na (by decide)
  have a2 := cntS_there h.no (by decide)
  have b2 := cntV_there h.no (by decide)
  have a3 := oneS_there h.okn.za
  have b3 := oneV_there h.okn.za
  have l := lst_there h.wl h.bl h.okn.w h.okn.b
  have l1 := fun b => (l b).1
  have l2 := fun b => (l b).2.1
  have l3 := fun b => (l b).2.2
  have sq := scl_there (h.q (by simp [scaledB, hk])).1 (h.q (by simp [scaledB, hk])).2
  have sq1 := fun b => (sq b).1
  have sq2 := fun b => (sq b).2.1
  have sq3 := fun b => (sq b).2.2
  have a7 := oneS_there h.okn.qz
  have b7 := oneV_there h.okn.qz
  have a8 := oneS_there h.okn.lo
  have b8 := oneV_there h.okn.lo
  have a9 := oneS_there h.okn.hi
  have b9 := oneV_there h.okn.hi
  unfold ts_3 tn_3 lb_3
  simp only [List.append_assoc, a0, b0, a1, b1, a2, b2, a3, b3, l1, l2, l3, sq1, sq2, sq3, a7, b7, a8, b8, a9, b9, nod0, and_self]
theorem back_3 (s : Rst) (h : s.In) (hs : (ts_3 s).2 = 0) : s.1 = lb_3 putN (tn_3 s nod0) ++ (ts_3 s).1 := by
  have i0 := h
  have i1 : (cntS s 9).In := cnt_in i0 _
  have i2 : (cntS (cntS s 9) 1024).In := cnt_in i1 _
  have i3 : (cntS (cntS (cntS s 9) 1024) 1024).In := cnt_in i2 _
  have i4 : (smlS (cntS (cntS (cntS s 9) 1024) 1024) 1).In := sml_in i3 _
  have i5 : (cntS (smlS (cntS (cntS (cntS s 9) 1024) 1024) 1) 16384).In := cnt_in i4 _
  have i6 : (smlS (cntS (smlS (cntS (cntS (cntS s 9) 1024) 1024) 1) 16384) (cntV (smlS (cntS (cntS (cntS s 9) 1024) 1024) 1) 16384)).In := sml_in i5 _
  have i7 : (cntS (smlS (cntS (smlS (cntS (cntS (cntS s 9) 1024) 1024) 1) 16384) (cntV (smlS (cntS (cntS (cntS s 9) 1024) 1024) 1) 16384)) 16384).In := cnt_in i6 _
  have i8 : (widS (cntS (smlS (cntS (smlS (cntS (cntS (cntS s 9) 1024) 1024) 1) 16384) (cntV (smlS (cntS (cntS (cntS s 9) 1024) 1024) 1) 16384)) 16384) (cntV (smlS (cntS (smlS (cntS (cntS (cntS s 9) 1024) 1024) 1) 16384) (cntV (smlS (cntS (cntS (cntS s 9) 1024) 1024) 1) 16384)) 16384)).In := wid_in i7 _
  have i9 : (cntS (widS (cntS (smlS (cntS (smlS (cntS (cntS (cntS s 9) 1024) 1024) 1) 16384) (cntV (smlS (cntS (cntS (cntS s 9) 1024) 1024) 1) 16384)) 16384) (cntV (smlS (cntS (smlS (cntS (cntS (cntS s 9) 1024) 1024) 1) 16384) (cntV (smlS (cntS (cntS (cntS s 9) 1024) 1024) 1) 16384)) 16384)) 2147483647).In := cnt_in i8 _
  have i10 : (cntS (cntS (widS (cntS (smlS (cntS (smlS (cntS (cntS (cntS s 9) 1024) 1024) 1) 16384) (cntV (smlS (cntS (cntS (cntS s 9) 1024) 1024) 1) 16384)) 16384) (cntV (smlS (cntS (smlS (cntS (cntS (cntS s 9) 1024) 1024) 1) 16384) (cntV (smlS (cntS (cntS (cntS s 9) 1024) 1024) 1) 16384)) 16384)) 2147483647) 62).In := cnt_in i9 _
  have i11 : (smlS (cntS (cntS (widS (cntS (smlS (cntS (smlS (cntS (cntS (cntS s 9) 1024) 1024) 1) 16384) (cntV (smlS (cntS (cntS (cntS s 9) 1024) 1024) 1) 16384)) 16384) (cntV (smlS (cntS (smlS (cntS (cntS (cntS s 9) 1024) 1024) 1) 16384) (cntV (smlS (cntS (cntS (cntS s 9) 1024) 1024) 1) 16384)) 16384)) 2147483647) 62) 1).In := sml_in i10 _
  have i12 : (smlS (smlS (cntS (cntS (widS (cntS (smlS (cntS (smlS (cntS (cntS (cntS s 9) 1024) 1024) 1) 16384) (cntV (smlS (cntS (cntS (cntS s 9) 1024) 1024) 1) 16384)) 16384) (cntV (smlS (cntS (smlS (cntS (cntS (cntS s 9) 1024) 1024) 1) 16384) (cntV (smlS (cntS (cntS (cntS s 9) 1024) 1024) 1) 16384)) 16384)) 2147483647) 62) 1) 1).In := sml_in i11 _
  have h13 : (smlS (smlS (smlS (cntS (cntS (widS (cntS (smlS (cntS (smlS (cntS (cntS (cntS s 9) 1024) 1024) 1) 16384) (cntV (smlS (cntS (cntS (cntS s 9) 1024) 1024) 1) 16384)) 16384) (cntV (smlS (cntS (smlS (cntS (cntS (cntS s 9) 1024) 1024) 1) 16384) (cntV (smlS (cntS (cntS (cntS s 9) 1024) 1024) 1) 16384)) 16384)) 2147483647) 62) 1) 1) 1).2 = 0 := hs
  have h12 : (smlS (smlS (cntS (cntS (widS (cntS (smlS (cntS (smlS (cntS (cntS (cntS s 9) 1024) 1024) 1) 16384) (cntV (smlS (cntS (cntS (cntS s 9) 1024) 1024) 1) 16384)) 16384) (cntV (smlS (cntS (smlS (cntS (cntS (cntS s 9) 1024) 1024) 1) 16384) (cntV (smlS (cntS (cntS (cntS s 9) 1024) 1024) 1) 16384)) 16384)) 2147483647) 62) 1) 1).2 = 0 := sml_ok h13
  have h11 : (smlS (cntS (cntS (widS (cntS (smlS (cntS (smlS (cntS (cntS (cntS s 9) 1024) 1024) 1) 16384) (cntV (smlS (cntS (cntS (cntS s 9) 1024) 1024) 1) 16384)) 16384) (cntV (smlS (cntS (smlS (cntS (cntS (cntS s 9) 1024) 1024) 1) 16384) (cntV (smlS (cntS (cntS (cntS s 9) 1024) 1024) 1) 16384)) 16384)) 2147483647) 62) 1).2 = 0 := sml_ok h12
  have h10 : (cntS (cntS (widS (cntS (smlS (cntS (smlS (cntS (cntS (cntS s 9) 1024) 1024) 1) 16384) (cntV (smlS (cntS (cntS (cntS s 9) 1024) 1024) 1) 16384)) 16384) (cntV (smlS (cntS (smlS (cntS (cntS (cntS s 9) 1024) 1024) 1) 16384) (cntV (smlS (cntS (cntS (cntS s 9) 1024) 1024) 1) 16384)) 16384)) 2147483647) 62).2 = 0 := sml_ok h11
  have h9 : (cntS (widS (cntS (smlS (cntS (smlS (cntS (cntS (cntS s 9) 1024) 1024) 1) 16384) (cntV (smlS (cntS (cntS (cntS s 9) 1024) 1024) 1) 16384)) 16384) (cntV (smlS (cntS (smlS (cntS (cntS (cntS s 9) 1024) 1024) 1) 16384) (cntV (smlS (cntS (cntS (cntS s 9) 1024) 1024) 1) 16384)) 16384)) 2147483647).2 = 0 := cnt_ok h10
  have h8 : (widS (cntS (smlS (cntS (smlS (cntS (cntS (cntS s 9) 1024) 1024) 1) 16384) (cntV (smlS (cntS (cntS (cntS s 9) 1024) 1024) 1) 16384)) 16384) (cntV (smlS (cntS (smlS (cntS (cntS (cntS s 9) 1024) 1024) 1) 16384) (cntV (smlS (cntS (cntS (cntS s 9) 1024) 1024) 1) 16384)) 16384)).2 = 0 := cnt_ok h9
  have h7 : (cntS (smlS (cntS (smlS (cntS (cntS (cntS s 9) 1024) 1024) 1) 16384) (cntV (smlS (cntS (cntS (cntS s 9) 1024) 1024) 1) 16384)) 16384).2 = 0 := wid_ok h8
  have h6 : (smlS (cntS (smlS (cntS (cntS (cntS s 9) 1024) 1024) 1) 16384) (cntV (smlS (cntS (cntS (cntS s 9) 1024) 1024) 1) 16384)).2 = 0 := cnt_ok h7
  have h5 : (cntS (smlS (cntS (cntS (cntS s 9) 1024) 1024) 1) 16384).2 = 0 := sml_ok h6
  have h4 : (smlS (cntS (cntS (cntS s 9) 1024) 1024) 1).2 = 0 := cnt_ok h5
  have h3 : (cntS (cntS (cntS s 9) 1024) 1024).2 = 0 := sml_ok h4
  have h2 : (cntS (cntS s 9) 1024).2 = 0 := cnt_ok h3
  have h1 : (cntS s 9).2 = 0 := cnt_ok h2
  have e0 : s.1 = putN (cntV s 9) ++ (cntS s 9).1 := cnt_back i0 h1
  have e1 : (cntS s 9).1 = putN (cntV (cntS s 9) 1024) ++ (cntS (cntS s 9) 1024).1 := cnt_back i1 h2
  have e2 : (cntS (cntS s 9) 1024).1 = putN (cntV (cntS (cntS s 9) 1024) 1024) ++ (cntS (cntS (cntS s 9) 1024) 1024).1 := cnt_back i2 h3
  have e3 : (cntS (cntS (cntS s 9) 1024) 1024).1 = [IntKind.u8.wrap (oneV (cntS (cntS (cntS s 9) 1024) 1024))] ++ (smlS (cntS (cntS (cntS s 9) 1024) 1024) 1).1 := one_back i3 h4
  have c4 := (sml_back i5 h6 (cntV_rng (m := 16384) i4 (by decide)).1).2
  have e4 : (smlS (cntS (cntS (cntS s 9) 1024) 1024) 1).1 = putN (((smlV (cntS (smlS (cntS (cntS (cntS s 9) 1024) 1024) 1) 16384) (cntV (smlS (cntS (cntS (cntS s 9) 1024) 1024) 1) 16384)).length : Nat) : Int) ++ (cntS (smlS (cntS (cntS (cntS s 9) 1024) 1024) 1) 16384).1 := by rw [c4]; exact cnt_back i4 h5
  have e5 : (cntS (smlS (cntS (cntS (cntS s 9) 1024) 1024) 1) 16384).1 = smallL (smlV (cntS (smlS (cntS (cntS (cntS s 9) 1024) 1024) 1) 16384) (cntV (smlS (cntS (cntS (cntS s 9) 1024) 1024) 1) 16384)) ++ (smlS (cntS (smlS (cntS (cntS (cntS s 9) 1024) 1024) 1) 16384) (cntV (smlS (cntS (cntS (cntS s 9) 1024) 1024) 1) 16384)).1 := (sml_back i5 h6 (cntV_rng (m := 16384) i4 (by decide)).1).1
  have c6 := (wid_back i7 h8 (cntV_rng (m := 16384) i6 (by decide)).1).2
  have e6 : (smlS (cntS (smlS (cntS (cntS (cntS s 9) 1024) 1024) 1) 16384) (cntV (smlS (cntS (cntS (cntS s 9) 1024) 1024) 1) 16384)).1 = putN (((widV (cntS (smlS (cntS (smlS (cntS (cntS (cntS s 9) 1024) 1024) 1) 16384) (cntV (smlS (cntS (cntS (cntS s 9) 1024) 1024) 1) 16384)) 16384) (cntV (smlS (cntS (smlS (cntS (cntS (cntS s 9) 1024) 1024) 1) 16384) (cntV (smlS (cntS (cntS (cntS s 9) 1024) 1024) 1) 16384)) 16384)).length : Nat) : Int) ++ (cntS (smlS (cntS (smlS (cntS (cntS (cntS s 9) 1024) 1024) 1) 16384) (cntV (smlS (cntS (cntS (cntS s 9) 1024) 1024) 1) 16384)) 16384).1 := by rw [c6]; exact cnt_back i6 h7
  have e7 : (cntS (smlS (cntS (smlS (cntS (cntS (cntS s 9) 1024) 1024) 1) 16384) (cntV (smlS (cntS (cntS (cntS s 9) 1024) 1024) 1) 16384)) 16384).1 = wideL (widV (cntS (smlS (cntS (smlS (cntS (cntS (cntS s 9) 1024) 1024) 1) 16384) (cntV (smlS (cntS (cntS (cntS s 9) 1024) 1024) 1) 16384)) 16384) (cntV (smlS (cntS (smlS (cntS (cntS (cntS s 9) 1024) 1024) 1) 16384) (cntV (smlS (cntS (cntS (cntS s 9) 1024) 1024) 1) 16384)) 16384)) ++ (widS (cntS (smlS (cntS (smlS (cntS (cntS (cntS s 9) 1024) 1024) 1) 16384) (cntV (smlS (cntS (cntS (cntS s 9) 1024) 1024) 1) 16384)) 16384) (cntV (smlS (cntS (smlS (cntS (cntS (cntS s 9) 1024) 1024) 1) 16384) (cntV (smlS (cntS (cntS (cntS s 9) 1024) 1024) 1) 16384)) 16384)).1 := (wid_back i7 h8 (cntV_rng (m := 16384) i6 (by decide)).1).1
  have e8 : (widS (cntS (smlS (cntS (smlS (cntS (cntS (cntS s 9) 1024) 1024) 1) 16384) (cntV (smlS (cntS (cntS (cntS s 9) 1024) 1024) 1) 16384)) 16384) (cntV (smlS (cntS (smlS (cntS (cntS (cntS s 9) 1024) 1024) 1) 16384) (cntV (smlS (cntS (cntS (cntS s 9) 1024) 1024) 1) 16384)) 16384)).1 = putN (cntV (widS (cntS (smlS (cntS (smlS (cntS (cntS (cntS s 9) 1024) 1024) 1) 16384) (cntV (smlS (cntS (cntS (cntS s 9) 1024) 1024) 1) 16384)) 16384) (cntV (smlS (cntS (smlS (cntS (cntS (cntS s 9) 1024) 1024) 1) 16384) (cntV (smlS (cntS (cntS (cntS s 9) 1024) 1024) 1) 16384)) 16384)) 2147483647) ++ (cntS (widS (cntS (smlS (cntS (smlS (cntS (cntS (cntS s 9) 1024) 1024) 1) 16384) (cntV (smlS (cntS (cntS (cntS s 9) 1024) 1024) 1) 16384)) 16384) (cntV (smlS (cntS (smlS (cntS (cntS (cntS s 9) 1024) 1024) 1) 16384) (cntV (smlS (cntS (cntS (cntS s 9) 1024) 1024) 1) 16384)) 16384)) 2147483647).1 := cnt_back i8 h9
  have e9 : (cntS (widS (cntS (smlS (cntS (smlS (cntS (cntS (cntS s 9) 1024) 1024) 1) 16384) (cntV (smlS (cntS (cntS (cntS s 9) 1024) 1024) 1) 16384)) 16384) (cntV (smlS (cntS (smlS (cntS (cntS (cntS s 9) 1024) 1024) 1) 16384) (cntV (smlS (cntS (cntS (cntS s 9) 1024) 1024) 1) 16384)) 16384)) 2147483647).1 = putN (cntV (cntS (widS (cntS (smlS (cntS (smlS (cntS (cntS (cntS s 9) 1024) 1024) 1) 16384) (cntV (smlS (cntS (cntS (cntS s 9) 1024) 1024) 1) 16384)) 16384) (cntV (smlS (cntS (smlS (cntS (cntS (cntS s 9) 1024) 1024) 1) 16384) (cntV (smlS (cntS (cntS (cntS s 9) 1024) 1024) 1) 16384)) 16384)) 2147483647) 62) ++ (cntS (cntS (widS (cntS (smlS (cntS (smlS (cntS (cntS (cntS s 9) 1024) 1024) 1) 16384) (cntV (smlS (cntS (cntS (cntS s 9) 1024) 1024) 1) 16384)) 16384) (cntV (smlS (cntS (smlS (cntS (cntS (cntS s 9) 1024) 1024) 1) 16384) (cntV (smlS (cntS (cntS (cntS s 9) 1024) 1024) 1) 16384)) 16384)) 2147483647) 62).1 := cnt_back i9 h10
  have e10 : (cntS (cntS (widS (cntS (smlS (cntS (smlS (cntS (cntS (cntS s 9) 1024) 1024) 1) 16384) (cntV (smlS (cntS (cntS (cntS s 9) 1024) 1024) 1) 16384)) 16384) (cntV (smlS (cntS (smlS (cntS (cntS (cntS s 9) 1024) 1024) 1) 16384) (cntV (smlS (cntS (cntS (cntS s 9) 1024) 1024) 1) 16384)) 16384)) 2147483647) 62).1 = [IntKind.u8.wrap (oneV (cntS (cntS (widS (cntS (smlS (cntS (smlS (cntS (cntS (cntS s 9) 1024) 1024) 1) 16384) (cntV (smlS (cntS (cntS (cntS s 9) 1024) 1024) 1) 16384)) 16384) (cntV (smlS (cntS (smlS (cntS (cntS (cntS s 9) 1024) 1024) 1) 16384) (cntV (smlS (cntS (cntS (cntS s 9) 1024) 1024) 1) 16384)) 16384)) 2147483647) 62))] ++ (smlS (cntS (cntS (widS (cntS (smlS (cntS (smlS (cntS (cntS (cntS s 9) 1024) 1024) 1) 16384) (cntV (smlS (cntS (cntS (cntS s 9) 1024) 1024) 1) 16384)) 16384) (cntV (smlS (cntS (smlS (cntS (cntS (cntS s 9) 1024) 1024) 1) 16384) (cntV (smlS (cntS (cntS (cntS s 9) 1024) 1024) 1) 16384)) 16384)) 2147483647) 62) 1).1 := one_back i10 h11
  have e11 : (smlS (cntS (cntS (widS (cntS (smlS (cntS (smlS (cntS (cntS (cntS s 9) 1024) 1024) 1) 16384) (cntV (smlS (cntS (cntS (cntS s 9) 1024) 1024) 1) 16384)) 16384) (cntV (smlS (cntS (smlS (cntS (cntS (cntS s 9) 1024) 1024) 1) 16384) (cntV (smlS (cntS (cntS (cntS s 9) 1024) 1024) 1) 16384)) 16384)) 2147483647) 62) 1).1 = [IntKind.u8.wrap (oneV (smlS (cntS (cntS (widS (cntS (smlS (cntS (smlS (cntS (cntS (cntS s 9) 1024) 1024) 1) 16384) (cntV (smlS (cntS (cntS (cntS s 9) 1024) 1024) 1) 16384)) 16384) (cntV (smlS (cntS (smlS (cntS (cntS (cntS s 9) 1024) 1024) 1) 16384) (cntV (smlS (cntS (cntS (cntS s 9) 1024) 1024) 1) 16384)) 16384)) 2147483647) 62) 1))] ++ (smlS (smlS (cntS (cntS (widS (cntS (smlS (cntS (smlS (cntS (cntS (cntS s 9) 1024) 1024) 1) 16384) (cntV (smlS (cntS (cntS (cntS s 9) 1024) 1024) 1) 16384)) 16384) (cntV (smlS (cntS (smlS (cntS (cntS (cntS s 9) 1024) 1024) 1) 16384) (cntV (smlS (cntS (cntS (cntS s 9) 1024) 1024) 1) 16384)) 16384)) 2147483647) 62) 1) 1).1 := one_back i11 h12
  have e12 : (smlS (smlS (cntS (cntS (widS (cntS (smlS (cntS (smlS (cntS (cntS (cntS s 9) 1024) 1024) 1) 16384) (cntV (smlS (cntS (cntS (cntS s 9) 1024) 1024) 1) 16384)) 16384) (cntV (smlS (cntS (smlS (cntS (cntS (cntS s 9) 1024) 1024) 1) 16384) (cntV (smlS (cntS (cntS (cntS s 9) 1024) 1024) 1) 16384)) 16384)) 2147483647) 62) 1) 1).1 = [IntKind.u8.wrap (oneV (smlS (smlS (cntS (cntS (widS (cntS (smlS (cntS (smlS (cntS (cntS (cntS s 9) 1024) 1024) 1) 16384) (cntV (smlS (cntS (cntS (cntS s 9) 1024) 1024) 1) 16384)) 16384) (cntV (smlS (cntS (smlS (cntS (cntS (cntS s 9) 1024) 1024) 1) 16384) (cntV (smlS (cntS (cntS (cntS s 9) 1024) 1024) 1) 16384)) 16384)) 2147483647) 62) 1) 1))] ++ (smlS (smlS (smlS (cntS (cntS (widS (cntS (smlS (cntS (smlS (cntS (cntS (cntS s 9) 1024) 1024) 1) 16384) (cntV (smlS (cntS (cntS (cntS s 9) 1024) 1024) 1) 16384)) 16384) (cntV (smlS (cntS (smlS (cntS (cntS (cntS s 9) 1024) 1024) 1) 16384) (cntV (smlS (cntS (cntS (cntS s 9) 1024) 1024) 1) 16384)) 16384)) 2147483647) 62) 1) 1) 1).1 := one_back i12 h13
  show s.1 = (putN (cntV s 9) ++ putN (cntV (cntS s 9) 1024) ++ putN (cntV (cntS (cntS s 9) 1024) 1024) ++ [IntKind.u8.wrap (oneV (cntS (cntS (cntS s 9) 1024) 1024))] ++ putN (((smlV (cntS (smlS (cntS (cntS (cntS s 9) 1024) 1024) 1) 16384) (cntV (smlS (cntS (cntS (cntS s 9) 1024) 1024) 1) 16384)).length : Nat) : Int) ++ smallL (smlV (cntS (smlS (cntS (cntS (cntS s 9) 1024) 1024) 1) 16384) (cntV (smlS (cntS (cntS (cntS s 9) 1024) 1024) 1) 16384)) ++ putN (((widV (cntS (smlS (cntS (smlS (cntS (cntS (cntS s 9) 1024) 1024) 1) 16384) (cntV (smlS (cntS (cntS (cntS s 9) 1024) 1024) 1) 16384)) 16384) (cntV (smlS (cntS (smlS (cntS (cntS (cntS s 9) 1024) 1024) 1) 16384) (cntV (smlS (cntS (cntS (cntS s 9) 1024) 1024) 1) 16384)) 16384)).length : Nat) : Int) ++ wideL (widV (cntS (smlS (cntS (smlS (cntS (cntS (cntS s 9) 1024) 1024) 1) 16384) (cntV (smlS (cntS (cntS (cntS s 9) 1024) 1024) 1) 16384)) 16384) (cntV (smlS (cntS (smlS (cntS (cntS (cntS s 9) 1024) 1024) 1) 16384) (cntV (smlS (cntS (cntS (cntS s 9) 1024) 1024) 1) 16384)) 16384)) ++ putN (cntV (widS (cntS (smlS (cntS (smlS (cntS (cntS (cntS s 9) 1024) 1024) 1) 16384) (cntV (smlS (cntS (cntS (cntS s 9) 1024) 1024) 1) 16384)) 16384) (cntV (smlS (cntS (smlS (cntS (cntS (cntS s 9) 1024) 1024) 1) 16384) (cntV (smlS (cntS (cntS (cntS s 9) 1024) 1024) 1) 16384)) 16384)) 2147483647) ++ putN (cntV (cntS (widS (cntS (smlS (cntS (smlS (cntS (cntS (cntS s 9) 1024) 1024) 1) 16384) (cntV (smlS (cntS (cntS (cntS s 9) 1024) 1024) 1) 16384)) 16384) (cntV (smlS (cntS (smlS (cntS (cntS (cntS s 9) 1024) 1024) 1) 16384) (cntV (smlS (cntS (cntS (cntS s 9) 1024) 1024) 1) 16384)) 16384)) 2147483647) 62) ++ [IntKind.u8.wrap (oneV (cntS (cntS (widS (cntS (smlS (cntS (smlS (cntS (cntS (cntS s 9) 1024) 1024) 1) 16384) (cntV (smlS (cntS (cntS (cntS s 9) 1024) 1024) 1) 16384)) 16384) (cntV (smlS (cntS (smlS (cntS (cntS (cntS s 9) 1024) 1024) 1) 16384) (cntV (smlS (cntS (cntS (cntS s 9) 1024) 1024) 1) 16384)) 16384)) 2147483647) 62))] ++ [IntKind.u8.wrap (oneV (smlS (cntS (cntS (widS (cntS (smlS (cntS (smlS (cntS (cntS (cntS s 9) 1024) 1024) 1) 16384) (cntV (smlS (cntS (cntS (cntS s 9) 1024) 1024) 1) 16384)) 16384) (cntV (smlS (cntS (smlS (cntS (cntS (cntS s 9) 1024) 1024) 1) 16384) (cntV (smlS (cntS (cntS (cntS s 9) 1024) 1024) 1) 16384)) 16384)) 2147483647) 62) 1))] ++ [IntKind.u8.wrap (oneV (smlS (smlS (cntS (cntS (widS (cntS (smlS (cntS (smlS (cntS (cntS (cntS s 9) 1024) 1024) 1) 16384) (cntV (smlS (cntS (cntS (cntS s 9) 1024) 1024) 1) 16384)) 16384) (cntV (smlS (cntS (smlS (cntS (cntS (cntS s 9) 1024) 1024) 1) 16384) (cntV (smlS (cntS (cntS (cntS s 9) 1024) 1024) 1) 16384)) 16384)) 2147483647) 62) 1) 1))]) ++ (smlS (smlS (smlS (cntS (cntS (widS (cntS (smlS (cntS (smlS (cntS (cntS (cntS s 9) 1024) 1024) 1) 16384) (cntV (smlS (cntS (cntS (cntS s 9) 1024) 1024) 1) 16384)) 16384) (cntV (smlS (cntS (smlS (cntS (cntS (cntS s 9) 1024) 1024) 1) 16384) (cntV (smlS (cntS (cntS (cntS s 9) 1024) 1024) 1) 16384)) 16384)) 2147483647) 62) 1) 1) 1).1
  simp only [List.append_assoc]
  exact e0.trans (congrArg (putN (cntV s 9) ++ ·) (e1.trans (congrArg (putN (cntV (cntS s 9) 1024) ++ ·) (e2.trans (congrArg (putN (cntV (cntS (cntS s 9) 1024) 1024) ++ ·) (e3.trans (congrArg ([IntKind.u8.wrap (oneV (cntS (cntS (cntS s 9) 1024) 1024))] ++ ·) (e4.trans (congrArg (putN (((smlV (cntS (smlS (cntS (cntS (cntS s 9) 1024) 1024) 1) 16384) (cntV (smlS (cntS (cntS (cntS s 9) 1024) 1024) 1) 16384)).length : Nat) : Int) ++ ·) (e5.trans (congrArg (smallL (smlV (cntS (smlS (cntS (cntS (cntS s 9) 1024) 1024) 1) 16384) (cntV (smlS (cntS (cntS (cntS s 9) 1024) 1024) 1) 16384)) ++ ·) (e6.trans (congrArg (putN (((widV (cntS (smlS (cntS (smlS (cntS (cntS (cntS s 9) 1024) 1024) 1) 16384) (cntV (smlS (cntS (cntS (cntS s 9) 1024) 1024) 1) 16384)) 16384) (cntV (smlS (cntS (smlS (cntS (cntS (cntS s 9) 1024) 1024) 1) 16384) (cntV (smlS (cntS (cntS (cntS s 9) 1024) 1024) 1) 16384)) 16384)).length : Nat) : Int) ++ ·) (e7.trans (congrArg (wideL (widV (cntS (smlS (cntS (smlS (cntS (cntS (cntS s 9) 1024) 1024) 1) 16384) (cntV (smlS (cntS (cntS (cntS s 9) 1024) 1024) 1) 16384)) 16384) (cntV (smlS (cntS (smlS (cntS (cntS (cntS s 9) 1024) 1024) 1) 16384) (cntV (smlS (cntS (cntS (cntS s 9) 1024) 1024) 1) 16384)) 16384)) ++ ·) (e8.trans (congrArg (putN (cntV (widS (cntS (smlS (cntS (smlS (cntS (cntS (cntS s 9) 1024) 1024) 1) 16384) (cntV (smlS (cntS (cntS (cntS s 9) 1024) 1024) 1) 16384)) 16384) (cntV (smlS (cntS (smlS (cntS (cntS (cntS s 9) 1024) 1024) 1) 16384) (cntV (smlS (cntS (cntS (cntS s 9) 1024) 1024) 1) 16384)) 16384)) 2147483647) ++ ·) (e9.trans (congrArg (putN (cntV (cntS (widS (cntS (smlS (cntS (smlS (cntS (cntS (cntS s 9) 1024) 1024) 1) 16384) (cntV (smlS (cntS (cntS (cntS s 9) 1024) 1024) 1) 16384)) 16384) (cntV (smlS (cntS (smlS (cntS (cntS (cntS s 9) 1024) 1024) 1) 16384) (cntV (smlS (cntS (cntS (cntS s 9) 1024) 1024) 1) 16384)) 16384)) 2147483647) 62) ++ ·) (e10.trans (congrArg ([IntKind.u8.wrap (oneV (cntS (cntS (widS (cntS (smlS (cntS (smlS (cntS (cntS (cntS s 9) 1024) 1024) 1) 16384) (cntV (smlS (cntS (cntS (cntS s 9) 1024) 1024) 1) 16384)) 16384) (cntV (smlS (cntS (smlS (cntS (cntS (cntS s 9) 1024) 1024) 1) 16384) (cntV (smlS (cntS (cntS (cntS s 9) 1024) 1024) 1) 16384)) 16384)) 2147483647) 62))] ++ ·) (e11.trans (congrArg ([IntKind.u8.wrap (oneV (smlS (cntS (cntS (widS (cntS (smlS (cntS (smlS (cntS (cntS (cntS s 9) 1024) 1024) 1) 16384) (cntV (smlS (cntS (cntS (cntS s 9) 1024) 1024) 1) 16384)) 16384) (cntV (smlS (cntS (smlS (cntS (cntS (cntS s 9) 1024) 1024) 1) 16384) (cntV (smlS (cntS (cntS (cntS s 9) 1024) 1024) 1) 16384)) 16384)) 2147483647) 62) 1))] ++ ·) (e12))))))))))))))))))))))))
theorem there_4 (n : Nod) (h : NTh n) (hk : n.kd = 4 ∨ n.kd = 5) (b : List Int) : ts_4 (lb_4 putN n ++ b, 0) = (b, 0) ∧ tn_4 (lb_4 putN n ++ b, 0) nod0 = ⟨n.kd, n.na, 0, n.nk, n.ns, n.np, 0, 0, 0, [], [], 0, 0, 0, 0, 0, 0, 0, 0⟩ := by
  have a0 := cntS_there h.kd (by decide)
  have b0 := cntV_there h.kd (by decide)
  have a1 := cntS_there h.na (by decide)
  have b1 := cntV_there h.na (by decide)
  have a2 := cntS_there h.nk (by decide)
  have b2 := cntV_there h.nk (by decide)
  have a3 := cntS_there h.ns (by decide)
  have b3 := cntV_there h.ns (by decide)
  have a4 := cntS_there h.np (by decide)
  have b4 := cntV_there h.np (by decide)
  unfold ts_4 tn_4 lb_4
  simp only [List.append_assoc, a0, b0, a1, b1, a2, b2, a3, b3, a4, b4, nod0, and_self]
theorem back_4 (s : Rst) (h : s.In) (hs : (ts_4 s).2 = 0) : s.1 = lb_4 putN (tn_4 s nod0) ++ (ts_4 s).1 := by
  have i0 := h
  have i1 : (cntS s 9).In := cnt_in i0 _
  have i2 : (cntS (cntS s 9) 1024).In := cnt_in i1 _
  have i3 : (cntS (cntS (cntS s 9) 1024) 1024).In := cnt_in i2 _
  have i4 : (cntS (cntS (cntS (cntS s 9) 1024) 1024) 1024).In := cnt_in i3 _
  have h5 : (cntS (cntS (cntS (cntS (cntS s 9) 1024) 1024) 1024) 1024).2 = 0 := hs
  have h4 : (cntS (cntS (cntS (cntS s 9) 1024) 1024) 1024).2 = 0 := cnt_ok h5
  have h3 : (cntS (cntS (cntS s 9) 1024) 1024).2 = 0 := cnt_ok h4
  have h2 : (cntS (cntS s 9) 1024).2 = 0 := cnt_ok h3
  have h1 : (cntS s 9).2 = 0 := cnt_ok h2
  have e0 : s.1 = putN (cntV s 9) ++ (cntS s 9).1 := cnt_back i0 h1
  have e1 : (cntS s 9).1 = putN (cntV (cntS s 9) 1024) ++ (cntS (cntS s 9) 1024).1 := cnt_back i1 h2
  have e2 : (cntS (cntS s 9) 1024).1 = putN (cntV (cntS (cntS s 9) 1024) 1024) ++ (cntS (cntS (cntS s 9) 1024) 1024).1 := cnt_back i2 h3
  have e3 : (cntS (cntS (cntS s 9) 1024) 1024).1 = putN (cntV (cntS (cntS (cntS s 9) 1024) 1024) 1024) ++ (cntS (cntS (cntS (cntS s 9) 1024) 1024) 1024).1 := cnt_back i3 h4
  have e4 : (cntS (cntS (cntS (cntS s 9) 1024) 1024) 1024).1 = putN (cntV (cntS (cntS (cntS (cntS s 9) 1024) 1024) 1024) 1024) ++ (cntS (cntS (cntS (cntS (cntS s 9) 1024) 1024) 1024) 1024).1 := cnt_back i4 h5
  show s.1 = (putN (cntV s 9) ++ putN (cntV (cntS s 9) 1024) ++ putN (cntV (cntS (cntS s 9) 1024) 1024) ++ putN (cntV (cntS (cntS (cntS s 9) 1024) 1024) 1024) ++ putN (cntV (cntS (cntS (cntS (cntS s 9) 1024) 1024) 1024) 1024)) ++ (cntS (cntS (cntS (cntS (cntS s 9) 1024) 1024) 1024) 1024).1
  simp only [List.append_assoc]
  exact e0.trans (congrArg (putN (cntV s 9) ++ ·) (e1.trans (congrArg (putN (cntV (cntS s 9) 1024) ++ ·) (e2.trans (congrArg (putN (cntV (cntS (cntS s 9) 1024) 1024) ++ ·) (e3.trans (congrArg (putN (cntV (cntS (cntS (cntS s 9) 1024) 1024) 1024) ++ ·) (e4))))))))
theorem there_6 (n : Nod) (h : NTh n) (hk : n.kd = 6) (b : List Int) : ts_6 (lb_6 putN n ++ b, 0) = (b, 0) ∧ tn_6 (lb_6 putN n ++ b, 0) nod0 = ⟨n.kd, n.na, n.nb, 0, 0, 0, 0, n.za, n.zb, [], [], n.qm, n.qs, n.qz, n.rm, n.rs, 0, n.lo, n.hi⟩ := by
  have a0 := cntS_there h.kd (by decide)
  have b0 := cntV_there h.kd (by decide)
  have a1 := cntS_there h.na (by decide)
  have b1 := cntV_there h.na (by decide)
  have a2 := cntS_there h.nb (by decide)
  have b2 := cntV_there h.nb (by decide)
  have a3 := oneS_there h.okn.za
  have b3 := oneV_there h.okn.za
  have a4 := oneS_there h.okn.zb
  have b4 := oneV_there h.okn.zb
  have sq := scl_there (h.q (by simp [scaledB, hk])).1 (h.q (by simp [scaledB, hk])).2
  have sq1 := fun b => (sq b).1
  have sq2 := fun b => (sq b).2.1
  have sq3 := fun b => (sq b).2.2
  have a6 := oneS_there h.okn.qz
  have b6 := oneV_there h.okn.qz
  have sr := scl_there (h.r hk).1 (h.r hk).2
  have sr1 := fun b => (sr b).1
  have sr2 := fun b => (sr b).2.1
  have sr3 := fun b => (sr b).2.2
  have a8 := oneS_there h.okn.lo
  have b8 := oneV_there h.okn.lo
  have a9 := oneS_there h.okn.hi
  have b9 := oneV_there h.okn.hi
  unfold ts_6 tn_6 lb_6
  simp only [List.append_assoc, a0, b0, a1, b1, a2, b2, a3, b3, a4, b4, sq1, sq2, sq3, a6, b6, sr1, sr2, sr3, a8, b8, a9, b9, nod0, and_self]
theorem back_6 (s : Rst) (h : s.In) (hs : (ts_6 s).2 = 0) : s.1 = lb_6 putN (tn_6 s nod0) ++ (ts_6 s).1 := by
  have i0 := h
  have i1 : (cntS s 9).In := cnt_in i0 _
  have i2 : (cntS (cntS s 9) 1024).In := cnt_in i1 _
  have i3 : (cntS (cntS (cntS s 9) 1024) 1024).In := cnt_in i2 _
  have i4 : (smlS (cntS (cntS (cntS s 9) 1024) 1024) 1).In := sml_in i3 _
  have i5 : (smlS (smlS (cntS (cntS (cntS s 9) 1024) 1024) 1) 1).In := sml_in i4 _
  have i6 : (cntS (smlS (smlS (cntS (cntS (cntS s 9) 1024) 1024) 1) 1) 2147483647).In := cnt_in i5 _
  have i7 : (cntS (cntS (smlS (smlS (cntS (cntS (cntS s 9) 1024) 1024) 1) 1) 2147483647) 62).In := cnt_in i6 _
  have i8 : (smlS (cntS (cntS (smlS (smlS (cntS (cntS (cntS s 9) 1024) 1024) 1) 1) 2147483647) 62) 1).In := sml_in i7 _
  have i9 : (cntS (smlS (cntS (cntS (smlS (smlS (cntS (cntS (cntS s 9) 1024) 1024) 1) 1) 2147483647) 62) 1) 2147483647).In := cnt_in i8 _
  have i10 : (cntS (cntS (smlS (cntS (cntS (smlS (smlS (cntS (cntS (cntS s 9) 1024) 1024) 1) 1) 2147483647) 62) 1) 2147483647) 62).In := cnt_in i9 _
  have i11 : (smlS (cntS (cntS (smlS (cntS (cntS (smlS (smlS (cntS (cntS (cntS s 9) 1024) 1024) 1) 1) 2147483647) 62) 1) 2147483647) 62) 1).In := sml_in i10 _
  have h12 : (smlS (smlS (cntS (cntS (smlS (cntS (cntS (smlS (smlS (cntS (cntS (cntS s 9) 1024) 1024) 1) 1) 2147483647) 62) 1) 2147483647) 62) 1) 1).2 = 0 := hs
  have h11 : (smlS (cntS (cntS (smlS (cntS (cntS (smlS (smlS (cntS (cntS (cntS s 9) 1024) 1024) 1) 1) 2147483647) 62) 1) 2147483647) 62) 1).2 = 0 := sml_ok h12
  have h10 : (cntS (cntS (smlS (cntS (cntS (smlS (smlS (cntS (cntS (cntS s 9) 1024) 1024) 1) 1) 2147483647) 62) 1) 2147483647) 62).2 = 0 := sml_ok h11
  have h9 : (cntS (smlS (cntS (cntS (smlS (smlS (cntS (cntS (cntS s 9) 1024) 1024) 1) 1) 2147483647) 62) 1) 2147483647).2 = 0 := cnt_ok h10
  have h8 : (smlS (cntS (cntS (smlS (smlS (cntS (cntS (cntS s 9) 1024) 1024) 1) 1) 2147483647) 62) 1).2 = 0 := cnt_ok h9
  have h7 : (cntS (cntS (smlS (smlS (cntS (cntS (cntS s 9) 1024) 1024) 1) 1) 2147483647) 62).2 = 0 := sml_ok h8
  have h6 : (cntS (smlS (smlS (cntS (cntS (cntS s 9) 1024) 1024) 1) 1) 2147483647).2 = 0 := cnt_ok h7
  have h5 : (smlS (smlS (cntS (cntS (cntS s 9) 1024) 1024) 1) 1).2 = 0 := cnt_ok h6
  have h4 : (smlS (cntS (cntS (cntS s 9) 1024) 1024) 1).2 = 0 := sml_ok h5
  have h3 : (cntS (cntS (cntS s 9) 1024) 1024).2 = 0 := sml_ok h4
  have h2 : (cntS (cntS s 9) 1024).2 = 0 := cnt_ok h3
  have h1 : (cntS s 9).2 = 0 := cnt_ok h2
  have e0 : s.1 = putN (cntV s 9) ++ (cntS s 9).1 := cnt_back i0 h1
  have e1 : (cntS s 9).1 = putN (cntV (cntS s 9) 1024) ++ (cntS (cntS s 9) 1024).1 := cnt_back i1 h2
  have e2 : (cntS (cntS s 9) 1024).1 = putN (cntV (cntS (cntS s 9) 1024) 1024) ++ (cntS (cntS (cntS s 9) 1024) 1024).1 := cnt_back i2 h3
  have e3 : (cntS (cntS (cntS s 9) 1024) 1024).1 = [IntKind.u8.wrap (oneV (cntS (cntS (cntS s 9) 1024) 1024))] ++ (smlS (cntS (cntS (cntS s 9) 1024) 1024) 1).1 := one_back i3 h4
  have e4 : (smlS (cntS (cntS (cntS s 9) 1024) 1024) 1).1 = [IntKind.u8.wrap (oneV (smlS (cntS (cntS (cntS s 9) 1024) 1024) 1))] ++ (smlS (smlS (cntS (cntS (cntS s 9) 1024) 1024) 1) 1).1 := one_back i4 h5
  have e5 : (smlS (smlS (cntS (cntS (cntS s 9) 1024) 1024) 1) 1).1 = putN (cntV (smlS (smlS (cntS (cntS (cntS s 9) 1024) 1024) 1) 1) 2147483647) ++ (cntS (smlS (smlS (cntS (cntS (cntS s 9) 1024) 1024) 1) 1) 2147483647).1 := cnt_back i5 h6
  have e6 : (cntS (smlS (smlS (cntS (cntS (cntS s 9) 1024) 1024) 1) 1) 2147483647).1 = putN (cntV (cntS (smlS (smlS (cntS (cntS (cntS s 9) 1024) 1024) 1) 1) 2147483647) 62) ++ (cntS (cntS (smlS (smlS (cntS (cntS (cntS s 9) 1024) 1024) 1) 1) 2147483647) 62).1 := cnt_back i6 h7
  have e7 : (cntS (cntS (smlS (smlS (cntS (cntS (cntS s 9) 1024) 1024) 1) 1) 2147483647) 62).1 = [IntKind.u8.wrap (oneV (cntS (cntS (smlS (smlS (cntS (cntS (cntS s 9) 1024) 1024) 1) 1) 2147483647) 62))] ++ (smlS (cntS (cntS (smlS (smlS (cntS (cntS (cntS s 9) 1024) 1024) 1) 1) 2147483647) 62) 1).1 := one_back i7 h8
  have e8 : (smlS (cntS (cntS (smlS (smlS (cntS (cntS (cntS s 9) 1024) 1024) 1) 1) 2147483647) 62) 1).1 = putN (cntV (smlS (cntS (cntS (smlS (smlS (cntS (cntS (cntS s 9) 1024) 1024) 1) 1) 2147483647) 62) 1) 2147483647) ++ (cntS (smlS (cntS (cntS (smlS (smlS (cntS (cntS (cntS s 9) 1024) 1024) 1) 1) 2147483647) 62) 1) 2147483647).1 := cnt_back i8 h9
  have e9 : (cntS (smlS (cntS (cntS (smlS (smlS (cntS (cntS (cntS s 9) 1024) 1024) 1) 1) 2147483647) 62) 1) 2147483647).1 = putN (cntV (cntS (smlS (cntS (cntS (smlS (smlS (cntS (cntS (cntS s 9) 1024) 1024) 1) 1) 2147483647) 62) 1) 2147483647) 62) ++ (cntS (cntS (smlS (cntS (cntS (smlS (smlS (cntS (cntS (cntS s 9) 1024) 1024) 1) 1) 2147483647) 62) 1) 2147483647) 62).1 := cnt_back i9 h10
  have e10 : (cntS (cntS (smlS (cntS (cntS (smlS (smlS (cntS (cntS (cntS s 9) 1024) 1024) 1) 1) 2147483647) 62) 1) 2147483647) 62).1 = [IntKind.u8.wrap (oneV (cntS (cntS (smlS (cntS (cntS (smlS (smlS (cntS (cntS (cntS s 9) 1024) 1024) 1) 1) 2147483647) 62) 1) 2147483647) 62))] ++ (smlS (cntS (cntS (smlS (cntS (cntS (smlS (smlS (cntS (cntS (cntS s 9) 1024) 1024) 1) 1) 2147483647) 62) 1) 2147483647) 62) 1).1 := one_back i10 h11
  have e11 : (smlS (cntS (cntS (smlS (cntS (cntS (smlS (smlS (cntS (cntS (cntS s 9) 1024) 1024) 1) 1) 2147483647) 62) 1) 2147483647) 62) 1).1 = [IntKind.u8.wrap (oneV (smlS (cntS (cntS (smlS (cntS (cntS (smlS (smlS (cntS (cntS (cntS s 9) 1024) 1024) 1) 1) 2147483647) 62) 1) 2147483647) 62) 1))] ++ (smlS (smlS (cntS (cntS (smlS (cntS (cntS (smlS (smlS (cntS (cntS (cntS s 9) 1024) 1024) 1) 1) 2147483647) 62) 1) 2147483647) 62) 1) 1).1 := one_back i11 h12
  show s.1 = (putN (cntV s 9) ++ putN (cntV (cntS s 9) 1024) ++ putN (cntV (cntS (cntS s 9) 1024) 1024) ++ [IntKind.u8.wrap (oneV (cntS (cntS (cntS s 9) 1024) 1024))] ++ [IntKind.u8.wrap (oneV (smlS (cntS (cntS (cntS s 9) 1024) 1024) 1))] ++ putN (cntV (smlS (smlS (cntS (cntS (cntS s 9) 1024) 1024) 1) 1) 2147483647) ++ putN (cntV (cntS (smlS (smlS (cntS (cntS (cntS s 9) 1024) 1024) 1) 1) 2147483647) 62) ++ [IntKind.u8.wrap (oneV (cntS (cntS (smlS (smlS (cntS (cntS (cntS s 9) 1024) 1024) 1) 1) 2147483647) 62))] ++ putN (cntV (smlS (cntS (cntS (smlS (smlS (cntS (cntS (cntS s 9) 1024) 1024) 1) 1) 2147483647) 62) 1) 2147483647) ++ putN (cntV (cntS (smlS (cntS (cntS (smlS (smlS (cntS (cntS (cntS s 9) 1024) 1024) 1) 1) 2147483647) 62) 1) 2147483647) 62) ++ [IntKind.u8.wrap (oneV (cntS (cntS (smlS (cntS (cntS (smlS (smlS (cntS (cntS (cntS s 9) 1024) 1024) 1) 1) 2147483647) 62) 1) 2147483647) 62))] ++ [IntKind.u8.wrap (oneV (smlS (cntS (cntS (smlS (cntS (cntS (smlS (smlS (cntS (cntS (cntS s 9) 1024) 1024) 1) 1) 2147483647) 62) 1) 2147483647) 62) 1))]) ++ (smlS (smlS (cntS (cntS (smlS (cntS (cntS (smlS (smlS (cntS (cntS (cntS s 9) 1024) 1024) 1) 1) 2147483647) 62) 1) 2147483647) 62) 1) 1).1
  simp only [List.append_assoc]
  exact e0.trans (congrArg (putN (cntV s 9) ++ ·) (e1.trans (congrArg (putN (cntV (cntS s 9) 1024) ++ ·) (e2.trans (congrArg (putN (cntV (cntS (cntS s 9) 1024) 1024) ++ ·) (e3.trans (congrArg ([IntKind.u8.wrap (oneV (cntS (cntS (cntS s 9) 1024) 1024))] ++ ·) (e4.trans (congrArg ([IntKind.u8.wrap (oneV (smlS (cntS (cntS (cntS s 9) 1024) 1024) 1))] ++ ·) (e5.trans (congrArg (putN (cntV (smlS (smlS (cntS (cntS (cntS s 9) 1024) 1024) 1) 1) 2147483647) ++ ·) (e6.trans (congrArg (putN (cntV (cntS (smlS (smlS (cntS (cntS (cntS s 9) 1024) 1024) 1) 1) 2147483647) 62) ++ ·) (e7.trans (congrArg ([IntKind.u8.wrap (oneV (cntS (cntS (smlS (smlS (cntS (cntS (cntS s 9) 1024) 1024) 1) 1) 2147483647) 62))] ++ ·) (e8.trans (congrArg (putN (cntV (smlS (cntS (cntS (smlS (smlS (cntS (cntS (cntS s 9) 1024) 1024) 1) 1) 2147483647) 62) 1) 2147483647) ++ ·) (e9.trans (congrArg (putN (cntV (cntS (smlS (cntS (cntS (smlS (smlS (cntS (cntS (cntS s 9) 1024) 1024) 1) 1) 2147483647) 62) 1) 2147483647) 62) ++ ·) (e10.trans (congrArg ([IntKind.u8.wrap (oneV (cntS (cntS (smlS (cntS (cntS (smlS (smlS (cntS (cntS (cntS s 9) 1024) 1024) 1) 1) 2147483647) 62) 1) 2147483647) 62))] ++ ·) (e11))))))))))))))))))))))
theorem there_7 (n : Nod) (h : NTh n) (hk : n.kd = 7) (b : List Int) : ts_7 (lb_7 putN n ++ b, 0) = (b, 0) ∧ tn_7 (lb_7 putN n ++ b, 0) nod0 = ⟨n.kd, n.na, 0, 0, 0, 0, 0, n.za, 0, [], [], n.qm, n.qs, n.qz, 0, 0, 0, n.lo, n.hi⟩ := by
  have a0 := cntS_there h.kd (by decide)
  have b0 := cntV_there h.kd (by decide)
  have a1 := cntS_there h.na (by decide)
  have b1 := cntV_there h.na (by decide)
  have a2 := oneS_there h.okn.za
  have b2 := oneV_there h.okn.za
  have sq := scl_there (h.q (by simp [scaledB, hk])).1 (h.q (by simp [scaledB, hk])).2
  have sq1 := fun b => (sq b).1
  have sq2 := fun b => (sq b).2.1
  have sq3 := fun b => (sq b).2.2
  have a4 := oneS_there h.okn.qz
  have b4 := oneV_there h.okn.qz
  have a5 := oneS_there h.okn.lo
  have b5 := oneV_there h.okn.lo
  have a6 := oneS_there h.okn.hi
  have b6 := oneV_there h.okn.hi
  unfold ts_7 tn_7 lb_7
  simp only [List.append_assoc, a0, b0, a1, b1, a2, b2, sq1, sq2, sq3, a4, b4, a5, b5, a6, b6, nod0, and_self]
theorem back_7 (s : Rst) (h : s.In) (hs : (ts_7 s).2 = 0) : s.1 = lb_7 putN (tn_7 s nod0) ++ (ts_7 s).1 := by
  have i0 := h
  have i1 : (cntS s 9).In := cnt_in i0 _
  have i2 : (cntS (cntS s 9) 1024).In := cnt_in i1 _
  have i3 : (smlS (cntS (cntS s 9) 1024) 1).In := sml_in i2 _
  have i4 : (cntS (smlS (cntS (cntS s 9) 1024) 1) 2147483647).In := cnt_in i3 _
  have i5 : (cntS (cntS (smlS (cntS (cntS s 9) 1024) 1) 2147483647) 62).In := cnt_in i4 _
  have i6 : (smlS (cntS (cntS (smlS (cntS (cntS s 9) 1024) 1) 2147483647) 62) 1).In := sml_in i5 _
  have i7 : (smlS (smlS (cntS (cntS (smlS (cntS (cntS s 9) 1024) 1) 2147483647) 62) 1) 1).In := sml_in i6 _
  have h8 : (smlS (smlS (smlS (cntS (cntS (smlS (cntS (cntS s 9) 1024) 1) 2147483647) 62) 1) 1) 1).2 = 0 := hs
  have h7 : (smlS (smlS (cntS (cntS (smlS (cntS (cntS s 9) 1024) 1) 2147483647) 62) 1) 1).2 = 0 := sml_ok h8
  have h6 : (smlS (cntS (cntS (smlS (cntS (cntS s 9) 1024) 1) 2147483647) 62) 1).2 = 0 := sml_ok h7
  have h5 : (cntS (cntS (smlS (cntS (cntS s 9) 1024) 1) 2147483647) 62).2 = 0 := sml_ok h6
  have h4 : (cntS (smlS (cntS (cntS s 9) 1024) 1) 2147483647).2 = 0 := cnt_ok h5
  have h3 : (smlS (cntS (cntS s 9) 1024) 1).2 = 0 := cnt_ok h4
  have h2 : (cntS (cntS s 9) 1024).2 = 0 := sml_ok h3
  have h1 : (cntS s 9).2 = 0 := cnt_ok h2
  have e0 : s.1 = putN (cntV s 9) ++ (cntS s 9).1 := cnt_back i0 h1
  have e1 : (cntS s 9).1 = putN (cntV (cntS s 9) 1024) ++ (cntS (cntS s 9) 1024).1 := cnt_back i1 h2
  have e2 : (cntS (cntS s 9) 1024).1 = [IntKind.u8.wrap (oneV (cntS (cntS s 9) 1024))] ++ (smlS (cntS (cntS s 9) 1024) 1).1 := one_back i2 h3
  have e3 : (smlS (cntS (cntS s 9) 1024) 1).1 = putN (cntV (smlS (cntS (cntS s 9) 1024) 1) 2147483647) ++ (cntS (smlS (cntS (cntS s 9) 1024) 1) 2147483647).1 := cnt_back i3 h4
  have e4 : (cntS (smlS (cntS (cntS s 9) 1024) 1) 2147483647).1 = putN (cntV (cntS (smlS (cntS (cntS s 9) 1024) 1) 2147483647) 62) ++ (cntS (cntS (smlS (cntS (cntS s 9) 1024) 1) 2147483647) 62).1 := cnt_back i4 h5
  have e5 : (cntS (cntS (smlS (cntS (cntS s 9) 1024) 1) 2147483647) 62).1 = [IntKind.u8.wrap (oneV (cntS (cntS (smlS (cntS (cntS s 9) 1024) 1) 2147483647) 62))] ++ (smlS (cntS (cntS (smlS (cntS (cntS s 9) 1024) 1) 2147483647) 62) 1).1 := one_back i5 h6
  have e6 : (smlS (cntS (cntS (smlS (cntS (cntS s 9) 1024) 1) 2147483647) 62) 1).1 = [IntKind.u8.wrap (oneV (smlS (cntS (cntS (smlS (cntS (cntS s 9) 1024) 1) 2147483647) 62) 1))] ++ (smlS (smlS (cntS (cntS (smlS (cntS (cntS s 9) 1024) 1) 2147483647) 62) 1) 1).1 := one_back i6 h7
  have e7 : (smlS (smlS (cntS (cntS (smlS (cntS (cntS s 9) 1024) 1) 2147483647) 62) 1) 1).1 = [IntKind.u8.wrap (oneV (smlS (smlS (cntS (cntS (smlS (cntS (cntS s 9) 1024) 1) 2147483647) 62) 1) 1))] ++ (smlS (smlS (smlS (cntS (cntS (smlS (cntS (cntS s 9) 1024) 1) 2147483647) 62) 1) 1) 1).1 := one_back i7 h8
  show s.1 = (putN (cntV s 9) ++ putN (cntV (cntS s 9) 1024) ++ [IntKind.u8.wrap (oneV (cntS (cntS s 9) 1024))] ++ putN (cntV (smlS (cntS (cntS s 9) 1024) 1) 2147483647) ++ putN (cntV (cntS (smlS (cntS (cntS s 9) 1024) 1) 2147483647) 62) ++ [IntKind.u8.wrap (oneV (cntS (cntS (smlS (cntS (cntS s 9) 1024) 1) 2147483647) 62))] ++ [IntKind.u8.wrap (oneV (smlS (cntS (cntS (smlS (cntS (cntS s 9) 1024) 1) 2147483647) 62) 1))] ++ [IntKind.u8.wrap (oneV (smlS (smlS (cntS (cntS (smlS (cntS (cntS s 9) 1024) 1) 2147483647) 62) 1) 1))]) ++ (smlS (smlS (smlS (cntS (cntS (smlS (cntS (cntS s 9) 1024) 1) 2147483647) 62) 1) 1) 1).1
  simp only [List.append_assoc]
  exact e0.trans (congrArg (putN (cntV s 9) ++ ·) (e1.trans (congrArg (putN (cntV (cntS s 9) 1024) ++ ·) (e2.trans (congrArg ([IntKind.u8.wrap (oneV (cntS (cntS s 9) 1024))] ++ ·) (e3.trans (congrArg (putN (cntV (smlS (cntS (cntS s 9) 1024) 1) 2147483647) ++ ·) (e4.trans (congrArg (putN (cntV (cntS (smlS (cntS (cntS s 9) 1024) 1) 2147483647) 62) ++ ·) (e5.trans (congrArg ([IntKind.u8.wrap (oneV (cntS (cntS (smlS (cntS (cntS s 9) 1024) 1) 2147483647) 62))] ++ ·) (e6.trans (congrArg ([IntKind.u8.wrap (oneV (smlS (cntS (cntS (smlS (cntS (cntS s 9) 1024) 1) 2147483647) 62) 1))] ++ ·) (e7))))))))))))))
theorem there_8 (n : Nod) (h : NTh n) (hk : n.kd = 8) (b : List Int) : ts_8 (lb_8 putN n ++ b, 0) = (b, 0) ∧ tn_8 (lb_8 putN n ++ b, 0) nod0 = ⟨n.kd, n.na, 0, 0, 0, n.np, 0, n.za, 0, [], [], 0, 0, 0, 0, 0, 0, 0, 0⟩ := by
  have a0 := cntS_there h.kd (by decide)
  have b0 := cntV_there h.kd (by decide)
  have a1 := cntS_there h.na (by decide)
  have b1 := cntV_there h.na (by decide)
  have a2 := cntS_there h.np (by decide)
  have b2 := cntV_there h.np (by decide)
  have a3 := oneS_there h.okn.za
  have b3 := oneV_there h.okn.za
  unfold ts_8 tn_8 lb_8
  simp only [List.append_assoc, a0, b0, a1, b1, a2, b2, a3, b3, nod0, and_self]
theorem back_8 (s : Rst) (h : s.In) (hs : (ts_8 s).2 = 0) : s.1 = lb_8 putN (tn_8 s nod0) ++ (ts_8 s).1 := by
  have i0 := h
  have i1 : (cntS s 9).In := cnt_in i0 _
  have i2 : (cntS (cntS s 9) 1024).In := cnt_in i1 _
  have i3 : (cntS (cntS (cntS s 9) 1024) 1024).In := cnt_in i2 _
  have h4 : (smlS (cntS (cntS (cntS s 9) 1024) 1024) 1).2 = 0 := hs
  have h3 : (cntS (cntS (cntS s 9) 1024) 1024).2 = 0 := sml_ok h4
  have h2 : (cntS (cntS s 9) 1024).2 = 0 := cnt_ok h3
  have h1 : (cntS s 9).2 = 0 := cnt_ok h2
  have e0 : s.1 = putN (cntV s 9) ++ (cntS s 9).1 := cnt_back i0 h1
  have e1 : (cntS s 9).1 = putN (cntV (cntS s 9) 1024) ++ (cntS (cntS s 9) 1024).1 := cnt_back i1 h2
  have e2 : (cntS (cntS s 9) 1024).1 = putN (cntV (cntS (cntS s 9) 1024) 1024) ++ (cntS (cntS (cntS s 9) 1024) 1024).1 := cnt_back i2 h3
  have e3 : (cntS (cntS (cntS s 9) 1024) 1024).1 = [IntKind.u8.wrap (oneV (cntS (cntS (cntS s 9) 1024) 1024))] ++ (smlS (cntS (cntS (cntS s 9) 1024) 1024) 1).1 := one_back i3 h4
  show s.1 = (putN (cntV s 9) ++ putN (cntV (cntS s 9) 1024) ++ putN (cntV (cntS (cntS s 9) 1024) 1024) ++ [IntKind.u8.wrap (oneV (cntS (cntS (cntS s 9) 1024) 1024))]) ++ (smlS (cntS (cntS (cntS s 9) 1024) 1024) 1).1
  simp only [List.append_assoc]
  exact e0.trans (congrArg (putN (cntV s 9) ++ ·) (e1.trans (congrArg (putN (cntV (cntS s 9) 1024) ++ ·) (e2.trans (congrArg (putN (cntV (cntS (cntS s 9) 1024) 1024) ++ ·) (e3))))))
theorem there_9 (n : Nod) (h : NTh n) (hk : n.kd = 9) (b : List Int) : ts_9 (lb_9 putN n ++ b, 0) = (b, 0) ∧ tn_9 (lb_9 putN n ++ b, 0) nod0 = ⟨n.kd, n.na, 0, 0, 0, 0, 0, 0, 0, [], [], 0, 0, 0, 0, 0, 0, 0, 0⟩ := by
  have a0 := cntS_there h.kd (by decide)
  have b0 := cntV_there h.kd (by decide)
  have a1 := cntS_there h.na (by decide)
  have b1 := cntV_there h.na (by decide)
  unfold ts_9 tn_9 lb_9
  simp only [List.append_assoc, a0, b0, a1, b1, nod0, and_self]
theorem back_9 (s : Rst) (h : s.In) (hs : (ts_9 s).2 = 0) : s.1 = lb_9 putN (tn_9 s nod0) ++ (ts_9 s).1 := by
  have i0 := h
  have i1 : (cntS s 9).In := cnt_in i0 _
  have h2 : (cntS (cntS s 9) 1024).2 = 0 := hs
  have h1 : (cntS s 9).2 = 0 := cnt_ok h2
  have e0 : s.1 = putN (cntV s 9) ++ (cntS s 9).1 := cnt_back i0 h1
  have e1 : (cntS s 9).1 = putN (cntV (cntS s 9) 1024) ++ (cntS (cntS s 9) 1024).1 := cnt_back i1 h2
  show s.1 = (putN (cntV s 9) ++ putN (cntV (cntS s 9) 1024)) ++ (cntS (cntS s 9) 1024).1
  simp only [List.append_assoc]
  exact e0.trans (congrArg (putN (cntV s 9) ++ ·) (e1))
end Go.Proofs.Ytgecmooedhnenaa
/- The walk through a node, of a taker, of all kinds. No condition. -/
namespace Go.Proofs.Ytgecmooedhnenaa
open Go.RowKit
set_option linter.unusedSimpArgs false
set_option linter.unusedVariables false
set_option linter.unnecessarySimpa false
def takeS (s : Rst) : Rst := if cntV s 9 = 1 then ts_1 s else if cntV s 9 = 2 then ts_2 s else if cntV s 9 = 3 then ts_3 s else if cntV s 9 = 4 ∨ cntV s 9 = 5 then ts_4 s else if cntV s 9 = 6 then ts_6 s else if cntV s 9 = 7 then ts_7 s else if cntV s 9 = 8 then ts_8 s else ts_9 s
def takeN (s : Rst) : Nod := if cntV s 9 = 1 then tn_1 s nod0 else if cntV s 9 = 2 then tn_2 s nod0 else if cntV s 9 = 3 then tn_3 s nod0 else if cntV s 9 = 4 ∨ cntV s 9 = 5 then tn_4 s nod0 else if cntV s 9 = 6 then tn_6 s nod0 else if cntV s 9 = 7 then tn_7 s nod0 else if cntV s 9 = 8 then tn_8 s nod0 else tn_9 s nod0
theorem twalk_v (s : Rst) (h : s.In) : VM Try.prog 105 [.ifc 169 (.agg [.ptr 100000 0 0]), .ptr 100001 0 0] [(100000, .var (rdC s)), (100001, .var [i64 0, i64 0, i64 0, i64 0, i64 0, i64 0, i64 0, i8 0, i8 0, .sl 1 [], .sl 1 [], i32 0, i64 0, i8 0, i32 0, i64 0, i8 0, i8 0, i8 0])] (.tup []) [(100000, .var (rdC (takeS s))), (100001, .var (nodC (takeN s)))] := by
  by_cases k1 : cntV s 9 = 1
  · rw [show takeS s = ts_1 s from by unfold takeS; rw [if_pos k1], show takeN s = tn_1 s nod0 from by unfold takeN; rw [if_pos k1]]
    exact twalk_1v s nod0 h k1 rfl rfl rfl rfl rfl
  by_cases k2 : cntV s 9 = 2
  · rw [show takeS s = ts_2 s from by unfold takeS; rw [if_neg k1, if_pos k2], show takeN s = tn_2 s nod0 from by unfold takeN; rw [if_neg k1, if_pos k2]]
    exact twalk_2v s nod0 h k2 rfl rfl rfl rfl rfl
  by_cases k3 : cntV s 9 = 3
  · rw [show takeS s = ts_3 s from by unfold takeS; rw [if_neg k1, if_neg k2, if_pos k3], show takeN s = tn_3 s nod0 from by unfold takeN; rw [if_neg k1, if_neg k2, if_pos k3]]
    exact twalk_3v s nod0 h k3 rfl rfl rfl rfl rfl
  by_cases k4 : cntV s 9 = 4 ∨ cntV s 9 = 5
  · rw [show takeS s = ts_4 s from by unfold takeS; rw [if_neg k1, if_neg k2, if_neg k3, if_pos k4], show takeN s = tn_4 s nod0 from by unfold takeN; rw [if_neg k1, if_neg k2, if_neg k3, if_pos k4]]
    exact twalk_4v s nod0 h k4 rfl rfl rfl rfl rfl
  by_cases k6 : cntV s 9 = 6
  · rw [show takeS s = ts_6 s from by unfold takeS; rw [if_neg k1, if_neg k2, if_neg k3, if_neg k4, if_pos k6], show takeN s = tn_6 s nod0 from by unfold takeN; rw [if_neg k1, if_neg k2, if_neg k3, if_neg k4, if_pos k6]]
    exact twalk_6v s nod0 h k6 rfl rfl rfl rfl rfl
  by_cases k7 : cntV s 9 = 7
  · rw [show takeS s = ts_7 s from by unfold takeS; rw [if_neg k1, if_neg k2, if_neg k3, if_neg k4, if_neg k6, if_pos k7], show takeN s = tn_7 s nod0 from by unfold takeN; rw [if_neg k1, if_neg k2, if_neg k3, if_neg k4, if_neg k6, if_pos k7]]
    exact twalk_7v s nod0 h k7 rfl rfl rfl rfl rfl
  by_cases k8 : cntV s 9 = 8
  · rw [show takeS s = ts_8 s from by unfold takeS; rw [if_neg k1, if_neg k2, if_neg k3, if_neg k4, if_neg k6, if_neg k7, if_pos k8], show takeN s = tn_8 s nod0 from by unfold takeN; rw [if_neg k1, if_neg k2, if_neg k3, if_neg k4, if_neg k6, if_neg k7, if_pos k8]]
    exact twalk_8v s nod0 h k8 rfl rfl rfl rfl rfl
  rw [show takeS s = ts_9 s from by unfold takeS; rw [if_neg k1, if_neg k2, if_neg k3, if_neg k4, if_neg k6, if_neg k7, if_neg k8], show takeN s = tn_9 s nod0 from by unfold takeN; rw [if_neg k1, if_neg k2, if_neg k3, if_neg k4, if_neg k6, if_neg k7, if_neg k8]]
  exact twalk_9v s nod0 h (by omega) rfl rfl rfl rfl rfl
theorem bad_e (s : Rst) (h : s.2 ≠ 0) (h2 : s.2 ≠ 24) : VM Try.prog 108 ([.agg [.ptr 100000 0 0]]) ([(100000, .var (rdC s))]) (i64 s.2) ([(100000, .var (rdC s))]) := by
  have oz0 := @end_e (s) h
  exact VM.run (fn := Try.f108) (W := [.r [] [], .r [] [.callm [(100000, 100000)] [] (rM oz0) (oM oz0)], .r [] [], .br true, .r [] []]) (G := [.drop [1], .sort]) Try.func108 (by kernel_rfl) (.c oz0 <| .c (show (s.snd != 24) = true by (simp; omega)) <| .n)
theorem bad_m (l : List Int) (h : 0 < l.length) : VM Try.prog 108 ([.agg [.ptr 100000 0 0]]) ([(100000, .var (rdC (l, 0)))]) (i64 0) ([(100000, .var (rdC (l, 0)))]) := by
  have oz0 := @end_m (l) h
  exact VM.run (fn := Try.f108) (W := [.r [] [], .r [] [.callm [(100000, 100000)] [] (rM oz0) (oM oz0)], .r [] [], .br false, .r [] []]) (G := [.drop [1], .sort]) Try.func108 (by kernel_rfl) (.c oz0 <| .c (show false = false by with_reducible rfl) <| .n)
theorem bad_z   : VM Try.prog 108 ([.agg [.ptr 100000 0 0]]) ([(100000, .var (rdC ([], 0)))]) (i64 0) ([(100000, .var (rdC ([], 0)))]) := by
  have oz0 := @end_z
  exact VM.run (fn := Try.f108) (W := [.r [] [], .r [] [.callm [(100000, 100000)] [] (rM oz0) (oM oz0)], .r [] [], .br true, .r [] []]) (G := [.drop [1], .sort]) Try.func108 (by kernel_rfl) (.c oz0 <| .c (show true = true by with_reducible rfl) <| .n)
theorem bad_v (s : Rst) (h2 : s.2 ≠ 24) : VM Try.prog 108 [.agg [.ptr 100000 0 0]] [(100000, .var (rdC s))] (i64 s.2) [(100000, .var (rdC s))] := by
  obtain ⟨l, e⟩ := s
  by_cases he : e = 0
  · subst he
    cases l with
    | nil => exact bad_z
    | cons x l => exact bad_m (x :: l) (by simp)
  · exact bad_e (l, e) he h2
end Go.Proofs.Ytgecmooedhnenaa
/- A node at which a reader stands, of a taker. No condition. -/
namespace Go.Proofs.Ytgecmooedhnenaa
open Go.RowKit
set_option linter.unusedSimpArgs false
set_option linter.unusedVariables false
set_option linter.unnecessarySimpa false
theorem getE_24 {l : List Int} (hb : ∀ x ∈ l, 0 ≤ x ∧ x ≤ 255) : getE l ≠ 24 := by
  have := getAt_range l hb; unfold getE; omega
theorem cnt_24 {s : Rst} (h : s.In) (h2 : s.2 ≠ 24) (m : Int) : (cntS s m).2 ≠ 24 := by
  unfold cntS
  split
  · exact h2
  · split
    · exact getE_24 h.b
    · split
      · simp
      · simp
theorem int_24 {s : Rst} (h : s.In) (h2 : s.2 ≠ 24) (lo hi : Int) : (intS s lo hi).2 ≠ 24 := by
  unfold intS
  split
  · exact h2
  · split
    · exact getE_24 h.b
    · split
      · simp
      · simp
theorem sml_24 {s : Rst} (h2 : s.2 ≠ 24) (n : Int) : (smlS s n).2 ≠ 24 := by
  unfold smlS
  split
  · exact h2
  · split
    · exact h2
    · split
      · simp
      · simp
theorem it_24 {s : Rst} (h : s.In) (h2 : s.2 ≠ 24) (k : Nat) : (itS s k).2 ≠ 24 := by
  induction k with
  | zero => exact h2
  | succ k ih => exact int_24 (itS_in h k) ih _ _
theorem wid_24 {s : Rst} (h : s.In) (h2 : s.2 ≠ 24) (n : Int) : (widS s n).2 ≠ 24 := by
  unfold widS
  split
  · exact h2
  · split
    · exact h2
    · split
      · simp
      · exact it_24 h h2 _
theorem cnt_le {s : Rst} {k : Nat} (h : s.1.length ≤ k) (m : Int) : (cntS s m).1.length ≤ k := by
  unfold cntS
  split
  · exact h
  · split
    · simp
    · split
      · simp
      · simp only [List.length_drop]; omega
theorem int_le {s : Rst} {k : Nat} (h : s.1.length ≤ k) (lo hi : Int) : (intS s lo hi).1.length ≤ k := by
  unfold intS
  split
  · exact h
  · split
    · simp
    · split
      · simp
      · simp only [List.length_drop]; omega
theorem sml_le {s : Rst} {k : Nat} (h : s.1.length ≤ k) (n : Int) : (smlS s n).1.length ≤ k := by
  unfold smlS
  split
  · exact h
  · split
    · exact h
    · split
      · simp
      · dsimp only; rw [dpW_eq, List.length_drop]; omega
theorem it_le {s : Rst} {k : Nat} (h : s.1.length ≤ k) (n : Nat) : (itS s n).1.length ≤ k := by
  induction n with
  | zero => exact h
  | succ n ih => exact int_le ih _ _
theorem wid_le {s : Rst} {k : Nat} (h : s.1.length ≤ k) (n : Int) : (widS s n).1.length ≤ k := by
  unfold widS
  split
  · exact h
  · split
    · exact h
    · split
      · simp
      · exact it_le h _
structure Rst.Fit (s : Rst) : Prop where
  b : ∀ x ∈ s.1, 0 ≤ x ∧ x ≤ 255
  l : s.1.length ≤ 100000
  e : s.2 ≠ 24
theorem Rst.Fit.i {s : Rst} (h : s.Fit) : s.In := ⟨h.b, by have := h.l; omega⟩
theorem cnt_fit {s : Rst} (h : s.Fit) (m : Int) : (cntS s m).Fit := ⟨(cnt_in h.i m).b, cnt_le h.l m, cnt_24 h.i h.e m⟩
theorem sml_fit {s : Rst} (h : s.Fit) (n : Int) : (smlS s n).Fit := ⟨(sml_in h.i n).b, sml_le h.l n, sml_24 h.e n⟩
theorem wid_fit {s : Rst} (h : s.Fit) (n : Int) : (widS s n).Fit := ⟨(wid_in h.i n).b, wid_le h.l n, wid_24 h.i h.e n⟩
theorem lst_fit {s : Rst} (h : s.Fit) : (lstS s).Fit := wid_fit (cnt_fit (sml_fit (cnt_fit h _) _) _) _
theorem scl_fit {s : Rst} (h : s.Fit) : (sclS s).Fit := cnt_fit (cnt_fit h _) _
theorem lstW_le {s : Rst} (h : s.Fit) : (lstW s).length ≤ 100000 := Nat.le_trans (smlV_len _ _) (cnt_fit h _).l
theorem lstB_le {s : Rst} (h : s.Fit) : (lstB s).length ≤ 100000 := Nat.le_trans (widV_len _ _) (cnt_fit (sml_fit (cnt_fit h _) _) _).l
theorem takeS_fit {s : Rst} (h : s.Fit) : (takeS s).Fit := by
  unfold takeS
  repeat' split
  all_goals (first | unfold ts_1 | unfold ts_2 | unfold ts_3 | unfold ts_4 | unfold ts_6 | unfold ts_7 | unfold ts_8 | unfold ts_9)
  all_goals (repeat first | exact h | apply cnt_fit | apply sml_fit | apply lst_fit | apply scl_fit)
theorem takeN_le {s : Rst} (h : s.Fit) : (takeN s).w.length ≤ 100000 ∧ (takeN s).b.length ≤ 100000 := by
  unfold takeN
  repeat' split
  all_goals (first | unfold tn_1 | unfold tn_2 | unfold tn_3 | unfold tn_4 | unfold tn_6 | unfold tn_7 | unfold tn_8 | unfold tn_9)
  all_goals (constructor <;> first | exact Nat.zero_le _ | (apply lstW_le; repeat first | exact h | apply cnt_fit | apply sml_fit | apply lst_fit | apply scl_fit) | (apply lstB_le; repeat first | exact h | apply cnt_fit | apply sml_fit | apply lst_fit | apply scl_fit))
theorem takeN_kd {s : Rst} (h : s.In) : In64 (takeN s).kd := by
  have q := cntV_rng (m := 9) h (by decide)
  have e : (takeN s).kd = cntV s 9 := by
    unfold takeN
    repeat' split
    all_goals rfl
  rw [e]; exact ⟨by omega, by omega⟩
theorem take_b (s : Rst) (h : s.Fit) (hb : (takeS s).2 ≠ 0) : VM Try.prog 40 ([.ptr 100000 0 0]) ([(100000, .var (rdC s))]) (.tup [.agg [i64 0, i64 0, i64 0, i64 0, i64 0, i64 0, i64 0, i8 0, i8 0, .sl 1 [], .sl 1 [], i32 0, i64 0, i8 0, i32 0, i64 0, i8 0, i8 0, i8 0], i64 (takeS s).2]) ([(100000, .var (rdC (takeS s)))]) := by
  have hi := h.i
  have q := takeS_fit h
  have oz1 := @VM.pre _ _ ([AV.ifc 169 (AV.agg [AV.ptr 100000 0 0]), AV.ptr 100001 0 0]) _ ([(100000, Blk.var [AV.sl 1 (List.map (row1 IntKind.u8) s.fst), i64 s.snd]), (100001, Blk.var [i64 0, i64 0, i64 0, i64 0, i64 0, i64 0, i64 0, i8 0, i8 0, AV.lit (Value.slice none 0 0), AV.lit (Value.slice none 0 0), i32 0, i64 0, i8 0, i32 0, i64 0, i8 0, i8 0, i8 0])]) _ _ _ ([GI.blk 100001 (Blk.var [i64 0, i64 0, i64 0, i64 0, i64 0, i64 0, i64 0, i8 0, i8 0, AV.sl 1 [], AV.sl 1 [], i32 0, i64 0, i8 0, i32 0, i64 0, i8 0, i8 0, i8 0]), GI.sort]) _ (@twalk_v (s) hi) (by kernel_rfl) (.c (BlkW.var (m := [i64 0, i64 0, i64 0, i64 0, i64 0, i64 0, i64 0, i8 0, i8 0, AV.sl 1 [], AV.sl 1 [], i32 0, i64 0, i8 0, i32 0, i64 0, i8 0, i8 0, i8 0]) (.cons (.refl _) (.cons (.refl _) (.cons (.refl _) (.cons (.refl _) (.cons (.refl _) (.cons (.refl _) (.cons (.refl _) (.cons (.refl _) (.cons (.refl _) (.cons (Weak.nil _) (.cons (Weak.nil _) (.cons (.refl _) (.cons (.refl _) (.cons (.refl _) (.cons (.refl _) (.cons (.refl _) (.cons (.refl _) (.cons (.refl _) (.cons (.refl _) .nil)))))))))))))))))))) <| .n)
  have oz2 := @bad_v (takeS s) (by (exact q.e))
  exact VM.run (fn := Try.f40) (W := [.r [] [], .r [] [], .br false, .r [] [], .r [] [.callm [(100000, 100000), (5, 100001)] [] (rM oz1) (oM oz1)], .r [] [.callm [(100000, 100000)] [] (rM oz2) (oM oz2)], .r [] [], .br true, .r [] []]) (G := [.drop [2, 4, 5], .weak 0 (AV.tup [AV.agg [i64 0, i64 0, i64 0, i64 0, i64 0, i64 0, i64 0, i8 0, i8 0, AV.sl 1 [], AV.sl 1 [], i32 0, i64 0, i8 0, i32 0, i64 0, i8 0, i8 0, i8 0], i64 (takeS s).snd]), .sort]) Try.func40 (by kernel_rfl) (.c (show false = false by with_reducible rfl) <| .c oz1 <| .c oz2 <| .c (show ((takeS s).snd != 0) = true by (simp; omega)) <| .c (show Weak (AV.tup [AV.agg [i64 0, i64 0, i64 0, i64 0, i64 0, i64 0, i64 0, i8 0, i8 0, AV.lit (Value.slice none 0 0), AV.lit (Value.slice none 0 0), i32 0, i64 0, i8 0, i32 0, i64 0, i8 0, i8 0, i8 0], i64 (takeS s).snd]) (AV.tup [AV.agg [i64 0, i64 0, i64 0, i64 0, i64 0, i64 0, i64 0, i8 0, i8 0, AV.sl 1 [], AV.sl 1 [], i32 0, i64 0, i8 0, i32 0, i64 0, i8 0, i8 0, i8 0], i64 (takeS s).snd]) from (Weak.tup (.cons (Weak.agg (.cons (.refl _) (.cons (.refl _) (.cons (.refl _) (.cons (.refl _) (.cons (.refl _) (.cons (.refl _) (.cons (.refl _) (.cons (.refl _) (.cons (.refl _) (.cons (Weak.nil _) (.cons (Weak.nil _) (.cons (.refl _) (.cons (.refl _) (.cons (.refl _) (.cons (.refl _) (.cons (.refl _) (.cons (.refl _) (.cons (.refl _) (.cons (.refl _) .nil)))))))))))))))))))) (.cons (.refl _) .nil)))) <| .n)
theorem take_c (s : Rst) (h : s.Fit) (hb : (takeS s).2 = 0) (hc : checkE (takeN s) ≠ 0) : VM Try.prog 40 ([.ptr 100000 0 0]) ([(100000, .var (rdC s))]) (.tup [.agg [i64 0, i64 0, i64 0, i64 0, i64 0, i64 0, i64 0, i8 0, i8 0, .sl 1 [], .sl 1 [], i32 0, i64 0, i8 0, i32 0, i64 0, i8 0, i8 0, i8 0], i64 (checkE (takeN s))]) ([(100000, .var (rdC (takeS s)))]) := by
  have hi := h.i
  have q := takeS_fit h
  obtain ⟨q1, q2⟩ := takeN_le h
  have q3 := takeN_kd hi
  have oz1 := @VM.pre _ _ ([AV.ifc 169 (AV.agg [AV.ptr 100000 0 0]), AV.ptr 100001 0 0]) _ ([(100000, Blk.var [AV.sl 1 (List.map (row1 IntKind.u8) s.fst), i64 s.snd]), (100001, Blk.var [i64 0, i64 0, i64 0, i64 0, i64 0, i64 0, i64 0, i8 0, i8 0, AV.lit (Value.slice none 0 0), AV.lit (Value.slice none 0 0), i32 0, i64 0, i8 0, i32 0, i64 0, i8 0, i8 0, i8 0])]) _ _ _ ([GI.blk 100001 (Blk.var [i64 0, i64 0, i64 0, i64 0, i64 0, i64 0, i64 0, i8 0, i8 0, AV.sl 1 [], AV.sl 1 [], i32 0, i64 0, i8 0, i32 0, i64 0, i8 0, i8 0, i8 0]), GI.sort]) _ (@twalk_v (s) hi) (by kernel_rfl) (.c (BlkW.var (m := [i64 0, i64 0, i64 0, i64 0, i64 0, i64 0, i64 0, i8 0, i8 0, AV.sl 1 [], AV.sl 1 [], i32 0, i64 0, i8 0, i32 0, i64 0, i8 0, i8 0, i8 0]) (.cons (.refl _) (.cons (.refl _) (.cons (.refl _) (.cons (.refl _) (.cons (.refl _) (.cons (.refl _) (.cons (.refl _) (.cons (.refl _) (.cons (.refl _) (.cons (Weak.nil _) (.cons (Weak.nil _) (.cons (.refl _) (.cons (.refl _) (.cons (.refl _) (.cons (.refl _) (.cons (.refl _) (.cons (.refl _) (.cons (.refl _) (.cons (.refl _) .nil)))))))))))))))))))) <| .n)
  have oz2 := @bad_v (takeS s) (by omega)
  have oz4 := @check_v (takeN s) q1 q2 q3
  exact VM.run (fn := Try.f40) (W := [.r [] [], .r [] [], .br false, .r [] [], .r [] [.callm [(100000, 100000), (5, 100001)] [] (rM oz1) (oM oz1)], .r [] [.callm [(100000, 100000)] [] (rM oz2) (oM oz2)], .r [] [], .br false, .r [] [.callr (rO oz4)], .r [] [], .br true, .r [] []]) (G := [.drop [2, 4, 5], .weak 0 (AV.tup [AV.agg [i64 0, i64 0, i64 0, i64 0, i64 0, i64 0, i64 0, i8 0, i8 0, AV.sl 1 [], AV.sl 1 [], i32 0, i64 0, i8 0, i32 0, i64 0, i8 0, i8 0, i8 0], i64 (checkE (takeN s))]), .sort]) Try.func40 (by kernel_rfl) (.c (show false = false by with_reducible rfl) <| .c oz1 <| .c oz2 <| .c (show ((takeS s).snd != 0) = false by (simp; omega)) <| .c oz4 <| .c (show (checkE (takeN s) != 0) = true by (simp; omega)) <| .c (show Weak (AV.tup [AV.agg [i64 0, i64 0, i64 0, i64 0, i64 0, i64 0, i64 0, i8 0, i8 0, AV.lit (Value.slice none 0 0), AV.lit (Value.slice none 0 0), i32 0, i64 0, i8 0, i32 0, i64 0, i8 0, i8 0, i8 0], i64 (checkE (takeN s))]) (AV.tup [AV.agg [i64 0, i64 0, i64 0, i64 0, i64 0, i64 0, i64 0, i8 0, i8 0, AV.sl 1 [], AV.sl 1 [], i32 0, i64 0, i8 0, i32 0, i64 0, i8 0, i8 0, i8 0], i64 (checkE (takeN s))]) from (Weak.tup (.cons (Weak.agg (.cons (.refl _) (.cons (.refl _) (.cons (.refl _) (.cons (.refl _) (.cons (.refl _) (.cons (.refl _) (.cons (.refl _) (.cons (.refl _) (.cons (.refl _) (.cons (Weak.nil _) (.cons (Weak.nil _) (.cons (.refl _) (.cons (.refl _) (.cons (.refl _) (.cons (.refl _) (.cons (.refl _) (.cons (.refl _) (.cons (.refl _) (.cons (.refl _) .nil)))))))))))))))))))) (.cons (.refl _) .nil)))) <| .n)
theorem take_y (s : Rst) (h : s.Fit) (hb : (takeS s).2 = 0) (hc : checkE (takeN s) = 0) : VM Try.prog 40 ([.ptr 100000 0 0]) ([(100000, .var (rdC s))]) (.tup [nod (takeN s), i64 0]) ([(100000, .var (rdC (takeS s)))]) := by
  have hi := h.i
  have q := takeS_fit h
  obtain ⟨q1, q2⟩ := takeN_le h
  have q3 := takeN_kd hi
  have oz1 := @VM.pre _ _ ([AV.ifc 169 (AV.agg [AV.ptr 100000 0 0]), AV.ptr 100001 0 0]) _ ([(100000, Blk.var [AV.sl 1 (List.map (row1 IntKind.u8) s.fst), i64 s.snd]), (100001, Blk.var [i64 0, i64 0, i64 0, i64 0, i64 0, i64 0, i64 0, i8 0, i8 0, AV.lit (Value.slice none 0 0), AV.lit (Value.slice none 0 0), i32 0, i64 0, i8 0, i32 0, i64 0, i8 0, i8 0, i8 0])]) _ _ _ ([GI.blk 100001 (Blk.var [i64 0, i64 0, i64 0, i64 0, i64 0, i64 0, i64 0, i8 0, i8 0, AV.sl 1 [], AV.sl 1 [], i32 0, i64 0, i8 0, i32 0, i64 0, i8 0, i8 0, i8 0]), GI.sort]) _ (@twalk_v (s) hi) (by kernel_rfl) (.c (BlkW.var (m := [i64 0, i64 0, i64 0, i64 0, i64 0, i64 0, i64 0, i8 0, i8 0, AV.sl 1 [], AV.sl 1 [], i32 0, i64 0, i8 0, i32 0, i64 0, i8 0, i8 0, i8 0]) (.cons (.refl _) (.cons (.refl _) (.cons (.refl _) (.cons (.refl _) (.cons (.refl _) (.cons (.refl _) (.cons (.refl _) (.cons (.refl _) (.cons (.refl _) (.cons (Weak.nil _) (.cons (Weak.nil _) (.cons (.refl _) (.cons (.refl _) (.cons (.refl _) (.cons (.refl _) (.cons (.refl _) (.cons (.refl _) (.cons (.refl _) (.cons (.refl _) .nil)))))))))))))))))))) <| .n)
  have oz2 := @bad_v (takeS s) (by omega)
  have oz4 := @check_v (takeN s) q1 q2 q3
  exact VM.run (fn := Try.f40) (W := [.r [] [], .r [] [], .br false, .r [] [], .r [] [.callm [(100000, 100000), (5, 100001)] [] (rM oz1) (oM oz1)], .r [] [.callm [(100000, 100000)] [] (rM oz2) (oM oz2)], .r [] [], .br false, .r [] [.callr (rO oz4)], .r [] [], .br false, .r [] []]) (G := [.drop [2, 4, 5], .sort]) Try.func40 (by kernel_rfl) (.c (show false = false by with_reducible rfl) <| .c oz1 <| .c oz2 <| .c (show ((takeS s).snd != 0) = false by (simp; omega)) <| .c oz4 <| .c (show (checkE (takeN s) != 0) = false by (simp; omega)) <| .n)
def takeR (s : Rst) : Nod × Int := if (takeS s).2 ≠ 0 then (nod0, (takeS s).2) else if checkE (takeN s) ≠ 0 then (nod0, checkE (takeN s)) else (takeN s, 0)
theorem take_v (s : Rst) (h : s.Fit) : VM Try.prog 40 [.ptr 100000 0 0] [(100000, .var (rdC s))] (.tup [nod (takeR s).1, i64 (takeR s).2]) [(100000, .var (rdC (takeS s)))] := by
  by_cases hb : (takeS s).2 = 0
  · by_cases hc : checkE (takeN s) = 0
    · rw [show takeR s = (takeN s, 0) from by unfold takeR; rw [if_neg (by simpa using hb), if_neg (by simpa using hc)]]
      exact take_y s h hb hc
    · rw [show takeR s = (nod0, checkE (takeN s)) from by unfold takeR; rw [if_neg (by simpa using hb), if_pos hc]]
      exact take_c s h hb hc
  · rw [show takeR s = (nod0, (takeS s).2) from by unfold takeR; rw [if_pos hb]]
    exact take_b s h hb
theorem take_nil   : VC Try.prog 40 ([.lit (.pointer none)]) (.tup [.agg [i64 0, i64 0, i64 0, i64 0, i64 0, i64 0, i64 0, i8 0, i8 0, .sl 1 [], .sl 1 [], i32 0, i64 0, i8 0, i32 0, i64 0, i8 0, i8 0, i8 0], i64 1]) := by
  exact (VC.run (fn := Try.f40) (W := [.r [] [], .r [] [], .br true, .r [] []]) (r := AV.tup [AV.agg [i64 0, i64 0, i64 0, i64 0, i64 0, i64 0, i64 0, i8 0, i8 0, AV.lit (Value.slice none 0 0), AV.lit (Value.slice none 0 0), i32 0, i64 0, i8 0, i32 0, i64 0, i8 0, i8 0, i8 0], i64 1]) Try.func40 (by kernel_rfl) (.c (show true = true by with_reducible rfl) <| .n)).weak (WeakL.refl _) (Weak.tup (.cons (Weak.agg (.cons (.refl _) (.cons (.refl _) (.cons (.refl _) (.cons (.refl _) (.cons (.refl _) (.cons (.refl _) (.cons (.refl _) (.cons (.refl _) (.cons (.refl _) (.cons (Weak.nil _) (.cons (Weak.nil _) (.cons (.refl _) (.cons (.refl _) (.cons (.refl _) (.cons (.refl _) (.cons (.refl _) (.cons (.refl _) (.cons (.refl _) (.cons (.refl _) .nil)))))))))))))))))))) (.cons (.refl _) .nil)))
end Go.Proofs.Ytgecmooedhnenaa
/- Nodes go there and back. (Plain.) No condition. -/
namespace Go.Proofs.Ytgecmooedhnenaa
open Go.RowKit
set_option linter.unusedSimpArgs false
set_option linter.unusedVariables false
set_option linter.unnecessarySimpa false
theorem scl_ok {s : Rst} (h : (sclS s).2 = 0) : s.2 = 0 := cnt_ok (cnt_ok h)
theorem lst_len {s : Rst} (h : s.In) (hs : (lstS s).2 = 0) : (lstW s).length ≤ 16384 ∧ (lstB s).length ≤ 16384 := by
  have i1 := cnt_in h 16384
  have i2 : (lst1 s).In := sml_in i1 _
  have i3 := cnt_in i2 16384
  have h3 : (cntS (lst1 s) 16384).2 = 0 := wid_ok hs
  have h2 : (lst1 s).2 = 0 := cnt_ok h3
  have r1 := cntV_rng (m := 16384) h (by decide)
  have r2 := cntV_rng (m := 16384) i2 (by decide)
  have a := (sml_back i1 h2 r1.1).2
  have b := (wid_back i3 hs r2.1).2
  exact ⟨by unfold lstW; omega, by unfold lstB; omega⟩
theorem six_1 (s : Rst) (h : s.In) : (six (tn_1 s nod0)).all okI = true := by
  have r_na := cntV_rng (m := 1024) (show (cntS s 9).In from cnt_in h _) (by decide)
  have r_nk := cntV_rng (m := 1024) (show (cntS (cntS s 9) 1024).In from cnt_in (cnt_in h _) _) (by decide)
  have r_ns := cntV_rng (m := 1024) (show (cntS (cntS (cntS s 9) 1024) 1024).In from cnt_in (cnt_in (cnt_in h _) _) _) (by decide)
  have r_np := cntV_rng (m := 1024) (show (cntS (cntS (cntS (cntS s 9) 1024) 1024) 1024).In from cnt_in (cnt_in (cnt_in (cnt_in h _) _) _) _) (by decide)
  have r_no := cntV_rng (m := 1024) (show (cntS (cntS (cntS (cntS (cntS s 9) 1024) 1024) 1024) 1024).In from cnt_in (cnt_in (cnt_in (cnt_in (cnt_in h _) _) _) _) _) (by decide)
  simp only [six, tn_1, nod0, okI, List.all_cons, List.all_nil, Bool.and_eq_true, decide_eq_true_eq]
  refine ⟨⟨?_, ?_⟩, ⟨?_, ?_⟩, ⟨?_, ?_⟩, ⟨?_, ?_⟩, ⟨?_, ?_⟩, ⟨?_, ?_⟩, trivial⟩ <;> omega
theorem len_1 (s : Rst) (h : s.In) (hs : (ts_1 s).2 = 0) : (tn_1 s nod0).w.length ≤ 16384 ∧ (tn_1 s nod0).b.length ≤ 16384 := lst_len (s := (smlS (cntS (cntS (cntS (cntS (cntS (cntS s 9) 1024) 1024) 1024) 1024) 1024) 1)) (sml_in (cnt_in (cnt_in (cnt_in (cnt_in (cnt_in (cnt_in h _) _) _) _) _) _) _) (scl_ok (sml_ok (sml_ok (sml_ok hs))))
theorem six_2 (s : Rst) (h : s.In) : (six (tn_2 s nod0)).all okI = true := by
  have r_na := cntV_rng (m := 1024) (show (cntS s 9).In from cnt_in h _) (by decide)
  have r_nk := cntV_rng (m := 1024) (show (cntS (cntS s 9) 1024).In from cnt_in (cnt_in h _) _) (by decide)
  have r_ns := cntV_rng (m := 1024) (show (cntS (cntS (cntS s 9) 1024) 1024).In from cnt_in (cnt_in (cnt_in h _) _) _) (by decide)
  have r_np := cntV_rng (m := 1024) (show (cntS (cntS (cntS (cntS s 9) 1024) 1024) 1024).In from cnt_in (cnt_in (cnt_in (cnt_in h _) _) _) _) (by decide)
  simp only [six, tn_2, nod0, okI, List.all_cons, List.all_nil, Bool.and_eq_true, decide_eq_true_eq]
  refine ⟨⟨?_, ?_⟩, ⟨?_, ?_⟩, ⟨?_, ?_⟩, ⟨?_, ?_⟩, ⟨?_, ?_⟩, ⟨?_, ?_⟩, trivial⟩ <;> omega
theorem len_2 (s : Rst) (h : s.In) (hs : (ts_2 s).2 = 0) : (tn_2 s nod0).w.length ≤ 16384 ∧ (tn_2 s nod0).b.length ≤ 16384 := lst_len (s := (smlS (cntS (cntS (cntS (cntS (cntS s 9) 1024) 1024) 1024) 1024) 1)) (sml_in (cnt_in (cnt_in (cnt_in (cnt_in (cnt_in h _) _) _) _) _) _) (scl_ok (sml_ok (sml_ok (sml_ok hs))))
theorem six_3 (s : Rst) (h : s.In) : (six (tn_3 s nod0)).all okI = true := by
  have r_na := cntV_rng (m := 1024) (show (cntS s 9).In from cnt_in h _) (by decide)
  have r_no := cntV_rng (m := 1024) (show (cntS (cntS s 9) 1024).In from cnt_in (cnt_in h _) _) (by decide)
  simp only [six, tn_3, nod0, okI, List.all_cons, List.all_nil, Bool.and_eq_true, decide_eq_true_eq]
  refine ⟨⟨?_, ?_⟩, ⟨?_, ?_⟩, ⟨?_, ?_⟩, ⟨?_, ?_⟩, ⟨?_, ?_⟩, ⟨?_, ?_⟩, trivial⟩ <;> omega
theorem len_3 (s : Rst) (h : s.In) (hs : (ts_3 s).2 = 0) : (tn_3 s nod0).w.length ≤ 16384 ∧ (tn_3 s nod0).b.length ≤ 16384 := lst_len (s := (smlS (cntS (cntS (cntS s 9) 1024) 1024) 1)) (sml_in (cnt_in (cnt_in (cnt_in h _) _) _) _) (scl_ok (sml_ok (sml_ok (sml_ok hs))))
theorem six_4 (s : Rst) (h : s.In) : (six (tn_4 s nod0)).all okI = true := by
  have r_na := cntV_rng (m := 1024) (show (cntS s 9).In from cnt_in h _) (by decide)
  have r_nk := cntV_rng (m := 1024) (show (cntS (cntS s 9) 1024).In from cnt_in (cnt_in h _) _) (by decide)
  have r_ns := cntV_rng (m := 1024) (show (cntS (cntS (cntS s 9) 1024) 1024).In from cnt_in (cnt_in (cnt_in h _) _) _) (by decide)
  have r_np := cntV_rng (m := 1024) (show (cntS (cntS (cntS (cntS s 9) 1024) 1024) 1024).In from cnt_in (cnt_in (cnt_in (cnt_in h _) _) _) _) (by decide)
  simp only [six, tn_4, nod0, okI, List.all_cons, List.all_nil, Bool.and_eq_true, decide_eq_true_eq]
  refine ⟨⟨?_, ?_⟩, ⟨?_, ?_⟩, ⟨?_, ?_⟩, ⟨?_, ?_⟩, ⟨?_, ?_⟩, ⟨?_, ?_⟩, trivial⟩ <;> omega
theorem len_4 (s : Rst) (h : s.In) (hs : (ts_4 s).2 = 0) : (tn_4 s nod0).w.length ≤ 16384 ∧ (tn_4 s nod0).b.length ≤ 16384 := ⟨Nat.zero_le _, Nat.zero_le _⟩
theorem six_6 (s : Rst) (h : s.In) : (six (tn_6 s nod0)).all okI = true := by
  have r_na := cntV_rng (m := 1024) (show (cntS s 9).In from cnt_in h _) (by decide)
  have r_nb := cntV_rng (m := 1024) (show (cntS (cntS s 9) 1024).In from cnt_in (cnt_in h _) _) (by decide)
  simp only [six, tn_6, nod0, okI, List.all_cons, List.all_nil, Bool.and_eq_true, decide_eq_true_eq]
  refine ⟨⟨?_, ?_⟩, ⟨?_, ?_⟩, ⟨?_, ?_⟩, ⟨?_, ?_⟩, ⟨?_, ?_⟩, ⟨?_, ?_⟩, trivial⟩ <;> omega
theorem len_6 (s : Rst) (h : s.In) (hs : (ts_6 s).2 = 0) : (tn_6 s nod0).w.length ≤ 16384 ∧ (tn_6 s nod0).b.length ≤ 16384 := ⟨Nat.zero_le _, Nat.zero_le _⟩
theorem six_7 (s : Rst) (h : s.In) : (six (tn_7 s nod0)).all okI = true := by
  have r_na := cntV_rng (m := 1024) (show (cntS s 9).In from cnt_in h _) (by decide)
  simp only [six, tn_7, nod0, okI, List.all_cons, List.all_nil, Bool.and_eq_true, decide_eq_true_eq]
  refine ⟨⟨?_, ?_⟩, ⟨?_, ?_⟩, ⟨?_, ?_⟩, ⟨?_, ?_⟩, ⟨?_, ?_⟩, ⟨?_, ?_⟩, trivial⟩ <;> omega
theorem len_7 (s : Rst) (h : s.In) (hs : (ts_7 s).2 = 0) : (tn_7 s nod0).w.length ≤ 16384 ∧ (tn_7 s nod0).b.length ≤ 16384 := ⟨Nat.zero_le _, Nat.zero_le _⟩
theorem six_8 (s : Rst) (h : s.In) : (six (tn_8 s nod0)).all okI = true := by
  have r_na := cntV_rng (m := 1024) (show (cntS s 9).In from cnt_in h _) (by decide)
  have r_np := cntV_rng (m := 1024) (show (cntS (cntS s 9) 1024).In from cnt_in (cnt_in h _) _) (by decide)
  simp only [six, tn_8, nod0, okI, List.all_cons, List.all_nil, Bool.and_eq_true, decide_eq_true_eq]
  refine ⟨⟨?_, ?_⟩, ⟨?_, ?_⟩, ⟨?_, ?_⟩, ⟨?_, ?_⟩, ⟨?_, ?_⟩, ⟨?_, ?_⟩, trivial⟩ <;> omega
theorem len_8 (s : Rst) (h : s.In) (hs : (ts_8 s).2 = 0) : (tn_8 s nod0).w.length ≤ 16384 ∧ (tn_8 s nod0).b.length ≤ 16384 := ⟨Nat.zero_le _, Nat.zero_le _⟩
theorem six_9 (s : Rst) (h : s.In) : (six (tn_9 s nod0)).all okI = true := by
  have r_na := cntV_rng (m := 1024) (show (cntS s 9).In from cnt_in h _) (by decide)
  simp only [six, tn_9, nod0, okI, List.all_cons, List.all_nil, Bool.and_eq_true, decide_eq_true_eq]
  refine ⟨⟨?_, ?_⟩, ⟨?_, ?_⟩, ⟨?_, ?_⟩, ⟨?_, ?_⟩, ⟨?_, ?_⟩, ⟨?_, ?_⟩, trivial⟩ <;> omega
theorem len_9 (s : Rst) (h : s.In) (hs : (ts_9 s).2 = 0) : (tn_9 s nod0).w.length ≤ 16384 ∧ (tn_9 s nod0).b.length ≤ 16384 := ⟨Nat.zero_le _, Nat.zero_le _⟩
theorem nth_of {n : Nod} (okn : n.Ok) (h : (nodeR n).2 = 0) : NTh n ∧ (nodeR n).1 = nodeL putN n ∧ moreE n = false ∧ 1 ≤ n.kd ∧ n.kd ≤ 9 := by
  unfold nodeR at h ⊢
  by_cases h1 : checkE n ≠ 0
  · rw [if_pos h1] at h; exact absurd h h1
  rw [if_neg h1] at h ⊢
  by_cases h2 : (six n).all okI = false
  · rw [if_pos h2] at h; cases h
  rw [if_neg h2] at h ⊢
  by_cases h3 : 16384 < n.w.length ∨ 16384 < n.b.length
  · rw [if_pos h3] at h; cases h
  rw [if_neg h3]
  have h2 : (six n).all okI = true := by cases q : (six n).all okI with | true => rfl | false => exact absurd q h2
  simp only [six, okI, List.all_cons, List.all_nil, Bool.and_eq_true, decide_eq_true_eq] at h2
  obtain ⟨g1, g2, g3, g4, g5, g6, _⟩ := h2
  have h1 : checkE n = 0 := Classical.not_not.1 h1
  unfold checkE at h1
  by_cases c1 : n.kd < 1 ∨ 9 < n.kd
  · rw [if_pos c1] at h1; cases h1
  rw [if_neg c1] at h1
  by_cases c2 : moreE n = true
  · rw [if_pos c2] at h1; cases h1
  rw [if_neg c2] at h1
  by_cases c3 : (scaledB n.kd && !rightQ n.qm n.qs || n.kd == 6 && !rightQ n.rm n.rs) = true
  · rw [if_pos c3] at h1; cases h1
  have c3 : (scaledB n.kd && !rightQ n.qm n.qs || n.kd == 6 && !rightQ n.rm n.rs) = false := by simpa using c3
  simp only [Bool.or_eq_false_iff, Bool.and_eq_false_iff, Bool.not_eq_false'] at c3
  obtain ⟨c4, c5⟩ := c3
  have hqm := okn.qm
  have hrm := okn.rm
  refine ⟨⟨okn, by omega, g1, g2, g3, g4, g5, g6, by omega, by omega, fun hs => ?_, fun h6 => ?_⟩, rfl, by simpa using c2, by omega, by omega⟩
  · rcases c4 with c4 | c4
    · rw [hs] at c4; cases c4
    · have := rightQ_true c4
      exact ⟨⟨by omega, hqm.2⟩, by omega⟩
  · rcases c5 with c5 | c5
    · rw [h6] at c5; cases c5
    · have := rightQ_true c5
      exact ⟨⟨by omega, hrm.2⟩, by omega⟩
theorem lb_kd (n : Nod) (b : List Int) (h : NTh n) : cntV (nodeL putN n ++ b, 0) 9 = n.kd := by
  have e := cntV_there h.kd (by decide)
  unfold nodeL
  repeat' split
  all_goals (first | unfold lb_1 | unfold lb_2 | unfold lb_3 | unfold lb_4 | unfold lb_6 | unfold lb_7 | unfold lb_8 | unfold lb_9)
  all_goals (simp only [List.append_assoc]; exact e _)
theorem take_thereN {n : Nod} (h : NTh n) (h1 : 1 ≤ n.kd) (b : List Int) : takeS (nodeL putN n ++ b, 0) = (b, 0) ∧ takeN (nodeL putN n ++ b, 0) = plainN n := by
  have e := lb_kd n b h
  have k9 := h.kd
  by_cases k1 : n.kd = 1
  · rw [show takeS (nodeL putN n ++ b, 0) = ts_1 (nodeL putN n ++ b, 0) from by unfold takeS; rw [e, if_pos k1], show takeN (nodeL putN n ++ b, 0) = tn_1 (nodeL putN n ++ b, 0) nod0 from by unfold takeN; rw [e, if_pos k1], show nodeL putN n = lb_1 putN n from by unfold nodeL; rw [if_pos k1], show plainN n = ⟨n.kd, n.na, 0, n.nk, n.ns, n.np, n.no, n.za, 0, n.w, n.b, n.qm, n.qs, n.qz, 0, 0, 0, n.lo, n.hi⟩ from by unfold plainN; rw [if_pos k1]]
    exact there_1 n h k1 b
  by_cases k2 : n.kd = 2
  · rw [show takeS (nodeL putN n ++ b, 0) = ts_2 (nodeL putN n ++ b, 0) from by unfold takeS; rw [e, if_neg (by omega), if_pos k2], show takeN (nodeL putN n ++ b, 0) = tn_2 (nodeL putN n ++ b, 0) nod0 from by unfold takeN; rw [e, if_neg (by omega), if_pos k2], show nodeL putN n = lb_2 putN n from by unfold nodeL; rw [if_neg (by omega), if_pos k2], show plainN n = ⟨n.kd, n.na, 0, n.nk, n.ns, n.np, 0, n.za, 0, n.w, n.b, n.qm, n.qs, n.qz, 0, 0, 0, n.lo, n.hi⟩ from by unfold plainN; rw [if_neg (by omega), if_pos k2]]
    exact there_2 n h k2 b
  by_cases k3 : n.kd = 3
  · rw [show takeS (nodeL putN n ++ b, 0) = ts_3 (nodeL putN n ++ b, 0) from by unfold takeS; rw [e, if_neg (by omega), if_neg (by omega), if_pos k3], show takeN (nodeL putN n ++ b, 0) = tn_3 (nodeL putN n ++ b, 0) nod0 from by unfold takeN; rw [e, if_neg (by omega), if_neg (by omega), if_pos k3], show nodeL putN n = lb_3 putN n from by unfold nodeL; rw [if_neg (by omega), if_neg (by omega), if_pos k3], show plainN n = ⟨n.kd, n.na, 0, 0, 0, 0, n.no, n.za, 0, n.w, n.b, n.qm, n.qs, n.qz, 0, 0, 0, n.lo, n.hi⟩ from by unfold plainN; rw [if_neg (by omega), if_neg (by omega), if_pos k3]]
    exact there_3 n h k3 b
  by_cases k4 : n.kd = 4 ∨ n.kd = 5
  · rcases id k4 with hk | hk
    · rw [show takeS (nodeL putN n ++ b, 0) = ts_4 (nodeL putN n ++ b, 0) from by unfold takeS; rw [e, if_neg (by omega), if_neg (by omega), if_neg (by omega), if_pos k4], show takeN (nodeL putN n ++ b, 0) = tn_4 (nodeL putN n ++ b, 0) nod0 from by unfold takeN; rw [e, if_neg (by omega), if_neg (by omega), if_neg (by omega), if_pos k4], show nodeL putN n = lb_4 putN n from by unfold nodeL; rw [if_neg (by omega), if_neg (by omega), if_neg (by omega), if_pos k4], show plainN n = ⟨n.kd, n.na, 0, n.nk, n.ns, n.np, 0, 0, 0, [], [], 0, 0, 0, 0, 0, 0, 0, 0⟩ from by unfold plainN; rw [if_neg (by omega), if_neg (by omega), if_neg (by omega), if_pos hk]]
      exact there_4 n h k4 b
    · rw [show takeS (nodeL putN n ++ b, 0) = ts_4 (nodeL putN n ++ b, 0) from by unfold takeS; rw [e, if_neg (by omega), if_neg (by omega), if_neg (by omega), if_pos k4], show takeN (nodeL putN n ++ b, 0) = tn_4 (nodeL putN n ++ b, 0) nod0 from by unfold takeN; rw [e, if_neg (by omega), if_neg (by omega), if_neg (by omega), if_pos k4], show nodeL putN n = lb_4 putN n from by unfold nodeL; rw [if_neg (by omega), if_neg (by omega), if_neg (by omega), if_pos k4], show plainN n = ⟨n.kd, n.na, 0, n.nk, n.ns, n.np, 0, 0, 0, [], [], 0, 0, 0, 0, 0, 0, 0, 0⟩ from by unfold plainN; rw [if_neg (by omega), if_neg (by omega), if_neg (by omega), if_neg (by omega), if_pos hk]]
      exact there_4 n h k4 b
  by_cases k6 : n.kd = 6
  · rw [show takeS (nodeL putN n ++ b, 0) = ts_6 (nodeL putN n ++ b, 0) from by unfold takeS; rw [e, if_neg (by omega), if_neg (by omega), if_neg (by omega), if_neg (by omega), if_pos k6], show takeN (nodeL putN n ++ b, 0) = tn_6 (nodeL putN n ++ b, 0) nod0 from by unfold takeN; rw [e, if_neg (by omega), if_neg (by omega), if_neg (by omega), if_neg (by omega), if_pos k6], show nodeL putN n = lb_6 putN n from by unfold nodeL; rw [if_neg (by omega), if_neg (by omega), if_neg (by omega), if_neg (by omega), if_pos k6], show plainN n = ⟨n.kd, n.na, n.nb, 0, 0, 0, 0, n.za, n.zb, [], [], n.qm, n.qs, n.qz, n.rm, n.rs, 0, n.lo, n.hi⟩ from by unfold plainN; rw [if_neg (by omega), if_neg (by omega), if_neg (by omega), if_neg (by omega), if_neg (by omega), if_pos k6]]
    exact there_6 n h k6 b
  by_cases k7 : n.kd = 7
  · rw [show takeS (nodeL putN n ++ b, 0) = ts_7 (nodeL putN n ++ b, 0) from by unfold takeS; rw [e, if_neg (by omega), if_neg (by omega), if_neg (by omega), if_neg (by omega), if_neg (by omega), if_pos k7], show takeN (nodeL putN n ++ b, 0) = tn_7 (nodeL putN n ++ b, 0) nod0 from by unfold takeN; rw [e, if_neg (by omega), if_neg (by omega), if_neg (by omega), if_neg (by omega), if_neg (by omega), if_pos k7], show nodeL putN n = lb_7 putN n from by unfold nodeL; rw [if_neg (by omega), if_neg (by omega), if_neg (by omega), if_neg (by omega), if_neg (by omega), if_pos k7], show plainN n = ⟨n.kd, n.na, 0, 0, 0, 0, 0, n.za, 0, [], [], n.qm, n.qs, n.qz, 0, 0, 0, n.lo, n.hi⟩ from by unfold plainN; rw [if_neg (by omega), if_neg (by omega), if_neg (by omega), if_neg (by omega), if_neg (by omega), if_neg (by omega), if_pos k7]]
    exact there_7 n h k7 b
  by_cases k8 : n.kd = 8
  · rw [show takeS (nodeL putN n ++ b, 0) = ts_8 (nodeL putN n ++ b, 0) from by unfold takeS; rw [e, if_neg (by omega), if_neg (by omega), if_neg (by omega), if_neg (by omega), if_neg (by omega), if_neg (by omega), if_pos k8], show takeN (nodeL putN n ++ b, 0) = tn_8 (nodeL putN n ++ b, 0) nod0 from by unfold takeN; rw [e, if_neg (by omega), if_neg (by omega), if_neg (by omega), if_neg (by omega), if_neg (by omega), if_neg (by omega), if_pos k8], show nodeL putN n = lb_8 putN n from by unfold nodeL; rw [if_neg (by omega), if_neg (by omega), if_neg (by omega), if_neg (by omega), if_neg (by omega), if_neg (by omega), if_pos k8], show plainN n = ⟨n.kd, n.na, 0, 0, 0, n.np, 0, n.za, 0, [], [], 0, 0, 0, 0, 0, 0, 0, 0⟩ from by unfold plainN; rw [if_neg (by omega), if_neg (by omega), if_neg (by omega), if_neg (by omega), if_neg (by omega), if_neg (by omega), if_neg (by omega), if_pos k8]]
    exact there_8 n h k8 b
  rw [show takeS (nodeL putN n ++ b, 0) = ts_9 (nodeL putN n ++ b, 0) from by unfold takeS; rw [e, if_neg (by omega), if_neg (by omega), if_neg (by omega), if_neg (by omega), if_neg (by omega), if_neg (by omega), if_neg (by omega)], show takeN (nodeL putN n ++ b, 0) = tn_9 (nodeL putN n ++ b, 0) nod0 from by unfold takeN; rw [e, if_neg (by omega), if_neg (by omega), if_neg (by omega), if_neg (by omega), if_neg (by omega), if_neg (by omega), if_neg (by omega)], show nodeL putN n = lb_9 putN n from by unfold nodeL; rw [if_neg (by omega), if_neg (by omega), if_neg (by omega), if_neg (by omega), if_neg (by omega), if_neg (by omega), if_neg (by omega)], show plainN n = ⟨n.kd, n.na, 0, 0, 0, 0, 0, 0, 0, [], [], 0, 0, 0, 0, 0, 0, 0, 0⟩ from by unfold plainN; rw [if_neg (by omega), if_neg (by omega), if_neg (by omega), if_neg (by omega), if_neg (by omega), if_neg (by omega), if_neg (by omega), if_neg (by omega)]]
  exact there_9 n h (by omega) b
theorem plain_eq {n : Nod} (h0 : 1 ≤ n.kd) (h9 : n.kd ≤ 9) (h : moreE n = false) : plainN n = n := (nodEq_iff _ _).1 (plain_same h0 h9 h)
theorem nodeR_chk {n : Nod} (h : (nodeR n).2 = 0) : checkE n = 0 := by
  unfold nodeR at h
  by_cases h1 : checkE n ≠ 0
  · rw [if_pos h1] at h; exact absurd h h1
  · exact Classical.not_not.1 h1
theorem take_there {n : Nod} (okn : n.Ok) (h : (nodeR n).2 = 0) (b : List Int) : takeS ((nodeR n).1 ++ b, 0) = (b, 0) ∧ takeR ((nodeR n).1 ++ b, 0) = (n, 0) := by
  obtain ⟨hn, e, hm, h1, h9⟩ := nth_of okn h
  have hc := nodeR_chk h
  obtain ⟨a1, a2⟩ := take_thereN hn h1 b
  rw [plain_eq h1 h9 hm] at a2
  rw [e]
  refine ⟨a1, ?_⟩
  unfold takeR
  rw [a1, a2, if_neg (by simp), if_neg (by simpa using hc)]
theorem takeN_six (s : Rst) (h : s.In) : (six (takeN s)).all okI = true := by
  unfold takeN
  repeat' split
  all_goals (first | exact six_1 s h | exact six_2 s h | exact six_3 s h | exact six_4 s h | exact six_6 s h | exact six_7 s h | exact six_8 s h | exact six_9 s h)
theorem takeN_len (s : Rst) (h : s.In) (hs : (takeS s).2 = 0) : (takeN s).w.length ≤ 16384 ∧ (takeN s).b.length ≤ 16384 := by
  by_cases k1 : cntV s 9 = 1
  · rw [show takeS s = ts_1 s from by unfold takeS; rw [if_pos k1]] at hs; rw [show takeN s = tn_1 s nod0 from by unfold takeN; rw [if_pos k1]]
    exact len_1 s h hs
  by_cases k2 : cntV s 9 = 2
  · rw [show takeS s = ts_2 s from by unfold takeS; rw [if_neg (by omega), if_pos k2]] at hs; rw [show takeN s = tn_2 s nod0 from by unfold takeN; rw [if_neg (by omega), if_pos k2]]
    exact len_2 s h hs
  by_cases k3 : cntV s 9 = 3
  · rw [show takeS s = ts_3 s from by unfold takeS; rw [if_neg (by omega), if_neg (by omega), if_pos k3]] at hs; rw [show takeN s = tn_3 s nod0 from by unfold takeN; rw [if_neg (by omega), if_neg (by omega), if_pos k3]]
    exact len_3 s h hs
  by_cases k4 : cntV s 9 = 4 ∨ cntV s 9 = 5
  · rw [show takeS s = ts_4 s from by unfold takeS; rw [if_neg (by omega), if_neg (by omega), if_neg (by omega), if_pos k4]] at hs; rw [show takeN s = tn_4 s nod0 from by unfold takeN; rw [if_neg (by omega), if_neg (by omega), if_neg (by omega), if_pos k4]]
    exact len_4 s h hs
  by_cases k6 : cntV s 9 = 6
  · rw [show takeS s = ts_6 s from by unfold takeS; rw [if_neg (by omega), if_neg (by omega), if_neg (by omega), if_neg (by omega), if_pos k6]] at hs; rw [show takeN s = tn_6 s nod0 from by unfold takeN; rw [if_neg (by omega), if_neg (by omega), if_neg (by omega), if_neg (by omega), if_pos k6]]
    exact len_6 s h hs
  by_cases k7 : cntV s 9 = 7
  · rw [show takeS s = ts_7 s from by unfold takeS; rw [if_neg (by omega), if_neg (by omega), if_neg (by omega), if_neg (by omega), if_neg (by omega), if_pos k7]] at hs; rw [show takeN s = tn_7 s nod0 from by unfold takeN; rw [if_neg (by omega), if_neg (by omega), if_neg (by omega), if_neg (by omega), if_neg (by omega), if_pos k7]]
    exact len_7 s h hs
  by_cases k8 : cntV s 9 = 8
  · rw [show takeS s = ts_8 s from by unfold takeS; rw [if_neg (by omega), if_neg (by omega), if_neg (by omega), if_neg (by omega), if_neg (by omega), if_neg (by omega), if_pos k8]] at hs; rw [show takeN s = tn_8 s nod0 from by unfold takeN; rw [if_neg (by omega), if_neg (by omega), if_neg (by omega), if_neg (by omega), if_neg (by omega), if_neg (by omega), if_pos k8]]
    exact len_8 s h hs
  rw [show takeS s = ts_9 s from by unfold takeS; rw [if_neg (by omega), if_neg (by omega), if_neg (by omega), if_neg (by omega), if_neg (by omega), if_neg (by omega), if_neg (by omega)]] at hs; rw [show takeN s = tn_9 s nod0 from by unfold takeN; rw [if_neg (by omega), if_neg (by omega), if_neg (by omega), if_neg (by omega), if_neg (by omega), if_neg (by omega), if_neg (by omega)]]
  exact len_9 s h hs
theorem take_backN (s : Rst) (h : s.In) (hs : (takeS s).2 = 0) : s.1 = nodeL putN (takeN s) ++ (takeS s).1 := by
  by_cases k1 : cntV s 9 = 1
  · rw [show takeS s = ts_1 s from by unfold takeS; rw [if_pos k1]] at hs ⊢; rw [show takeN s = tn_1 s nod0 from by unfold takeN; rw [if_pos k1]]; have e : (tn_1 s nod0).kd = cntV s 9 := rfl; rw [show nodeL putN (tn_1 s nod0) = lb_1 putN (tn_1 s nod0) from by unfold nodeL; rw [if_pos (by rw [e]; exact k1)]]
    exact back_1 s h hs
  by_cases k2 : cntV s 9 = 2
  · rw [show takeS s = ts_2 s from by unfold takeS; rw [if_neg (by omega), if_pos k2]] at hs ⊢; rw [show takeN s = tn_2 s nod0 from by unfold takeN; rw [if_neg (by omega), if_pos k2]]; have e : (tn_2 s nod0).kd = cntV s 9 := rfl; rw [show nodeL putN (tn_2 s nod0) = lb_2 putN (tn_2 s nod0) from by unfold nodeL; rw [if_neg (by rw [e]; omega), if_pos (by rw [e]; exact k2)]]
    exact back_2 s h hs
  by_cases k3 : cntV s 9 = 3
  · rw [show takeS s = ts_3 s from by unfold takeS; rw [if_neg (by omega), if_neg (by omega), if_pos k3]] at hs ⊢; rw [show takeN s = tn_3 s nod0 from by unfold takeN; rw [if_neg (by omega), if_neg (by omega), if_pos k3]]; have e : (tn_3 s nod0).kd = cntV s 9 := rfl; rw [show nodeL putN (tn_3 s nod0) = lb_3 putN (tn_3 s nod0) from by unfold nodeL; rw [if_neg (by rw [e]; omega), if_neg (by rw [e]; omega), if_pos (by rw [e]; exact k3)]]
    exact back_3 s h hs
  by_cases k4 : cntV s 9 = 4 ∨ cntV s 9 = 5
  · rw [show takeS s = ts_4 s from by unfold takeS; rw [if_neg (by omega), if_neg (by omega), if_neg (by omega), if_pos k4]] at hs ⊢; rw [show takeN s = tn_4 s nod0 from by unfold takeN; rw [if_neg (by omega), if_neg (by omega), if_neg (by omega), if_pos k4]]; have e : (tn_4 s nod0).kd = cntV s 9 := rfl; rw [show nodeL putN (tn_4 s nod0) = lb_4 putN (tn_4 s nod0) from by unfold nodeL; rw [if_neg (by rw [e]; omega), if_neg (by rw [e]; omega), if_neg (by rw [e]; omega), if_pos (by rw [e]; exact k4)]]
    exact back_4 s h hs
  by_cases k6 : cntV s 9 = 6
  · rw [show takeS s = ts_6 s from by unfold takeS; rw [if_neg (by omega), if_neg (by omega), if_neg (by omega), if_neg (by omega), if_pos k6]] at hs ⊢; rw [show takeN s = tn_6 s nod0 from by unfold takeN; rw [if_neg (by omega), if_neg (by omega), if_neg (by omega), if_neg (by omega), if_pos k6]]; have e : (tn_6 s nod0).kd = cntV s 9 := rfl; rw [show nodeL putN (tn_6 s nod0) = lb_6 putN (tn_6 s nod0) from by unfold nodeL; rw [if_neg (by rw [e]; omega), if_neg (by rw [e]; omega), if_neg (by rw [e]; omega), if_neg (by rw [e]; omega), if_pos (by rw [e]; exact k6)]]
    exact back_6 s h hs
  by_cases k7 : cntV s 9 = 7
  · rw [show takeS s = ts_7 s from by unfold takeS; rw [if_neg (by omega), if_neg (by omega), if_neg (by omega), if_neg (by omega), if_neg (by omega), if_pos k7]] at hs ⊢; rw [show takeN s = tn_7 s nod0 from by unfold takeN; rw [if_neg (by omega), if_neg (by omega), if_neg (by omega), if_neg (by omega), if_neg (by omega), if_pos k7]]; have e : (tn_7 s nod0).kd = cntV s 9 := rfl; rw [show nodeL putN (tn_7 s nod0) = lb_7 putN (tn_7 s nod0) from by unfold nodeL; rw [if_neg (by rw [e]; omega), if_neg (by rw [e]; omega), if_neg (by rw [e]; omega), if_neg (by rw [e]; omega), if_neg (by rw [e]; omega), if_pos (by rw [e]; exact k7)]]
    exact back_7 s h hs
  by_cases k8 : cntV s 9 = 8
  · rw [show takeS s = ts_8 s from by unfold takeS; rw [if_neg (by omega), if_neg (by omega), if_neg (by omega), if_neg (by omega), if_neg (by omega), if_neg (by omega), if_pos k8]] at hs ⊢; rw [show takeN s = tn_8 s nod0 from by unfold takeN; rw [if_neg (by omega), if_neg (by omega), if_neg (by omega), if_neg (by omega), if_neg (by omega), if_neg (by omega), if_pos k8]]; have e : (tn_8 s nod0).kd = cntV s 9 := rfl; rw [show nodeL putN (tn_8 s nod0) = lb_8 putN (tn_8 s nod0) from by unfold nodeL; rw [if_neg (by rw [e]; omega), if_neg (by rw [e]; omega), if_neg (by rw [e]; omega), if_neg (by rw [e]; omega), if_neg (by rw [e]; omega), if_neg (by rw [e]; omega), if_pos (by rw [e]; exact k8)]]
    exact back_8 s h hs
  rw [show takeS s = ts_9 s from by unfold takeS; rw [if_neg (by omega), if_neg (by omega), if_neg (by omega), if_neg (by omega), if_neg (by omega), if_neg (by omega), if_neg (by omega)]] at hs ⊢; rw [show takeN s = tn_9 s nod0 from by unfold takeN; rw [if_neg (by omega), if_neg (by omega), if_neg (by omega), if_neg (by omega), if_neg (by omega), if_neg (by omega), if_neg (by omega)]]; have e : (tn_9 s nod0).kd = cntV s 9 := rfl; rw [show nodeL putN (tn_9 s nod0) = lb_9 putN (tn_9 s nod0) from by unfold nodeL; rw [if_neg (by rw [e]; omega), if_neg (by rw [e]; omega), if_neg (by rw [e]; omega), if_neg (by rw [e]; omega), if_neg (by rw [e]; omega), if_neg (by rw [e]; omega), if_neg (by rw [e]; omega)]]
  exact back_9 s h hs
theorem take_back {s : Rst} (h : s.In) (he : (takeR s).2 = 0) : nodeR (takeR s).1 = (nodeL putN (takeN s), 0) ∧ s.1 = nodeL putN (takeN s) ++ (takeS s).1 := by
  unfold takeR at he ⊢
  by_cases h1 : (takeS s).2 ≠ 0
  · rw [if_pos h1] at he; exact absurd he h1
  rw [if_neg h1] at he ⊢
  by_cases h2 : checkE (takeN s) ≠ 0
  · rw [if_pos h2] at he; exact absurd he h2
  rw [if_neg h2]
  have hs : (takeS s).2 = 0 := Classical.not_not.1 h1
  have l := takeN_len s h hs
  refine ⟨?_, take_backN s h hs⟩
  unfold nodeR
  rw [if_neg h2, if_neg (by rw [takeN_six s h]; simp), if_neg (by dsimp only; omega)]
end Go.Proofs.Ytgecmooedhnenaa
/- What is taken is right. (Plain.) No condition. -/
namespace Go.Proofs.Ytgecmooedhnenaa
open Go.RowKit
set_option linter.unusedSimpArgs false
set_option linter.unusedVariables false
set_option linter.unnecessarySimpa false
theorem oneV8 (s : Rst) : In8 (oneV s) := by
  unfold oneV smlV
  repeat' split
  all_goals (first | decide | skip)
  rename_i h1 h2 h3
  rw [show ((1 : Int)).toNat = 1 from rfl, tkW, tkW]
  show In8 (IntKind.i8.wrap _)
  unfold In8 IntKind.wrap; simp [IntKind.bits, IntKind.signed]; omega
theorem tkW8 (l : List Int) (k : Nat) : ∀ x ∈ tkW l k, In8 x := by
  induction k with
  | zero => intro x hx; cases hx
  | succ k ih =>
    intro x hx
    rw [tkW, List.mem_append] at hx
    rcases hx with hx | hx
    · exact ih x hx
    · rw [List.mem_singleton] at hx; subst hx
      unfold In8 IntKind.wrap; simp [IntKind.bits, IntKind.signed]; omega
theorem smlV8 (s : Rst) (n : Int) : ∀ x ∈ smlV s n, In8 x := by
  unfold smlV
  repeat' split
  all_goals (first | exact tkW8 _ _ | (intro x hx; cases hx))
theorem itV32 (s : Rst) (k : Nat) : ∀ x ∈ itV s k, In32 x := by
  induction k with
  | zero => intro x hx; cases hx
  | succ k ih =>
    intro x hx
    rw [itV, List.mem_append] at hx
    rcases hx with hx | hx
    · exact ih x hx
    · rw [List.mem_singleton] at hx; subst hx
      have := @intV_rng (itS s k) (-2147483648) 2147483647 (by decide) (by decide)
      exact ⟨by omega, by omega⟩
theorem widV32 (s : Rst) (n : Int) : ∀ x ∈ widV s n, In32 x := by
  unfold widV
  repeat' split
  all_goals (first | exact itV32 _ _ | (intro x hx; cases hx))
theorem cntV64 {s : Rst} (h : s.In) {m : Int} (h0 : 0 ≤ m) (h1 : m ≤ 2147483647) : In64 (cntV s m) := by
  have := cntV_rng h h0; exact ⟨by omega, by omega⟩
theorem cntV32 {s : Rst} (h : s.In) {m : Int} (h0 : 0 ≤ m) (h1 : m ≤ 2147483647) : In32 (cntV s m) := by
  have := cntV_rng h h0; exact ⟨by omega, by omega⟩
theorem sclM32 {s : Rst} (h : s.In) : In32 (sclM s) := cntV32 h (by decide) (by decide)
theorem sclH64 {s : Rst} (h : s.In) : In64 (sclH s) := cntV64 (cnt_in h _) (by decide) (by decide)
theorem z8 : In8 0 := by decide
theorem z32 : In32 0 := by decide
theorem z64 : In64 0 := by decide
theorem nil8 : ∀ x ∈ ([] : List Int), In8 x := fun _ h => by cases h
theorem nil32 : ∀ x ∈ ([] : List Int), In32 x := fun _ h => by cases h
theorem tn_1_ok (s : Rst) (h : s.In) : (tn_1 s nod0).Ok := ⟨(cntV64 (by repeat first | exact h | apply cnt_in | apply sml_in | apply lst_in | apply scl_in) (by decide) (by decide)), (cntV64 (by repeat first | exact h | apply cnt_in | apply sml_in | apply lst_in | apply scl_in) (by decide) (by decide)), z64, (cntV64 (by repeat first | exact h | apply cnt_in | apply sml_in | apply lst_in | apply scl_in) (by decide) (by decide)), (cntV64 (by repeat first | exact h | apply cnt_in | apply sml_in | apply lst_in | apply scl_in) (by decide) (by decide)), (cntV64 (by repeat first | exact h | apply cnt_in | apply sml_in | apply lst_in | apply scl_in) (by decide) (by decide)), (cntV64 (by repeat first | exact h | apply cnt_in | apply sml_in | apply lst_in | apply scl_in) (by decide) (by decide)), (oneV8 _), z8, (smlV8 _ _), (widV32 _ _), (sclM32 (by repeat first | exact h | apply cnt_in | apply sml_in | apply lst_in | apply scl_in)), (sclH64 (by repeat first | exact h | apply cnt_in | apply sml_in | apply lst_in | apply scl_in)), (oneV8 _), z32, z64, z8, (oneV8 _), (oneV8 _)⟩
theorem ts_1_ok {s : Rst} (hs : (ts_1 s).2 = 0) : s.2 = 0 := (cnt_ok (cnt_ok (cnt_ok (cnt_ok (cnt_ok (cnt_ok (sml_ok (cnt_ok (sml_ok (cnt_ok (wid_ok (cnt_ok (cnt_ok (sml_ok (sml_ok (sml_ok hs))))))))))))))))
theorem tn_2_ok (s : Rst) (h : s.In) : (tn_2 s nod0).Ok := ⟨(cntV64 (by repeat first | exact h | apply cnt_in | apply sml_in | apply lst_in | apply scl_in) (by decide) (by decide)), (cntV64 (by repeat first | exact h | apply cnt_in | apply sml_in | apply lst_in | apply scl_in) (by decide) (by decide)), z64, (cntV64 (by repeat first | exact h | apply cnt_in | apply sml_in | apply lst_in | apply scl_in) (by decide) (by decide)), (cntV64 (by repeat first | exact h | apply cnt_in | apply sml_in | apply lst_in | apply scl_in) (by decide) (by decide)), (cntV64 (by repeat first | exact h | apply cnt_in | apply sml_in | apply lst_in | apply scl_in) (by decide) (by decide)), z64, (oneV8 _), z8, (smlV8 _ _), (widV32 _ _), (sclM32 (by repeat first | exact h | apply cnt_in | apply sml_in | apply lst_in | apply scl_in)), (sclH64 (by repeat first | exact h | apply cnt_in | apply sml_in | apply lst_in | apply scl_in)), (oneV8 _), z32, z64, z8, (oneV8 _), (oneV8 _)⟩
theorem ts_2_ok {s : Rst} (hs : (ts_2 s).2 = 0) : s.2 = 0 := (cnt_ok (cnt_ok (cnt_ok (cnt_ok (cnt_ok (sml_ok (cnt_ok (sml_ok (cnt_ok (wid_ok (cnt_ok (cnt_ok (sml_ok (sml_ok (sml_ok hs)))))))))))))))
theorem tn_3_ok (s : Rst) (h : s.In) : (tn_3 s nod0).Ok := ⟨(cntV64 (by repeat first | exact h | apply cnt_in | apply sml_in | apply lst_in | apply scl_in) (by decide) (by decide)), (cntV64 (by repeat first | exact h | apply cnt_in | apply sml_in | apply lst_in | apply scl_in) (by decide) (by decide)), z64, z64, z64, z64, (cntV64 (by repeat first | exact h | apply cnt_in | apply sml_in | apply lst_in | apply scl_in) (by decide) (by decide)), (oneV8 _), z8, (smlV8 _ _), (widV32 _ _), (sclM32 (by repeat first | exact h | apply cnt_in | apply sml_in | apply lst_in | apply scl_in)), (sclH64 (by repeat first | exact h | apply cnt_in | apply sml_in | apply lst_in | apply scl_in)), (oneV8 _), z32, z64, z8, (oneV8 _), (oneV8 _)⟩
theorem ts_3_ok {s : Rst} (hs : (ts_3 s).2 = 0) : s.2 = 0 := (cnt_ok (cnt_ok (cnt_ok (sml_ok (cnt_ok (sml_ok (cnt_ok (wid_ok (cnt_ok (cnt_ok (sml_ok (sml_ok (sml_ok hs)))))))))))))
theorem tn_4_ok (s : Rst) (h : s.In) : (tn_4 s nod0).Ok := ⟨(cntV64 (by repeat first | exact h | apply cnt_in | apply sml_in | apply lst_in | apply scl_in) (by decide) (by decide)), (cntV64 (by repeat first | exact h | apply cnt_in | apply sml_in | apply lst_in | apply scl_in) (by decide) (by decide)), z64, (cntV64 (by repeat first | exact h | apply cnt_in | apply sml_in | apply lst_in | apply scl_in) (by decide) (by decide)), (cntV64 (by repeat first | exact h | apply cnt_in | apply sml_in | apply lst_in | apply scl_in) (by decide) (by decide)), (cntV64 (by repeat first | exact h | apply cnt_in | apply sml_in | apply lst_in | apply scl_in) (by decide) (by decide)), z64, z8, z8, nil8, nil32, z32, z64, z8, z32, z64, z8, z8, z8⟩
theorem ts_4_ok {s : Rst} (hs : (ts_4 s).2 = 0) : s.2 = 0 := (cnt_ok (cnt_ok (cnt_ok (cnt_ok (cnt_ok hs)))))
theorem tn_6_ok (s : Rst) (h : s.In) : (tn_6 s nod0).Ok := ⟨(cntV64 (by repeat first | exact h | apply cnt_in | apply sml_in | apply lst_in | apply scl_in) (by decide) (by decide)), (cntV64 (by repeat first | exact h | apply cnt_in | apply sml_in | apply lst_in | apply scl_in) (by decide) (by decide)), (cntV64 (by repeat first | exact h | apply cnt_in | apply sml_in | apply lst_in | apply scl_in) (by decide) (by decide)), z64, z64, z64, z64, (oneV8 _), (oneV8 _), nil8, nil32, (sclM32 (by repeat first | exact h | apply cnt_in | apply sml_in | apply lst_in | apply scl_in)), (sclH64 (by repeat first | exact h | apply cnt_in | apply sml_in | apply lst_in | apply scl_in)), (oneV8 _), (sclM32 (by repeat first | exact h | apply cnt_in | apply sml_in | apply lst_in | apply scl_in)), (sclH64 (by repeat first | exact h | apply cnt_in | apply sml_in | apply lst_in | apply scl_in)), z8, (oneV8 _), (oneV8 _)⟩
theorem ts_6_ok {s : Rst} (hs : (ts_6 s).2 = 0) : s.2 = 0 := (cnt_ok (cnt_ok (cnt_ok (sml_ok (sml_ok (cnt_ok (cnt_ok (sml_ok (cnt_ok (cnt_ok (sml_ok (sml_ok hs))))))))))))
theorem tn_7_ok (s : Rst) (h : s.In) : (tn_7 s nod0).Ok := ⟨(cntV64 (by repeat first | exact h | apply cnt_in | apply sml_in | apply lst_in | apply scl_in) (by decide) (by decide)), (cntV64 (by repeat first | exact h | apply cnt_in | apply sml_in | apply lst_in | apply scl_in) (by decide) (by decide)), z64, z64, z64, z64, z64, (oneV8 _), z8, nil8, nil32, (sclM32 (by repeat first | exact h | apply cnt_in | apply sml_in | apply lst_in | apply scl_in)), (sclH64 (by repeat first | exact h | apply cnt_in | apply sml_in | apply lst_in | apply scl_in)), (oneV8 _), z32, z64, z8, (oneV8 _), (oneV8 _)⟩
theorem ts_7_ok {s : Rst} (hs : (ts_7 s).2 = 0) : s.2 = 0 := (cnt_ok (cnt_ok (sml_ok (cnt_ok (cnt_ok (sml_ok (sml_ok (sml_ok hs))))))))
theorem tn_8_ok (s : Rst) (h : s.In) : (tn_8 s nod0).Ok := ⟨(cntV64 (by repeat first | exact h | apply cnt_in | apply sml_in | apply lst_in | apply scl_in) (by decide) (by decide)), (cntV64 (by repeat first | exact h | apply cnt_in | apply sml_in | apply lst_in | apply scl_in) (by decide) (by decide)), z64, z64, z64, (cntV64 (by repeat first | exact h | apply cnt_in | apply sml_in | apply lst_in | apply scl_in) (by decide) (by decide)), z64, (oneV8 _), z8, nil8, nil32, z32, z64, z8, z32, z64, z8, z8, z8⟩
theorem ts_8_ok {s : Rst} (hs : (ts_8 s).2 = 0) : s.2 = 0 := (cnt_ok (cnt_ok (cnt_ok (sml_ok hs))))
theorem tn_9_ok (s : Rst) (h : s.In) : (tn_9 s nod0).Ok := ⟨(cntV64 (by repeat first | exact h | apply cnt_in | apply sml_in | apply lst_in | apply scl_in) (by decide) (by decide)), (cntV64 (by repeat first | exact h | apply cnt_in | apply sml_in | apply lst_in | apply scl_in) (by decide) (by decide)), z64, z64, z64, z64, z64, z8, z8, nil8, nil32, z32, z64, z8, z32, z64, z8, z8, z8⟩
theorem ts_9_ok {s : Rst} (hs : (ts_9 s).2 = 0) : s.2 = 0 := (cnt_ok (cnt_ok hs))
theorem takeN_ok (s : Rst) (h : s.In) : (takeN s).Ok := by
  unfold takeN
  repeat' split
  all_goals (first | exact tn_1_ok s h | exact tn_2_ok s h | exact tn_3_ok s h | exact tn_4_ok s h | exact tn_6_ok s h | exact tn_7_ok s h | exact tn_8_ok s h | exact tn_9_ok s h)
theorem nod0_ok : (nod0 : Nod).Ok := by constructor <;> first | (constructor <;> decide) | (intro v hv; cases hv)
theorem takeR_ok (s : Rst) (h : s.In) : (takeR s).1.Ok := by
  unfold takeR
  repeat' split
  · exact nod0_ok
  · exact nod0_ok
  · exact takeN_ok s h
theorem takeS_ok {s : Rst} (hs : (takeS s).2 = 0) : s.2 = 0 := by
  unfold takeS at hs
  repeat' split at hs
  all_goals (first | exact ts_1_ok hs | exact ts_2_ok hs | exact ts_3_ok hs | exact ts_4_ok hs | exact ts_6_ok hs | exact ts_7_ok hs | exact ts_8_ok hs | exact ts_9_ok hs)
end Go.Proofs.Ytgecmooedhnenaa
/- A block's exit, of a taker. No condition. -/
namespace Go.Proofs.Ytgecmooedhnenaa
open Go.RowKit
set_option linter.unusedSimpArgs false
set_option linter.unusedVariables false
set_option linter.unnecessarySimpa false
theorem tsml_x (s : Rst) (l : List Nod) (w b : List Int) (nd : Int) (e : Bool) (m : Int) (h : s.In) : VM Try.prog 261 ([.agg [.ptr 100000 0 0], .ptr 100001 0 2, i64 m]) ([(950, .slc 47 19 (l.map nodC)), (100000, .var (rdC s)), (100001, .var [.own 950, bv e, ints .i8 w, ints .i32 b, i32 nd])]) (.tup []) ([(950, .slc 47 19 (l.map nodC)), (100000, .var (rdC (smlS s m))), (100001, .var [.own 950, bv e, ints .i8 (smlV s m), ints .i32 b, i32 nd])]) := by
  have oz0 := @smallR_v (s) (m) h
  exact VM.run (fn := Try.f261) (W := [.r [] [], .r [] [.callm [(100000, 100000)] [] (rM oz0) (oM oz0)]]) (G := [.drop [3], .sort]) Try.func261 (by kernel_rfl) (.c oz0 <| .n)
theorem twid_x (s : Rst) (l : List Nod) (w b : List Int) (nd : Int) (e : Bool) (m : Int) (h : s.In) : VM Try.prog 262 ([.agg [.ptr 100000 0 0], .ptr 100001 0 3, i64 m]) ([(950, .slc 47 19 (l.map nodC)), (100000, .var (rdC s)), (100001, .var [.own 950, bv e, ints .i8 w, ints .i32 b, i32 nd])]) (.tup []) ([(950, .slc 47 19 (l.map nodC)), (100000, .var (rdC (widS s m))), (100001, .var [.own 950, bv e, ints .i8 w, ints .i32 (widV s m), i32 nd])]) := by
  have oz0 := @wideR_v (s) (m) h
  exact VM.run (fn := Try.f262) (W := [.r [] [], .r [] [.callm [(100000, 100000)] [] (rM oz0) (oM oz0)]]) (G := [.drop [3], .sort]) Try.func262 (by kernel_rfl) (.c oz0 <| .n)
theorem tlists_x0 (s : Rst) (l : List Nod) (w b : List Int) (nd : Int) (e : Bool) (h : s.In) : VM Try.prog 168 ([.ifc 169 (.agg [.ptr 100000 0 0]), .ptr 100001 0 2, .ptr 100001 0 3]) ([(950, .slc 47 19 (l.map nodC)), (100000, .var (rdC s)), (100001, .var [.own 950, bv e, ints .i8 w, ints .i32 b, i32 nd])]) (.tup []) ([(950, .slc 47 19 (l.map nodC)), (100000, .var (rdC (widS (cntS (smlS (cntS s 16384) (cntV s 16384)) 16384) (cntV (smlS (cntS s 16384) (cntV s 16384)) 16384)))), (100001, .var [.own 950, bv e, ints .i8 (smlV (cntS s 16384) (cntV s 16384)), ints .i32 (widV (cntS (smlS (cntS s 16384) (cntV s 16384)) 16384) (cntV (smlS (cntS s 16384) (cntV s 16384)) 16384)), i32 nd])]) := by
  have oz0 := @tnum_1 (s) ((↑(List.map (row1 IntKind.i8) w).length : Int)) (16384) h (by omega) (by omega)
  have oz1 := (show MethodIs Try.prog (169 : Nat) "stepwell/pack.number" (methF Try.prog (169 : Nat) "stepwell/pack.number") from (methodIs (by kernel_rfl)))
  have oz2 := @tsml_x (cntS s 16384) (l) (w) (b) (nd) (e) (cntV s 16384) (by (repeat first | exact h | apply cnt_in | apply sml_in))
  have oz4 := @tnum_1 (smlS (cntS s 16384) (cntV s 16384)) ((↑(List.map (row1 IntKind.i32) b).length : Int)) (16384) (by (repeat first | exact h | apply cnt_in | apply sml_in)) (by omega) (by omega)
  have oz6 := @twid_x (cntS (smlS (cntS s 16384) (cntV s 16384)) 16384) (l) (smlV (cntS s 16384) (cntV s 16384)) (b) (nd) (e) (cntV (smlS (cntS s 16384) (cntV s 16384)) 16384) (by (repeat first | exact h | apply cnt_in | apply sml_in))
  exact VM.run (fn := Try.f168) (W := [.r [] [], .r [] [.callm [(100000, 100000), (6, 100001)] [] (rM oz0) (oM oz0)], .r [] [.callm [(950, 950), (100000, 100000), (100001, 100001)] [(950, 20000)] (rM oz2) (oM oz2)], .r [] [], .r [] [.callm [(100000, 100000), (7, 100001)] [] (rM oz4) (oM oz4)], .r [] [.callm [(20000, 950), (100000, 100000), (100001, 100001)] [(950, 20001)] (rM oz6) (oM oz6)]]) (G := [.drop [6, 7], .ren 20001 950, .sort]) Try.func168 (by kernel_rfl) (.c oz0 <| .c oz1 <| .c oz2 <| .c (show MethodIs Try.prog (169 : Nat) "stepwell/pack.small" (methF Try.prog (169 : Nat) "stepwell/pack.small") from (methodIs (by kernel_rfl))) <| .c oz4 <| .c oz1 <| .c oz6 <| .c (show MethodIs Try.prog (169 : Nat) "stepwell/pack.wides" (methF Try.prog (169 : Nat) "stepwell/pack.wides") from (methodIs (by kernel_rfl))) <| .n)
theorem tlists_x (s : Rst) (l : List Nod) (w b : List Int) (nd : Int) (e : Bool) (h : s.In) : VM Try.prog 168 [.ifc 169 (.agg [.ptr 100000 0 0]), .ptr 100001 0 2, .ptr 100001 0 3] [(950, .slc 47 19 (l.map nodC)), (100000, .var (rdC s)), (100001, .var [.own 950, bv e, ints .i8 w, ints .i32 b, i32 nd])] (.tup []) [(950, .slc 47 19 (l.map nodC)), (100000, .var (rdC (lstS s))), (100001, .var [.own 950, bv e, ints .i8 (lstW s), ints .i32 (lstB s), i32 nd])] := tlists_x0 s l w b nd e h
theorem texit_y (s : Rst) (l : List Nod) (w b : List Int) (nd : Int) (h : s.In) (hk : cntV s 1 = 1) : VM Try.prog 116 ([.ifc 169 (.agg [.ptr 100000 0 0]), .ptr 100001 0 0]) ([(950, .slc 47 19 (l.map nodC)), (100000, .var (rdC s)), (100001, .var [.own 950, bv false, ints .i8 w, ints .i32 b, i32 nd])]) (.tup []) ([(950, .slc 47 19 (l.map nodC)), (100000, .var (rdC (cntS (lstS (cntS s 1)) 2147483647))), (100001, .var [.own 950, bv true, ints .i8 (lstW (cntS s 1)), ints .i32 (lstB (cntS s 1)), i32 (cntV (lstS (cntS s 1)) 2147483647)])]) := by
  have q := @cntV_rng (lstS (cntS s 1)) 2147483647 (lst_in (cnt_in h _)) (by decide)
  have oz1 := @tnum_1 (s) (0) (1) h (by omega) (by omega)
  have oz2 := (show MethodIs Try.prog (169 : Nat) "stepwell/pack.number" (methF Try.prog (169 : Nat) "stepwell/pack.number") from (methodIs (by kernel_rfl)))
  have oz4 := @tlists_x (cntS s 1) (l) (w) (b) (nd) (cntV s 1 == 1) (by (repeat first | exact h | apply cnt_in | apply sml_in | apply lst_in))
  have oz5 := @tnum_1 (lstS (cntS s 1)) (IntKind.i64.wrap nd) (2147483647) (by (repeat first | exact h | apply cnt_in | apply sml_in | apply lst_in)) (by omega) (by omega)
  have oz7 := (IntWalk.i32_in (cntV (lstS (cntS s 1)) 2147483647) (by omega))
  exact VM.run (fn := Try.f116) (W := [.r [] [], .r [] [], .br false, .r [] [.callm [(100000, 100000), (4, 100001)] [] (rM oz1) (oM oz1)], .r [] [], .r [] [], .br false, .r [] [.callm [(950, 950), (100000, 100000), (100001, 100001)] [(950, 20000)] (rM oz4) (oM oz4)], .r [] [.w], .r [] [.callm [(100000, 100000), (5, 100001)] [] (rM oz5) (oM oz5)], .r [] [.n (nO oz7)]]) (G := [.drop [4, 5], .ren 20000 950, .blk 100001 (Blk.var [AV.own 950, bv true, AV.sl 1 (List.map (row1 IntKind.i8) (lstW (cntS s 1))), AV.sl 1 (List.map (row1 IntKind.i32) (lstB (cntS s 1))), i32 (cntV (lstS (cntS s 1)) 2147483647)]), .sort]) Try.func116 (by kernel_rfl) (.c (show false = false by with_reducible rfl) <| .c oz1 <| .c oz2 <| .c (show (!cntV s 1 == 1) = false by (simp; omega)) <| .c oz4 <| .c oz5 <| .c oz2 <| .c oz7 <| .c (show BlkW (Blk.var [AV.own 950, bv (cntV s 1 == 1), AV.sl 1 (List.map (row1 IntKind.i8) (lstW (cntS s 1))), AV.sl 1 (List.map (row1 IntKind.i32) (lstB (cntS s 1))), i32 (cntV (lstS (cntS s 1)) 2147483647)]) (Blk.var [AV.own 950, bv true, AV.sl 1 (List.map (row1 IntKind.i8) (lstW (cntS s 1))), AV.sl 1 (List.map (row1 IntKind.i32) (lstB (cntS s 1))), i32 (cntV (lstS (cntS s 1)) 2147483647)]) from (BlkW.var (m := [AV.own 950, bv true, AV.sl 1 (List.map (row1 IntKind.i8) (lstW (cntS s 1))), AV.sl 1 (List.map (row1 IntKind.i32) (lstB (cntS s 1))), i32 (cntV (lstS (cntS s 1)) 2147483647)]) (.cons (.refl _) (.cons (Weak.bool (show ((cntV s 1 == 1) : Bool) = (true) from (by (refine decide_eq_true ?_; omega)))) (.cons (.refl _) (.cons (.refl _) (.cons (.refl _) .nil))))))) <| .n)
theorem texit_n (s : Rst) (l : List Nod) (w b : List Int) (nd : Int) (h : s.In) (hk : cntV s 1 ≠ 1) : VM Try.prog 116 ([.ifc 169 (.agg [.ptr 100000 0 0]), .ptr 100001 0 0]) ([(950, .slc 47 19 (l.map nodC)), (100000, .var (rdC s)), (100001, .var [.own 950, bv false, ints .i8 w, ints .i32 b, i32 nd])]) (.tup []) ([(950, .slc 47 19 (l.map nodC)), (100000, .var (rdC (cntS s 1))), (100001, .var [.own 950, bv false, ints .i8 w, ints .i32 b, i32 nd])]) := by
  have oz1 := @tnum_1 (s) (0) (1) h (by omega) (by omega)
  exact VM.run (fn := Try.f116) (W := [.r [] [], .r [] [], .br false, .r [] [.callm [(100000, 100000), (4, 100001)] [] (rM oz1) (oM oz1)], .r [] [], .r [] [], .br true]) (G := [.drop [4], .blk 100001 (Blk.var [AV.own 950, bv false, AV.sl 1 (List.map (row1 IntKind.i8) w), AV.sl 1 (List.map (row1 IntKind.i32) b), i32 nd]), .sort]) Try.func116 (by kernel_rfl) (.c (show false = false by with_reducible rfl) <| .c oz1 <| .c (show MethodIs Try.prog (169 : Nat) "stepwell/pack.number" (methF Try.prog (169 : Nat) "stepwell/pack.number") from (methodIs (by kernel_rfl))) <| .c (show (!cntV s 1 == 1) = true by (simp; omega)) <| .c (show BlkW (Blk.var [AV.own 950, bv (cntV s 1 == 1), AV.sl 1 (List.map (row1 IntKind.i8) w), AV.sl 1 (List.map (row1 IntKind.i32) b), i32 nd]) (Blk.var [AV.own 950, bv false, AV.sl 1 (List.map (row1 IntKind.i8) w), AV.sl 1 (List.map (row1 IntKind.i32) b), i32 nd]) from (BlkW.var (m := [AV.own 950, bv false, AV.sl 1 (List.map (row1 IntKind.i8) w), AV.sl 1 (List.map (row1 IntKind.i32) b), i32 nd]) (.cons (.refl _) (.cons (Weak.bool (show ((cntV s 1 == 1) : Bool) = (false) from (by (refine decide_eq_false ?_; omega)))) (.cons (.refl _) (.cons (.refl _) (.cons (.refl _) .nil))))))) <| .n)
end Go.Proofs.Ytgecmooedhnenaa
/- A block at which a reader stands, of a taker. No condition. -/
namespace Go.Proofs.Ytgecmooedhnenaa
open Go.RowKit
set_option linter.unusedSimpArgs false
set_option linter.unusedVariables false
set_option linter.unnecessarySimpa false
def tkS (s : Rst) : Nat → Rst
  | 0 => s
  | k + 1 => takeS (tkS s k)
def tkL (s : Rst) : Nat → List Nod
  | 0 => []
  | k + 1 => tkL s k ++ [(takeR (tkS s k)).1]
theorem tkS_fit {s : Rst} (h : s.Fit) (k : Nat) : (tkS s k).Fit := by
  induction k with
  | zero => exact h
  | succ k ih => exact takeS_fit ih
theorem tkL_len (s : Rst) (k : Nat) : (tkL s k).length = k := by
  induction k with
  | zero => rfl
  | succ k ih => rw [tkL, List.length_append, ih]; rfl
def stB (s : Rst) : Rst := tkS (cntS s 8) (cntV s 8).toNat
def exS (s : Rst) : Rst := if cntV s 1 = 1 then cntS (lstS (cntS s 1)) 2147483647 else cntS s 1
noncomputable def ptkb_y_I (s : Rst) (k : Nat) : VS := stt 47 [(0, .ptr 100000 0 0), (2, .ptr 2 0 0), (4, .ptr 4 0 0), (5, .ptr 5 0 0), (18, i64 (cntV s 8)), (19, i64 k)] [(2, .var [.any, .any, .any, .any, .any]), (4, .var [.ptr 100000 0 0]), (5, .var [.own 900, bv false, ints .i8 [], ints .i32 [], i32 0]), (900, .slc 47 19 ((tkL (cntS s 8) k).map nodC)), (100000, .var (rdC (tkS (cntS s 8) k)))]
noncomputable def ptkb_y_Z (s : Rst) : VS := ptkb_y_I s ((cntV s 8).toNat)
theorem ptkb_y_s (s : Rst) (h : s.Fit) (hh : ∀ k, k < (cntV s 8).toNat → (takeR (tkS (cntS s 8) k)).2 = 0) (k : Nat) (hk : k < (cntV s 8).toNat) : VT Try.prog (fnC Try.f48 [1, 1, 1, 1, 1, 0, 1, 0, 0]) (ptkb_y_I s k) .normal (ptkb_y_I s (k + 1)) := by
  have q := cntV_rng (m := 8) h.i (by decide)
  have q0 := tkS_fit (cnt_fit h 8) k
  have q1 := tkL_len (cntS s 8) k
  have q2 := hh k hk
  have oz1 := @take_v (tkS (cntS s 8) k) q0
  exact VT.run (W := [.r [] [], .br true, .r [] [.callm [(100000, 100000)] [] (rM oz1) (oM oz1)], .r [] [], .br false, .r [] [], .r [] [.n ((↑k : Int) + 1)]]) (G := [.any (rg [(7, 2), (20, 8), (30, 7)]), .drop [7, 33], .ren 34 900, .weak 19 (i64 (↑(k + 1) : Int)), .blk 900 (Blk.slc 47 19 (List.map nodC (tkL (cntS s 8) (k + 1)))), .blk 100000 (Blk.var [AV.sl 1 (List.map (row1 IntKind.u8) (tkS (cntS s 8) (k + 1)).fst), i64 (tkS (cntS s 8) (k + 1)).snd]), .sort]) (by kernel_rfl) (.c (decide_eq_true (p := ((↑k : Int) < cntV s 8)) (by omega)) <| .c oz1 <| .c (show ((takeR (tkS (cntS s 8) k)).snd != 0) = false by (simp; omega)) <| .c (show ((List.map nodC (tkL (cntS s 8) k)).length + 1) * 168 ≤ 140737488355328 by (simp; omega)) <| .c (show (List.map nodC (tkL (cntS s 8) k)).length + 1 ≤ 9223372036854775807 by (simp; omega)) <| .c (IntWalk.i64_in ((↑k : Int) + 1) (by omega)) <| .c (Weak.int (k := .i64) (show (((↑k : Int) + 1) : Int) = ((↑(k + 1) : Int)) from (by omega))) <| .c (show BlkW (Blk.slc 47 19 (List.map nodC (tkL (cntS s 8) k) ++ [[i64 (takeR (tkS (cntS s 8) k)).fst.kd, i64 (takeR (tkS (cntS s 8) k)).fst.na, i64 (takeR (tkS (cntS s 8) k)).fst.nb, i64 (takeR (tkS (cntS s 8) k)).fst.nk, i64 (takeR (tkS (cntS s 8) k)).fst.ns, i64 (takeR (tkS (cntS s 8) k)).fst.np, i64 (takeR (tkS (cntS s 8) k)).fst.no, i8 (takeR (tkS (cntS s 8) k)).fst.za, i8 (takeR (tkS (cntS s 8) k)).fst.zb, AV.sl 1 (List.map (row1 IntKind.i8) (takeR (tkS (cntS s 8) k)).fst.w), AV.sl 1 (List.map (row1 IntKind.i32) (takeR (tkS (cntS s 8) k)).fst.b), i32 (takeR (tkS (cntS s 8) k)).fst.qm, i64 (takeR (tkS (cntS s 8) k)).fst.qs, i8 (takeR (tkS (cntS s 8) k)).fst.qz, i32 (takeR (tkS (cntS s 8) k)).fst.rm, i64 (takeR (tkS (cntS s 8) k)).fst.rs, i8 (takeR (tkS (cntS s 8) k)).fst.rz, i8 (takeR (tkS (cntS s 8) k)).fst.lo, i8 (takeR (tkS (cntS s 8) k)).fst.hi]])) (Blk.slc 47 19 (List.map nodC (tkL (cntS s 8) (k + 1)))) from (BlkW.rows (e := 47) (z := 19) (rows_to (nodC) (r := List.map nodC (tkL (cntS s 8) k) ++ [[i64 (takeR (tkS (cntS s 8) k)).fst.kd, i64 (takeR (tkS (cntS s 8) k)).fst.na, i64 (takeR (tkS (cntS s 8) k)).fst.nb, i64 (takeR (tkS (cntS s 8) k)).fst.nk, i64 (takeR (tkS (cntS s 8) k)).fst.ns, i64 (takeR (tkS (cntS s 8) k)).fst.np, i64 (takeR (tkS (cntS s 8) k)).fst.no, i8 (takeR (tkS (cntS s 8) k)).fst.za, i8 (takeR (tkS (cntS s 8) k)).fst.zb, AV.sl 1 (List.map (row1 IntKind.i8) (takeR (tkS (cntS s 8) k)).fst.w), AV.sl 1 (List.map (row1 IntKind.i32) (takeR (tkS (cntS s 8) k)).fst.b), i32 (takeR (tkS (cntS s 8) k)).fst.qm, i64 (takeR (tkS (cntS s 8) k)).fst.qs, i8 (takeR (tkS (cntS s 8) k)).fst.qz, i32 (takeR (tkS (cntS s 8) k)).fst.rm, i64 (takeR (tkS (cntS s 8) k)).fst.rs, i8 (takeR (tkS (cntS s 8) k)).fst.rz, i8 (takeR (tkS (cntS s 8) k)).fst.lo, i8 (takeR (tkS (cntS s 8) k)).fst.hi]]) (l := tkL (cntS s 8) k ++ [Nod.mk (takeR (tkS (cntS s 8) k)).fst.kd (takeR (tkS (cntS s 8) k)).fst.na (takeR (tkS (cntS s 8) k)).fst.nb (takeR (tkS (cntS s 8) k)).fst.nk (takeR (tkS (cntS s 8) k)).fst.ns (takeR (tkS (cntS s 8) k)).fst.np (takeR (tkS (cntS s 8) k)).fst.no (takeR (tkS (cntS s 8) k)).fst.za (takeR (tkS (cntS s 8) k)).fst.zb (takeR (tkS (cntS s 8) k)).fst.w (takeR (tkS (cntS s 8) k)).fst.b (takeR (tkS (cntS s 8) k)).fst.qm (takeR (tkS (cntS s 8) k)).fst.qs (takeR (tkS (cntS s 8) k)).fst.qz (takeR (tkS (cntS s 8) k)).fst.rm (takeR (tkS (cntS s 8) k)).fst.rs (takeR (tkS (cntS s 8) k)).fst.rz (takeR (tkS (cntS s 8) k)).fst.lo (takeR (tkS (cntS s 8) k)).fst.hi]) (m := tkL (cntS s 8) (k + 1)) (by first | (simp only [List.map_append, List.map_cons, List.map_nil, List.map_set, List.map_replicate, List.map_take, List.map_drop]; done) | rfl | (simp only [List.map_append, List.map_cons, List.map_nil, List.map_set, List.map_replicate, List.map_take, List.map_drop]; rfl) | (simp only [List.map_append, List.map_cons, List.map_nil, List.map_set, List.map_replicate, List.map_take, List.map_drop, nodC, ints]; done)) (show (tkL (cntS s 8) k ++ [Nod.mk (takeR (tkS (cntS s 8) k)).fst.kd (takeR (tkS (cntS s 8) k)).fst.na (takeR (tkS (cntS s 8) k)).fst.nb (takeR (tkS (cntS s 8) k)).fst.nk (takeR (tkS (cntS s 8) k)).fst.ns (takeR (tkS (cntS s 8) k)).fst.np (takeR (tkS (cntS s 8) k)).fst.no (takeR (tkS (cntS s 8) k)).fst.za (takeR (tkS (cntS s 8) k)).fst.zb (takeR (tkS (cntS s 8) k)).fst.w (takeR (tkS (cntS s 8) k)).fst.b (takeR (tkS (cntS s 8) k)).fst.qm (takeR (tkS (cntS s 8) k)).fst.qs (takeR (tkS (cntS s 8) k)).fst.qz (takeR (tkS (cntS s 8) k)).fst.rm (takeR (tkS (cntS s 8) k)).fst.rs (takeR (tkS (cntS s 8) k)).fst.rz (takeR (tkS (cntS s 8) k)).fst.lo (takeR (tkS (cntS s 8) k)).fst.hi]) = (tkL (cntS s 8) (k + 1)) from (by rfl))))) <| .c (show BlkW (Blk.var [AV.sl 1 (List.map (row1 IntKind.u8) (takeS (tkS (cntS s 8) k)).fst), i64 (takeS (tkS (cntS s 8) k)).snd]) (Blk.var [AV.sl 1 (List.map (row1 IntKind.u8) (tkS (cntS s 8) (k + 1)).fst), i64 (tkS (cntS s 8) (k + 1)).snd]) from (BlkW.var (m := [AV.sl 1 (List.map (row1 IntKind.u8) (tkS (cntS s 8) (k + 1)).fst), i64 (tkS (cntS s 8) (k + 1)).snd]) (.cons (Weak.rows (rows_to (row1 IntKind.u8) (r := List.map (row1 IntKind.u8) (takeS (tkS (cntS s 8) k)).fst) (l := (takeS (tkS (cntS s 8) k)).fst) (m := (tkS (cntS s 8) (k + 1)).fst) rfl (show ((takeS (tkS (cntS s 8) k)).fst) = ((tkS (cntS s 8) (k + 1)).fst) from (by rfl)))) (.cons (Weak.int (show (((takeS (tkS (cntS s 8) k)).snd) : Int) = ((tkS (cntS s 8) (k + 1)).snd) from (by rfl))) .nil)))) <| .n)
theorem ptkb_y_e (s : Rst) (h : s.Fit) (hh : ∀ k, k < (cntV s 8).toNat → (takeR (tkS (cntS s 8) k)).2 = 0) : VT Try.prog (fnC Try.f48 [1, 1, 1, 1, 1, 0, 1, 0, 0]) (ptkb_y_I s ((cntV s 8).toNat)) (.exit 0) (ptkb_y_Z s) := by
  exact VT.run (W := [.r [] [], .br false]) (G := [.any [20], .sort]) (by kernel_rfl) (.c (decide_eq_false (p := ((↑(cntV s 8).toNat : Int) < cntV s 8)) (by omega)) <| .n)
theorem ptkb_y (s : Rst) (h : s.Fit) (hh : ∀ k, k < (cntV s 8).toNat → (takeR (tkS (cntS s 8) k)).2 = 0) : VT Try.prog (fnC Try.f48 [1, 1, 1, 1, 1, 0, 1, 0]) (ptkb_y_I s 0) (.exit 0) (ptkb_y_Z s) :=
  VT.loop (fun k => ptkb_y_I s k) ((cntV s 8).toNat) (fun k hk => ptkb_y_s s h hh k hk) (ptkb_y_e s h hh) (by intro h; cases h)
noncomputable def ptkb_n_I (s : Rst) (m : Nat) (k : Nat) : VS := stt 47 [(0, .ptr 100000 0 0), (2, .ptr 2 0 0), (4, .ptr 4 0 0), (5, .ptr 5 0 0), (18, i64 (cntV s 8)), (19, i64 k)] [(2, .var [.any, .any, .any, .any, .any]), (4, .var [.ptr 100000 0 0]), (5, .var [.own 900, bv false, ints .i8 [], ints .i32 [], i32 0]), (900, .slc 47 19 ((tkL (cntS s 8) k).map nodC)), (100000, .var (rdC (tkS (cntS s 8) k)))]
noncomputable def ptkb_n_Z (s : Rst) (m : Nat) : VS := stt 47 [(2, .ptr 2 0 0), (3, i64 (takeR (tkS (cntS s 8) m)).2)] [(2, .var [nilv, bv false, nilv, nilv, i32 0]), (100000, .var (rdC (tkS (cntS s 8) (m + 1))))]
theorem ptkb_n_s (s : Rst) (m : Nat) (h : s.Fit) (hm : m < (cntV s 8).toNat) (hf : (takeR (tkS (cntS s 8) m)).2 ≠ 0) (hh : ∀ k, k < m → (takeR (tkS (cntS s 8) k)).2 = 0) (k : Nat) (hk : k < m) : VT Try.prog (fnC Try.f48 [1, 1, 1, 1, 1, 0, 1, 0, 0]) (ptkb_n_I s m k) .normal (ptkb_n_I s m (k + 1)) := by
  have q := cntV_rng (m := 8) h.i (by decide)
  have q0 := tkS_fit (cnt_fit h 8) k
  have q1 := tkL_len (cntS s 8) k
  have q2 := hh k hk
  have oz1 := @take_v (tkS (cntS s 8) k) q0
  exact VT.run (W := [.r [] [], .br true, .r [] [.callm [(100000, 100000)] [] (rM oz1) (oM oz1)], .r [] [], .br false, .r [] [], .r [] [.n ((↑k : Int) + 1)]]) (G := [.any (rg [(7, 2), (20, 8), (30, 7)]), .drop [7, 33], .ren 34 900, .weak 19 (i64 (↑(k + 1) : Int)), .blk 900 (Blk.slc 47 19 (List.map nodC (tkL (cntS s 8) (k + 1)))), .blk 100000 (Blk.var [AV.sl 1 (List.map (row1 IntKind.u8) (tkS (cntS s 8) (k + 1)).fst), i64 (tkS (cntS s 8) (k + 1)).snd]), .sort]) (by kernel_rfl) (.c (decide_eq_true (p := ((↑k : Int) < cntV s 8)) (by omega)) <| .c oz1 <| .c (show ((takeR (tkS (cntS s 8) k)).snd != 0) = false by (simp; omega)) <| .c (show ((List.map nodC (tkL (cntS s 8) k)).length + 1) * 168 ≤ 140737488355328 by (simp; omega)) <| .c (show (List.map nodC (tkL (cntS s 8) k)).length + 1 ≤ 9223372036854775807 by (simp; omega)) <| .c (IntWalk.i64_in ((↑k : Int) + 1) (by omega)) <| .c (Weak.int (k := .i64) (show (((↑k : Int) + 1) : Int) = ((↑(k + 1) : Int)) from (by omega))) <| .c (show BlkW (Blk.slc 47 19 (List.map nodC (tkL (cntS s 8) k) ++ [[i64 (takeR (tkS (cntS s 8) k)).fst.kd, i64 (takeR (tkS (cntS s 8) k)).fst.na, i64 (takeR (tkS (cntS s 8) k)).fst.nb, i64 (takeR (tkS (cntS s 8) k)).fst.nk, i64 (takeR (tkS (cntS s 8) k)).fst.ns, i64 (takeR (tkS (cntS s 8) k)).fst.np, i64 (takeR (tkS (cntS s 8) k)).fst.no, i8 (takeR (tkS (cntS s 8) k)).fst.za, i8 (takeR (tkS (cntS s 8) k)).fst.zb, AV.sl 1 (List.map (row1 IntKind.i8) (takeR (tkS (cntS s 8) k)).fst.w), AV.sl 1 (List.map (row1 IntKind.i32) (takeR (tkS (cntS s 8) k)).fst.b), i32 (takeR (tkS (cntS s 8) k)).fst.qm, i64 (takeR (tkS (cntS s 8) k)).fst.qs, i8 (takeR (tkS (cntS s 8) k)).fst.qz, i32 (takeR (tkS (cntS s 8) k)).fst.rm, i64 (takeR (tkS (cntS s 8) k)).fst.rs, i8 (takeR (tkS (cntS s 8) k)).fst.rz, i8 (takeR (tkS (cntS s 8) k)).fst.lo, i8 (takeR (tkS (cntS s 8) k)).fst.hi]])) (Blk.slc 47 19 (List.map nodC (tkL (cntS s 8) (k + 1)))) from (BlkW.rows (e := 47) (z := 19) (rows_to (nodC) (r := List.map nodC (tkL (cntS s 8) k) ++ [[i64 (takeR (tkS (cntS s 8) k)).fst.kd, i64 (takeR (tkS (cntS s 8) k)).fst.na, i64 (takeR (tkS (cntS s 8) k)).fst.nb, i64 (takeR (tkS (cntS s 8) k)).fst.nk, i64 (takeR (tkS (cntS s 8) k)).fst.ns, i64 (takeR (tkS (cntS s 8) k)).fst.np, i64 (takeR (tkS (cntS s 8) k)).fst.no, i8 (takeR (tkS (cntS s 8) k)).fst.za, i8 (takeR (tkS (cntS s 8) k)).fst.zb, AV.sl 1 (List.map (row1 IntKind.i8) (takeR (tkS (cntS s 8) k)).fst.w), AV.sl 1 (List.map (row1 IntKind.i32) (takeR (tkS (cntS s 8) k)).fst.b), i32 (takeR (tkS (cntS s 8) k)).fst.qm, i64 (takeR (tkS (cntS s 8) k)).fst.qs, i8 (takeR (tkS (cntS s 8) k)).fst.qz, i32 (takeR (tkS (cntS s 8) k)).fst.rm, i64 (takeR (tkS (cntS s 8) k)).fst.rs, i8 (takeR (tkS (cntS s 8) k)).fst.rz, i8 (takeR (tkS (cntS s 8) k)).fst.lo, i8 (takeR (tkS (cntS s 8) k)).fst.hi]]) (l := tkL (cntS s 8) k ++ [Nod.mk (takeR (tkS (cntS s 8) k)).fst.kd (takeR (tkS (cntS s 8) k)).fst.na (takeR (tkS (cntS s 8) k)).fst.nb (takeR (tkS (cntS s 8) k)).fst.nk (takeR (tkS (cntS s 8) k)).fst.ns (takeR (tkS (cntS s 8) k)).fst.np (takeR (tkS (cntS s 8) k)).fst.no (takeR (tkS (cntS s 8) k)).fst.za (takeR (tkS (cntS s 8) k)).fst.zb (takeR (tkS (cntS s 8) k)).fst.w (takeR (tkS (cntS s 8) k)).fst.b (takeR (tkS (cntS s 8) k)).fst.qm (takeR (tkS (cntS s 8) k)).fst.qs (takeR (tkS (cntS s 8) k)).fst.qz (takeR (tkS (cntS s 8) k)).fst.rm (takeR (tkS (cntS s 8) k)).fst.rs (takeR (tkS (cntS s 8) k)).fst.rz (takeR (tkS (cntS s 8) k)).fst.lo (takeR (tkS (cntS s 8) k)).fst.hi]) (m := tkL (cntS s 8) (k + 1)) (by first | (simp only [List.map_append, List.map_cons, List.map_nil, List.map_set, List.map_replicate, List.map_take, List.map_drop]; done) | rfl | (simp only [List.map_append, List.map_cons, List.map_nil, List.map_set, List.map_replicate, List.map_take, List.map_drop]; rfl) | (simp only [List.map_append, List.map_cons, List.map_nil, List.map_set, List.map_replicate, List.map_take, List.map_drop, nodC, ints]; done)) (show (tkL (cntS s 8) k ++ [Nod.mk (takeR (tkS (cntS s 8) k)).fst.kd (takeR (tkS (cntS s 8) k)).fst.na (takeR (tkS (cntS s 8) k)).fst.nb (takeR (tkS (cntS s 8) k)).fst.nk (takeR (tkS (cntS s 8) k)).fst.ns (takeR (tkS (cntS s 8) k)).fst.np (takeR (tkS (cntS s 8) k)).fst.no (takeR (tkS (cntS s 8) k)).fst.za (takeR (tkS (cntS s 8) k)).fst.zb (takeR (tkS (cntS s 8) k)).fst.w (takeR (tkS (cntS s 8) k)).fst.b (takeR (tkS (cntS s 8) k)).fst.qm (takeR (tkS (cntS s 8) k)).fst.qs (takeR (tkS (cntS s 8) k)).fst.qz (takeR (tkS (cntS s 8) k)).fst.rm (takeR (tkS (cntS s 8) k)).fst.rs (takeR (tkS (cntS s 8) k)).fst.rz (takeR (tkS (cntS s 8) k)).fst.lo (takeR (tkS (cntS s 8) k)).fst.hi]) = (tkL (cntS s 8) (k + 1)) from (by rfl))))) <| .c (show BlkW (Blk.var [AV.sl 1 (List.map (row1 IntKind.u8) (takeS (tkS (cntS s 8) k)).fst), i64 (takeS (tkS (cntS s 8) k)).snd]) (Blk.var [AV.sl 1 (List.map (row1 IntKind.u8) (tkS (cntS s 8) (k + 1)).fst), i64 (tkS (cntS s 8) (k + 1)).snd]) from (BlkW.var (m := [AV.sl 1 (List.map (row1 IntKind.u8) (tkS (cntS s 8) (k + 1)).fst), i64 (tkS (cntS s 8) (k + 1)).snd]) (.cons (Weak.rows (rows_to (row1 IntKind.u8) (r := List.map (row1 IntKind.u8) (takeS (tkS (cntS s 8) k)).fst) (l := (takeS (tkS (cntS s 8) k)).fst) (m := (tkS (cntS s 8) (k + 1)).fst) rfl (show ((takeS (tkS (cntS s 8) k)).fst) = ((tkS (cntS s 8) (k + 1)).fst) from (by rfl)))) (.cons (Weak.int (show (((takeS (tkS (cntS s 8) k)).snd) : Int) = ((tkS (cntS s 8) (k + 1)).snd) from (by rfl))) .nil)))) <| .n)
theorem ptkb_n_e (s : Rst) (m : Nat) (h : s.Fit) (hm : m < (cntV s 8).toNat) (hf : (takeR (tkS (cntS s 8) m)).2 ≠ 0) (hh : ∀ k, k < m → (takeR (tkS (cntS s 8) k)).2 = 0) : VT Try.prog (fnC Try.f48 [1, 1, 1, 1, 1, 0, 1, 0, 0]) (ptkb_n_I s m (m)) (.ret) (ptkb_n_Z s m) := by
  have q := cntV_rng (m := 8) h.i (by decide)
  have q0 := tkS_fit (cnt_fit h 8) m
  have q1 := tkL_len (cntS s 8) m
  have oz1 := @take_v (tkS (cntS s 8) m) q0
  exact VT.run (W := [.r [] [], .br true, .r [] [.callm [(100000, 100000)] [] (rM oz1) (oM oz1)], .r [] [], .br true, .r [] []]) (G := [.any (rg [(0, 1), (4, 2), (7, 2), (18, 12)]), .drop [4, 5, 900, 7], .blk 100000 (Blk.var [AV.sl 1 (List.map (row1 IntKind.u8) (tkS (cntS s 8) (m + 1)).fst), i64 (tkS (cntS s 8) (m + 1)).snd]), .sort]) (by kernel_rfl) (.c (decide_eq_true (p := ((↑m : Int) < cntV s 8)) (by omega)) <| .c oz1 <| .c (show ((takeR (tkS (cntS s 8) m)).snd != 0) = true by (simp; omega)) <| .c (show BlkW (Blk.var [AV.sl 1 (List.map (row1 IntKind.u8) (takeS (tkS (cntS s 8) m)).fst), i64 (takeS (tkS (cntS s 8) m)).snd]) (Blk.var [AV.sl 1 (List.map (row1 IntKind.u8) (tkS (cntS s 8) (m + 1)).fst), i64 (tkS (cntS s 8) (m + 1)).snd]) from (BlkW.var (m := [AV.sl 1 (List.map (row1 IntKind.u8) (tkS (cntS s 8) (m + 1)).fst), i64 (tkS (cntS s 8) (m + 1)).snd]) (.cons (Weak.rows (rows_to (row1 IntKind.u8) (r := List.map (row1 IntKind.u8) (takeS (tkS (cntS s 8) m)).fst) (l := (takeS (tkS (cntS s 8) m)).fst) (m := (tkS (cntS s 8) (m + 1)).fst) rfl (show ((takeS (tkS (cntS s 8) m)).fst) = ((tkS (cntS s 8) (m + 1)).fst) from (by rfl)))) (.cons (Weak.int (show (((takeS (tkS (cntS s 8) m)).snd) : Int) = ((tkS (cntS s 8) (m + 1)).snd) from (by rfl))) .nil)))) <| .n)
theorem ptkb_n (s : Rst) (m : Nat) (h : s.Fit) (hm : m < (cntV s 8).toNat) (hf : (takeR (tkS (cntS s 8) m)).2 ≠ 0) (hh : ∀ k, k < m → (takeR (tkS (cntS s 8) k)).2 = 0) : VT Try.prog (fnC Try.f48 [1, 1, 1, 1, 1, 0, 1, 0]) (ptkb_n_I s m 0) (.ret) (ptkb_n_Z s m) :=
  VT.loop (fun k => ptkb_n_I s m k) (m) (fun k hk => ptkb_n_s s m h hm hf hh k hk) (ptkb_n_e s m h hm hf hh) (by intro h; cases h)
theorem ptake_f (s : Rst) (m : Nat) (h : s.Fit) (hm : m < (cntV s 8).toNat) (hf : (takeR (tkS (cntS s 8) m)).2 ≠ 0) (hh : ∀ k, k < m → (takeR (tkS (cntS s 8) k)).2 = 0) : VM Try.prog 48 ([.ptr 100000 0 0]) ([(100000, .var (rdC s))]) (.tup [.agg [.sl 19 [], bv false, .sl 1 [], .sl 1 [], i32 0], i64 (takeR (tkS (cntS s 8) m)).2]) ([(100000, .var (rdC (tkS (cntS s 8) (m + 1))))]) := by
  have q := cntV_rng (m := 8) h.i (by decide)
  have q9 := h.i
  have qa : (tkS (cntS s 8) (cntV s 8).toNat).In := (tkS_fit (cnt_fit h 8) _).i
  have qc := tkS_fit (cnt_fit h 8) (cntV s 8).toNat
  have qd := (cnt_fit qc 1).e
  have qe := (cnt_fit (lst_fit (cnt_fit qc 1)) 2147483647).e
  have oz1 := @tnum_1 (s) (0) (8) q9 (by omega) (by omega)
  have oz6 := @ptkb_n (s) (m) h hm hf hh
  exact VM.run (fn := Try.f48) (W := [.r [] [], .r [] [], .br false, .r [] [], .r [] [], .r [] [.callm [(100000, 100000), (6, 100001)] [] (rM oz1) (oM oz1)], .r [] [], .code [.any [3, 6, 10, 11, 13, 14, 15, 16, 17], .drop [6], .weak 19 (i64 (↑0 : Int)), .nilc 900 47 19 5 0, .blk 2 (Blk.var [AV.any, AV.any, AV.any, AV.any, AV.any]), .blk 5 (Blk.var [AV.own 900, bv false, AV.sl 1 [], AV.sl 1 [], i32 0]), .blk 100000 (Blk.var [AV.sl 1 (List.map (row1 IntKind.u8) (tkS (cntS s 8) 0).fst), i64 (tkS (cntS s 8) 0).snd]), .sort] (Exit.ret) (zO oz6)]) (G := [.drop [2], .weak 0 (AV.tup [AV.agg [AV.sl 19 [], bv false, AV.sl 1 [], AV.sl 1 [], i32 0], i64 (takeR (tkS (cntS s 8) m)).snd]), .sort]) Try.func48 (by kernel_rfl) (.c (show false = false by with_reducible rfl) <| .c oz1 <| .c (Weak.int (k := .i64) (show ((0) : Int) = ((↑0 : Int)) from (by omega))) <| .c (show BlkW (Blk.var [AV.lit (Value.slice none (0 : Nat) (0 : Nat)), bv false, AV.lit (Value.slice none (0 : Nat) (0 : Nat)), AV.lit (Value.slice none (0 : Nat) (0 : Nat)), i32 (0 : Int)]) (Blk.var [AV.any, AV.any, AV.any, AV.any, AV.any]) from (BlkW.var (m := [AV.any, AV.any, AV.any, AV.any, AV.any]) (.cons (Weak.any _) (.cons (Weak.any _) (.cons (Weak.any _) (.cons (Weak.any _) (.cons (Weak.any _) .nil))))))) <| .c (show BlkW (Blk.var [AV.own (900 : Nat), bv false, AV.lit (Value.slice none (0 : Nat) (0 : Nat)), AV.lit (Value.slice none (0 : Nat) (0 : Nat)), i32 (0 : Int)]) (Blk.var [AV.own (900 : Nat), bv false, AV.sl (1 : Nat) [], AV.sl (1 : Nat) [], i32 (0 : Int)]) from (BlkW.var (m := [AV.own 900, bv false, AV.sl 1 [], AV.sl 1 [], i32 0]) (.cons (.refl _) (.cons (.refl _) (.cons (Weak.nil _) (.cons (Weak.nil _) (.cons (.refl _) .nil))))))) <| .c (show BlkW (Blk.var [AV.sl 1 (List.map (row1 IntKind.u8) (cntS s 8).fst), i64 (cntS s 8).snd]) (Blk.var [AV.sl 1 (List.map (row1 IntKind.u8) (tkS (cntS s 8) 0).fst), i64 (tkS (cntS s 8) 0).snd]) from (BlkW.var (m := [AV.sl 1 (List.map (row1 IntKind.u8) (tkS (cntS s 8) 0).fst), i64 (tkS (cntS s 8) 0).snd]) (.cons (Weak.rows (rows_to (row1 IntKind.u8) (r := List.map (row1 IntKind.u8) (cntS s 8).fst) (l := (cntS s 8).fst) (m := (tkS (cntS s 8) 0).fst) rfl (show ((cntS s 8).fst) = ((tkS (cntS s 8) 0).fst) from (by rfl)))) (.cons (Weak.int (show (((cntS s 8).snd) : Int) = ((tkS (cntS s 8) 0).snd) from (by rfl))) .nil)))) <| .c oz6 <| .c (show Weak (AV.tup [AV.agg [AV.lit (Value.slice none 0 0), bv false, AV.lit (Value.slice none 0 0), AV.lit (Value.slice none 0 0), i32 0], i64 (takeR (tkS (cntS s 8) m)).snd]) (AV.tup [AV.agg [AV.sl 19 [], bv false, AV.sl 1 [], AV.sl 1 [], i32 0], i64 (takeR (tkS (cntS s 8) m)).snd]) from (Weak.tup (.cons (Weak.agg (.cons (Weak.nil _) (.cons (.refl _) (.cons (Weak.nil _) (.cons (Weak.nil _) (.cons (.refl _) .nil)))))) (.cons (.refl _) .nil)))) <| .n)
theorem ptake_nb (s : Rst) (h : s.Fit) (hh : ∀ k, k < (cntV s 8).toNat → (takeR (tkS (cntS s 8) k)).2 = 0) (hx : cntV (tkS (cntS s 8) (cntV s 8).toNat) 1 ≠ 1) (hb : (cntS (tkS (cntS s 8) (cntV s 8).toNat) 1).2 ≠ 0) : VM Try.prog 48 ([.ptr 100000 0 0]) ([(100000, .var (rdC s))]) (.tup [.agg [.sl 19 [], bv false, .sl 1 [], .sl 1 [], i32 0], i64 (cntS (tkS (cntS s 8) (cntV s 8).toNat) 1).2]) ([(100000, .var (rdC (cntS (tkS (cntS s 8) (cntV s 8).toNat) 1)))]) := by
  have q := cntV_rng (m := 8) h.i (by decide)
  have q9 := h.i
  have qa : (tkS (cntS s 8) (cntV s 8).toNat).In := (tkS_fit (cnt_fit h 8) _).i
  have qc := tkS_fit (cnt_fit h 8) (cntV s 8).toNat
  have qd := (cnt_fit qc 1).e
  have qe := (cnt_fit (lst_fit (cnt_fit qc 1)) 2147483647).e
  have oz1 := @tnum_1 (s) (0) (8) q9 (by omega) (by omega)
  have oz6 := @ptkb_y (s) h hh
  have oz7 := @VM.pre _ _ ([AV.ifc 169 (AV.agg [AV.ptr 100000 0 0]), AV.ptr 100001 0 0]) _ ([(950, Blk.slc 47 19 (List.map nodC (tkL (cntS s 8) (cntV s 8).toNat))), (100000, Blk.var [AV.sl 1 (List.map (row1 IntKind.u8) (tkS (cntS s 8) (cntV s 8).toNat).fst), i64 (tkS (cntS s 8) (cntV s 8).toNat).snd]), (100001, Blk.var [AV.own 950, bv false, AV.sl 1 [], AV.sl 1 [], i32 0])]) _ _ _ ([GI.sort]) _ (@texit_n (tkS (cntS s 8) (cntV s 8).toNat) (tkL (cntS s 8) (cntV s 8).toNat) ([]) ([]) (0) qa hx) (by kernel_rfl) (.n)
  have oz8 := @bad_v (cntS (tkS (cntS s 8) (cntV s 8).toNat) 1) qd
  exact VM.run (fn := Try.f48) (W := [.r [] [], .r [] [], .br false, .r [] [], .r [] [], .r [] [.callm [(100000, 100000), (6, 100001)] [] (rM oz1) (oM oz1)], .r [] [], .code [.any [3, 6, 10, 11, 13, 14, 15, 16, 17], .drop [6], .weak 19 (i64 (↑0 : Int)), .nilc 900 47 19 5 0, .blk 2 (Blk.var [AV.any, AV.any, AV.any, AV.any, AV.any]), .blk 5 (Blk.var [AV.own 900, bv false, AV.sl 1 [], AV.sl 1 [], i32 0]), .blk 100000 (Blk.var [AV.sl 1 (List.map (row1 IntKind.u8) (tkS (cntS s 8) 0).fst), i64 (tkS (cntS s 8) 0).snd]), .sort] (Exit.exit 0) (zO oz6), .r [] [.callm [(900, 950), (100000, 100000), (5, 100001)] [(950, 20000)] (rM oz7) (oM oz7)], .r [] [.callm [(100000, 100000)] [] (rM oz8) (oM oz8)], .r [] [], .br true, .r [] []]) (G := [.drop [2, 4, 20000, 5], .weak 0 (AV.tup [AV.agg [AV.sl 19 [], bv false, AV.sl 1 [], AV.sl 1 [], i32 0], i64 (cntS (tkS (cntS s 8) (cntV s 8).toNat) 1).snd]), .sort]) Try.func48 (by kernel_rfl) (.c (show false = false by with_reducible rfl) <| .c oz1 <| .c (Weak.int (k := .i64) (show ((0) : Int) = ((↑0 : Int)) from (by omega))) <| .c (show BlkW (Blk.var [AV.lit (Value.slice none (0 : Nat) (0 : Nat)), bv false, AV.lit (Value.slice none (0 : Nat) (0 : Nat)), AV.lit (Value.slice none (0 : Nat) (0 : Nat)), i32 (0 : Int)]) (Blk.var [AV.any, AV.any, AV.any, AV.any, AV.any]) from (BlkW.var (m := [AV.any, AV.any, AV.any, AV.any, AV.any]) (.cons (Weak.any _) (.cons (Weak.any _) (.cons (Weak.any _) (.cons (Weak.any _) (.cons (Weak.any _) .nil))))))) <| .c (show BlkW (Blk.var [AV.own (900 : Nat), bv false, AV.lit (Value.slice none (0 : Nat) (0 : Nat)), AV.lit (Value.slice none (0 : Nat) (0 : Nat)), i32 (0 : Int)]) (Blk.var [AV.own (900 : Nat), bv false, AV.sl (1 : Nat) [], AV.sl (1 : Nat) [], i32 (0 : Int)]) from (BlkW.var (m := [AV.own 900, bv false, AV.sl 1 [], AV.sl 1 [], i32 0]) (.cons (.refl _) (.cons (.refl _) (.cons (Weak.nil _) (.cons (Weak.nil _) (.cons (.refl _) .nil))))))) <| .c (show BlkW (Blk.var [AV.sl 1 (List.map (row1 IntKind.u8) (cntS s 8).fst), i64 (cntS s 8).snd]) (Blk.var [AV.sl 1 (List.map (row1 IntKind.u8) (tkS (cntS s 8) 0).fst), i64 (tkS (cntS s 8) 0).snd]) from (BlkW.var (m := [AV.sl 1 (List.map (row1 IntKind.u8) (tkS (cntS s 8) 0).fst), i64 (tkS (cntS s 8) 0).snd]) (.cons (Weak.rows (rows_to (row1 IntKind.u8) (r := List.map (row1 IntKind.u8) (cntS s 8).fst) (l := (cntS s 8).fst) (m := (tkS (cntS s 8) 0).fst) rfl (show ((cntS s 8).fst) = ((tkS (cntS s 8) 0).fst) from (by rfl)))) (.cons (Weak.int (show (((cntS s 8).snd) : Int) = ((tkS (cntS s 8) 0).snd) from (by rfl))) .nil)))) <| .c oz6 <| .c oz7 <| .c oz8 <| .c (show ((cntS (tkS (cntS s 8) (cntV s 8).toNat) 1).snd != 0) = true by (simp; omega)) <| .c (show Weak (AV.tup [AV.agg [AV.lit (Value.slice none 0 0), bv false, AV.lit (Value.slice none 0 0), AV.lit (Value.slice none 0 0), i32 0], i64 (cntS (tkS (cntS s 8) (cntV s 8).toNat) 1).snd]) (AV.tup [AV.agg [AV.sl 19 [], bv false, AV.sl 1 [], AV.sl 1 [], i32 0], i64 (cntS (tkS (cntS s 8) (cntV s 8).toNat) 1).snd]) from (Weak.tup (.cons (Weak.agg (.cons (Weak.nil _) (.cons (.refl _) (.cons (Weak.nil _) (.cons (Weak.nil _) (.cons (.refl _) .nil)))))) (.cons (.refl _) .nil)))) <| .n)
theorem ptake_ny (s : Rst) (h : s.Fit) (hh : ∀ k, k < (cntV s 8).toNat → (takeR (tkS (cntS s 8) k)).2 = 0) (hx : cntV (tkS (cntS s 8) (cntV s 8).toNat) 1 ≠ 1) (hb : (cntS (tkS (cntS s 8) (cntV s 8).toNat) 1).2 = 0) : VM Try.prog 48 ([.ptr 100000 0 0]) ([(100000, .var (rdC s))]) (.tup [.agg [.sl 19 ((tkL (cntS s 8) (cntV s 8).toNat).map nodC), bv false, ints .i8 [], ints .i32 [], i32 0], i64 0]) ([(100000, .var (rdC (cntS (tkS (cntS s 8) (cntV s 8).toNat) 1)))]) := by
  have q := cntV_rng (m := 8) h.i (by decide)
  have q9 := h.i
  have qa : (tkS (cntS s 8) (cntV s 8).toNat).In := (tkS_fit (cnt_fit h 8) _).i
  have qc := tkS_fit (cnt_fit h 8) (cntV s 8).toNat
  have qd := (cnt_fit qc 1).e
  have qe := (cnt_fit (lst_fit (cnt_fit qc 1)) 2147483647).e
  have oz1 := @tnum_1 (s) (0) (8) q9 (by omega) (by omega)
  have oz6 := @ptkb_y (s) h hh
  have oz7 := @VM.pre _ _ ([AV.ifc 169 (AV.agg [AV.ptr 100000 0 0]), AV.ptr 100001 0 0]) _ ([(950, Blk.slc 47 19 (List.map nodC (tkL (cntS s 8) (cntV s 8).toNat))), (100000, Blk.var [AV.sl 1 (List.map (row1 IntKind.u8) (tkS (cntS s 8) (cntV s 8).toNat).fst), i64 (tkS (cntS s 8) (cntV s 8).toNat).snd]), (100001, Blk.var [AV.own 950, bv false, AV.sl 1 [], AV.sl 1 [], i32 0])]) _ _ _ ([GI.sort]) _ (@texit_n (tkS (cntS s 8) (cntV s 8).toNat) (tkL (cntS s 8) (cntV s 8).toNat) ([]) ([]) (0) qa hx) (by kernel_rfl) (.n)
  have oz8 := @bad_v (cntS (tkS (cntS s 8) (cntV s 8).toNat) 1) qd
  exact VM.run (fn := Try.f48) (W := [.r [] [], .r [] [], .br false, .r [] [], .r [] [], .r [] [.callm [(100000, 100000), (6, 100001)] [] (rM oz1) (oM oz1)], .r [] [], .code [.any [3, 6, 10, 11, 13, 14, 15, 16, 17], .drop [6], .weak 19 (i64 (↑0 : Int)), .nilc 900 47 19 5 0, .blk 2 (Blk.var [AV.any, AV.any, AV.any, AV.any, AV.any]), .blk 5 (Blk.var [AV.own 900, bv false, AV.sl 1 [], AV.sl 1 [], i32 0]), .blk 100000 (Blk.var [AV.sl 1 (List.map (row1 IntKind.u8) (tkS (cntS s 8) 0).fst), i64 (tkS (cntS s 8) 0).snd]), .sort] (Exit.exit 0) (zO oz6), .r [] [.callm [(900, 950), (100000, 100000), (5, 100001)] [(950, 20000)] (rM oz7) (oM oz7)], .r [] [.callm [(100000, 100000)] [] (rM oz8) (oM oz8)], .r [] [], .br false, .r [] []]) (G := [.frz 20000, .drop [2, 4, 5], .sort]) Try.func48 (by kernel_rfl) (.c (show false = false by with_reducible rfl) <| .c oz1 <| .c (Weak.int (k := .i64) (show ((0) : Int) = ((↑0 : Int)) from (by omega))) <| .c (show BlkW (Blk.var [AV.lit (Value.slice none (0 : Nat) (0 : Nat)), bv false, AV.lit (Value.slice none (0 : Nat) (0 : Nat)), AV.lit (Value.slice none (0 : Nat) (0 : Nat)), i32 (0 : Int)]) (Blk.var [AV.any, AV.any, AV.any, AV.any, AV.any]) from (BlkW.var (m := [AV.any, AV.any, AV.any, AV.any, AV.any]) (.cons (Weak.any _) (.cons (Weak.any _) (.cons (Weak.any _) (.cons (Weak.any _) (.cons (Weak.any _) .nil))))))) <| .c (show BlkW (Blk.var [AV.own (900 : Nat), bv false, AV.lit (Value.slice none (0 : Nat) (0 : Nat)), AV.lit (Value.slice none (0 : Nat) (0 : Nat)), i32 (0 : Int)]) (Blk.var [AV.own (900 : Nat), bv false, AV.sl (1 : Nat) [], AV.sl (1 : Nat) [], i32 (0 : Int)]) from (BlkW.var (m := [AV.own 900, bv false, AV.sl 1 [], AV.sl 1 [], i32 0]) (.cons (.refl _) (.cons (.refl _) (.cons (Weak.nil _) (.cons (Weak.nil _) (.cons (.refl _) .nil))))))) <| .c (show BlkW (Blk.var [AV.sl 1 (List.map (row1 IntKind.u8) (cntS s 8).fst), i64 (cntS s 8).snd]) (Blk.var [AV.sl 1 (List.map (row1 IntKind.u8) (tkS (cntS s 8) 0).fst), i64 (tkS (cntS s 8) 0).snd]) from (BlkW.var (m := [AV.sl 1 (List.map (row1 IntKind.u8) (tkS (cntS s 8) 0).fst), i64 (tkS (cntS s 8) 0).snd]) (.cons (Weak.rows (rows_to (row1 IntKind.u8) (r := List.map (row1 IntKind.u8) (cntS s 8).fst) (l := (cntS s 8).fst) (m := (tkS (cntS s 8) 0).fst) rfl (show ((cntS s 8).fst) = ((tkS (cntS s 8) 0).fst) from (by rfl)))) (.cons (Weak.int (show (((cntS s 8).snd) : Int) = ((tkS (cntS s 8) 0).snd) from (by rfl))) .nil)))) <| .c oz6 <| .c oz7 <| .c oz8 <| .c (show ((cntS (tkS (cntS s 8) (cntV s 8).toNat) 1).snd != 0) = false by (simp; omega)) <| .n)
theorem ptake_yb (s : Rst) (h : s.Fit) (hh : ∀ k, k < (cntV s 8).toNat → (takeR (tkS (cntS s 8) k)).2 = 0) (hx : cntV (tkS (cntS s 8) (cntV s 8).toNat) 1 = 1) (hb : (cntS (lstS (cntS (tkS (cntS s 8) (cntV s 8).toNat) 1)) 2147483647).2 ≠ 0) : VM Try.prog 48 ([.ptr 100000 0 0]) ([(100000, .var (rdC s))]) (.tup [.agg [.sl 19 [], bv false, .sl 1 [], .sl 1 [], i32 0], i64 (cntS (lstS (cntS (tkS (cntS s 8) (cntV s 8).toNat) 1)) 2147483647).2]) ([(100000, .var (rdC (cntS (lstS (cntS (tkS (cntS s 8) (cntV s 8).toNat) 1)) 2147483647)))]) := by
  have q := cntV_rng (m := 8) h.i (by decide)
  have q9 := h.i
  have qa : (tkS (cntS s 8) (cntV s 8).toNat).In := (tkS_fit (cnt_fit h 8) _).i
  have qc := tkS_fit (cnt_fit h 8) (cntV s 8).toNat
  have qd := (cnt_fit qc 1).e
  have qe := (cnt_fit (lst_fit (cnt_fit qc 1)) 2147483647).e
  have oz1 := @tnum_1 (s) (0) (8) q9 (by omega) (by omega)
  have oz6 := @ptkb_y (s) h hh
  have oz7 := @VM.pre _ _ ([AV.ifc 169 (AV.agg [AV.ptr 100000 0 0]), AV.ptr 100001 0 0]) _ ([(950, Blk.slc 47 19 (List.map nodC (tkL (cntS s 8) (cntV s 8).toNat))), (100000, Blk.var [AV.sl 1 (List.map (row1 IntKind.u8) (tkS (cntS s 8) (cntV s 8).toNat).fst), i64 (tkS (cntS s 8) (cntV s 8).toNat).snd]), (100001, Blk.var [AV.own 950, bv false, AV.sl 1 [], AV.sl 1 [], i32 0])]) _ _ _ ([GI.sort]) _ (@texit_y (tkS (cntS s 8) (cntV s 8).toNat) (tkL (cntS s 8) (cntV s 8).toNat) ([]) ([]) (0) qa hx) (by kernel_rfl) (.n)
  have oz8 := @bad_v (cntS (lstS (cntS (tkS (cntS s 8) (cntV s 8).toNat) 1)) 2147483647) qe
  exact VM.run (fn := Try.f48) (W := [.r [] [], .r [] [], .br false, .r [] [], .r [] [], .r [] [.callm [(100000, 100000), (6, 100001)] [] (rM oz1) (oM oz1)], .r [] [], .code [.any [3, 6, 10, 11, 13, 14, 15, 16, 17], .drop [6], .weak 19 (i64 (↑0 : Int)), .nilc 900 47 19 5 0, .blk 2 (Blk.var [AV.any, AV.any, AV.any, AV.any, AV.any]), .blk 5 (Blk.var [AV.own 900, bv false, AV.sl 1 [], AV.sl 1 [], i32 0]), .blk 100000 (Blk.var [AV.sl 1 (List.map (row1 IntKind.u8) (tkS (cntS s 8) 0).fst), i64 (tkS (cntS s 8) 0).snd]), .sort] (Exit.exit 0) (zO oz6), .r [] [.callm [(900, 950), (100000, 100000), (5, 100001)] [(950, 20000)] (rM oz7) (oM oz7)], .r [] [.callm [(100000, 100000)] [] (rM oz8) (oM oz8)], .r [] [], .br true, .r [] []]) (G := [.drop [2, 4, 20000, 5], .weak 0 (AV.tup [AV.agg [AV.sl 19 [], bv false, AV.sl 1 [], AV.sl 1 [], i32 0], i64 (cntS (lstS (cntS (tkS (cntS s 8) (cntV s 8).toNat) 1)) 2147483647).snd]), .sort]) Try.func48 (by kernel_rfl) (.c (show false = false by with_reducible rfl) <| .c oz1 <| .c (Weak.int (k := .i64) (show ((0) : Int) = ((↑0 : Int)) from (by omega))) <| .c (show BlkW (Blk.var [AV.lit (Value.slice none (0 : Nat) (0 : Nat)), bv false, AV.lit (Value.slice none (0 : Nat) (0 : Nat)), AV.lit (Value.slice none (0 : Nat) (0 : Nat)), i32 (0 : Int)]) (Blk.var [AV.any, AV.any, AV.any, AV.any, AV.any]) from (BlkW.var (m := [AV.any, AV.any, AV.any, AV.any, AV.any]) (.cons (Weak.any _) (.cons (Weak.any _) (.cons (Weak.any _) (.cons (Weak.any _) (.cons (Weak.any _) .nil))))))) <| .c (show BlkW (Blk.var [AV.own (900 : Nat), bv false, AV.lit (Value.slice none (0 : Nat) (0 : Nat)), AV.lit (Value.slice none (0 : Nat) (0 : Nat)), i32 (0 : Int)]) (Blk.var [AV.own (900 : Nat), bv false, AV.sl (1 : Nat) [], AV.sl (1 : Nat) [], i32 (0 : Int)]) from (BlkW.var (m := [AV.own 900, bv false, AV.sl 1 [], AV.sl 1 [], i32 0]) (.cons (.refl _) (.cons (.refl _) (.cons (Weak.nil _) (.cons (Weak.nil _) (.cons (.refl _) .nil))))))) <| .c (show BlkW (Blk.var [AV.sl 1 (List.map (row1 IntKind.u8) (cntS s 8).fst), i64 (cntS s 8).snd]) (Blk.var [AV.sl 1 (List.map (row1 IntKind.u8) (tkS (cntS s 8) 0).fst), i64 (tkS (cntS s 8) 0).snd]) from (BlkW.var (m := [AV.sl 1 (List.map (row1 IntKind.u8) (tkS (cntS s 8) 0).fst), i64 (tkS (cntS s 8) 0).snd]) (.cons (Weak.rows (rows_to (row1 IntKind.u8) (r := List.map (row1 IntKind.u8) (cntS s 8).fst) (l := (cntS s 8).fst) (m := (tkS (cntS s 8) 0).fst) rfl (show ((cntS s 8).fst) = ((tkS (cntS s 8) 0).fst) from (by rfl)))) (.cons (Weak.int (show (((cntS s 8).snd) : Int) = ((tkS (cntS s 8) 0).snd) from (by rfl))) .nil)))) <| .c oz6 <| .c oz7 <| .c oz8 <| .c (show ((cntS (lstS (cntS (tkS (cntS s 8) (cntV s 8).toNat) 1)) 2147483647).snd != 0) = true by (simp; omega)) <| .c (show Weak (AV.tup [AV.agg [AV.lit (Value.slice none 0 0), bv false, AV.lit (Value.slice none 0 0), AV.lit (Value.slice none 0 0), i32 0], i64 (cntS (lstS (cntS (tkS (cntS s 8) (cntV s 8).toNat) 1)) 2147483647).snd]) (AV.tup [AV.agg [AV.sl 19 [], bv false, AV.sl 1 [], AV.sl 1 [], i32 0], i64 (cntS (lstS (cntS (tkS (cntS s 8) (cntV s 8).toNat) 1)) 2147483647).snd]) from (Weak.tup (.cons (Weak.agg (.cons (Weak.nil _) (.cons (.refl _) (.cons (Weak.nil _) (.cons (Weak.nil _) (.cons (.refl _) .nil)))))) (.cons (.refl _) .nil)))) <| .n)
theorem ptake_yy (s : Rst) (h : s.Fit) (hh : ∀ k, k < (cntV s 8).toNat → (takeR (tkS (cntS s 8) k)).2 = 0) (hx : cntV (tkS (cntS s 8) (cntV s 8).toNat) 1 = 1) (hb : (cntS (lstS (cntS (tkS (cntS s 8) (cntV s 8).toNat) 1)) 2147483647).2 = 0) : VM Try.prog 48 ([.ptr 100000 0 0]) ([(100000, .var (rdC s))]) (.tup [.agg [.sl 19 ((tkL (cntS s 8) (cntV s 8).toNat).map nodC), bv true, ints .i8 (lstW (cntS (tkS (cntS s 8) (cntV s 8).toNat) 1)), ints .i32 (lstB (cntS (tkS (cntS s 8) (cntV s 8).toNat) 1)), i32 (cntV (lstS (cntS (tkS (cntS s 8) (cntV s 8).toNat) 1)) 2147483647)], i64 0]) ([(100000, .var (rdC (cntS (lstS (cntS (tkS (cntS s 8) (cntV s 8).toNat) 1)) 2147483647)))]) := by
  have q := cntV_rng (m := 8) h.i (by decide)
  have q9 := h.i
  have qa : (tkS (cntS s 8) (cntV s 8).toNat).In := (tkS_fit (cnt_fit h 8) _).i
  have qc := tkS_fit (cnt_fit h 8) (cntV s 8).toNat
  have qd := (cnt_fit qc 1).e
  have qe := (cnt_fit (lst_fit (cnt_fit qc 1)) 2147483647).e
  have oz1 := @tnum_1 (s) (0) (8) q9 (by omega) (by omega)
  have oz6 := @ptkb_y (s) h hh
  have oz7 := @VM.pre _ _ ([AV.ifc 169 (AV.agg [AV.ptr 100000 0 0]), AV.ptr 100001 0 0]) _ ([(950, Blk.slc 47 19 (List.map nodC (tkL (cntS s 8) (cntV s 8).toNat))), (100000, Blk.var [AV.sl 1 (List.map (row1 IntKind.u8) (tkS (cntS s 8) (cntV s 8).toNat).fst), i64 (tkS (cntS s 8) (cntV s 8).toNat).snd]), (100001, Blk.var [AV.own 950, bv false, AV.sl 1 [], AV.sl 1 [], i32 0])]) _ _ _ ([GI.sort]) _ (@texit_y (tkS (cntS s 8) (cntV s 8).toNat) (tkL (cntS s 8) (cntV s 8).toNat) ([]) ([]) (0) qa hx) (by kernel_rfl) (.n)
  have oz8 := @bad_v (cntS (lstS (cntS (tkS (cntS s 8) (cntV s 8).toNat) 1)) 2147483647) qe
  exact VM.run (fn := Try.f48) (W := [.r [] [], .r [] [], .br false, .r [] [], .r [] [], .r [] [.callm [(100000, 100000), (6, 100001)] [] (rM oz1) (oM oz1)], .r [] [], .code [.any [3, 6, 10, 11, 13, 14, 15, 16, 17], .drop [6], .weak 19 (i64 (↑0 : Int)), .nilc 900 47 19 5 0, .blk 2 (Blk.var [AV.any, AV.any, AV.any, AV.any, AV.any]), .blk 5 (Blk.var [AV.own 900, bv false, AV.sl 1 [], AV.sl 1 [], i32 0]), .blk 100000 (Blk.var [AV.sl 1 (List.map (row1 IntKind.u8) (tkS (cntS s 8) 0).fst), i64 (tkS (cntS s 8) 0).snd]), .sort] (Exit.exit 0) (zO oz6), .r [] [.callm [(900, 950), (100000, 100000), (5, 100001)] [(950, 20000)] (rM oz7) (oM oz7)], .r [] [.callm [(100000, 100000)] [] (rM oz8) (oM oz8)], .r [] [], .br false, .r [] []]) (G := [.frz 20000, .drop [2, 4, 5], .sort]) Try.func48 (by kernel_rfl) (.c (show false = false by with_reducible rfl) <| .c oz1 <| .c (Weak.int (k := .i64) (show ((0) : Int) = ((↑0 : Int)) from (by omega))) <| .c (show BlkW (Blk.var [AV.lit (Value.slice none (0 : Nat) (0 : Nat)), bv false, AV.lit (Value.slice none (0 : Nat) (0 : Nat)), AV.lit (Value.slice none (0 : Nat) (0 : Nat)), i32 (0 : Int)]) (Blk.var [AV.any, AV.any, AV.any, AV.any, AV.any]) from (BlkW.var (m := [AV.any, AV.any, AV.any, AV.any, AV.any]) (.cons (Weak.any _) (.cons (Weak.any _) (.cons (Weak.any _) (.cons (Weak.any _) (.cons (Weak.any _) .nil))))))) <| .c (show BlkW (Blk.var [AV.own (900 : Nat), bv false, AV.lit (Value.slice none (0 : Nat) (0 : Nat)), AV.lit (Value.slice none (0 : Nat) (0 : Nat)), i32 (0 : Int)]) (Blk.var [AV.own (900 : Nat), bv false, AV.sl (1 : Nat) [], AV.sl (1 : Nat) [], i32 (0 : Int)]) from (BlkW.var (m := [AV.own 900, bv false, AV.sl 1 [], AV.sl 1 [], i32 0]) (.cons (.refl _) (.cons (.refl _) (.cons (Weak.nil _) (.cons (Weak.nil _) (.cons (.refl _) .nil))))))) <| .c (show BlkW (Blk.var [AV.sl 1 (List.map (row1 IntKind.u8) (cntS s 8).fst), i64 (cntS s 8).snd]) (Blk.var [AV.sl 1 (List.map (row1 IntKind.u8) (tkS (cntS s 8) 0).fst), i64 (tkS (cntS s 8) 0).snd]) from (BlkW.var (m := [AV.sl 1 (List.map (row1 IntKind.u8) (tkS (cntS s 8) 0).fst), i64 (tkS (cntS s 8) 0).snd]) (.cons (Weak.rows (rows_to (row1 IntKind.u8) (r := List.map (row1 IntKind.u8) (cntS s 8).fst) (l := (cntS s 8).fst) (m := (tkS (cntS s 8) 0).fst) rfl (show ((cntS s 8).fst) = ((tkS (cntS s 8) 0).fst) from (by rfl)))) (.cons (Weak.int (show (((cntS s 8).snd) : Int) = ((tkS (cntS s 8) 0).snd) from (by rfl))) .nil)))) <| .c oz6 <| .c oz7 <| .c oz8 <| .c (show ((cntS (lstS (cntS (tkS (cntS s 8) (cntV s 8).toNat) 1)) 2147483647).snd != 0) = false by (simp; omega)) <| .n)
end Go.Proofs.Ytgecmooedhnenaa
/- A block at which a reader stands, of a taker: as one. No condition. -/
namespace Go.Proofs.Ytgecmooedhnenaa
open Go.RowKit
set_option linter.unusedSimpArgs false
set_option linter.unusedVariables false
set_option linter.unnecessarySimpa false
theorem tkS_succ (s : Rst) (k : Nat) : tkS s (k + 1) = tkS (takeS s) k := by
  induction k with
  | zero => rfl
  | succ k ih => rw [tkS, ih]; rfl
def takeB : Nat → Rst → Int × Rst
  | 0, s => (0, s)
  | n + 1, s => if (takeR s).2 ≠ 0 then ((takeR s).2, takeS s) else takeB n (takeS s)
theorem takeB_y {n : Nat} : ∀ {s : Rst}, (∀ k, k < n → (takeR (tkS s k)).2 = 0) → takeB n s = (0, tkS s n) := by
  induction n with
  | zero => intro s _; rfl
  | succ n ih =>
    intro s h
    have h0 : (takeR s).2 = 0 := h 0 (by omega)
    rw [takeB, if_neg (by simpa using h0), tkS_succ]
    refine ih fun k hk => ?_
    rw [← tkS_succ]; exact h (k + 1) (by omega)
theorem takeB_n {n : Nat} : ∀ {s : Rst} {m : Nat}, m < n → (takeR (tkS s m)).2 ≠ 0 → (∀ k, k < m → (takeR (tkS s k)).2 = 0) → takeB n s = ((takeR (tkS s m)).2, tkS s (m + 1)) := by
  induction n with
  | zero => intro s m hm; omega
  | succ n ih =>
    intro s m hm hf h
    cases m with
    | zero => rw [takeB, if_pos (by exact hf)]; rfl
    | succ m =>
      have h0 : (takeR s).2 = 0 := h 0 (by omega)
      rw [takeB, if_neg (by simpa using h0), tkS_succ s m, tkS_succ s (m + 1)]
      rw [tkS_succ] at hf
      refine ih (by omega) hf fun k hk => ?_
      rw [← tkS_succ]; exact h (k + 1) (by omega)
theorem first_of {n : Nat} {p : Nat → Prop} : (∀ k, k < n → p k) ∨ ∃ m, m < n ∧ ¬ p m ∧ ∀ k, k < m → p k := by
  induction n with
  | zero => exact .inl fun k hk => by omega
  | succ n ih =>
    rcases ih with h | ⟨m, hm, hf, h⟩
    · by_cases hp : p n
      · exact .inl fun k hk => by
          by_cases hk2 : k < n
          · exact h k hk2
          · rw [show k = n by omega]; exact hp
      · exact .inr ⟨n, by omega, hp, h⟩
    · exact .inr ⟨m, by omega, hf, h⟩
def blc0 : Blc := ⟨[], false, [], [], 0⟩
def exN (s : Rst) (l : List Nod) : Blc := if cntV s 1 = 1 then ⟨l, true, lstW (cntS s 1), lstB (cntS s 1), cntV (lstS (cntS s 1)) 2147483647⟩ else ⟨l, false, [], [], 0⟩
def nodesT (s : Rst) : List Nod := tkL (cntS s 8) (cntV s 8).toNat
def blkT (s : Rst) : (Blc × Int) × Rst :=
  if (takeB (cntV s 8).toNat (cntS s 8)).1 ≠ 0 then ((blc0, (takeB (cntV s 8).toNat (cntS s 8)).1), (takeB (cntV s 8).toNat (cntS s 8)).2)
  else if (exS (stB s)).2 ≠ 0 then ((blc0, (exS (stB s)).2), exS (stB s)) else ((exN (stB s) (nodesT s), 0), exS (stB s))
theorem blkT_f {s : Rst} {m : Nat} (hm : m < (cntV s 8).toNat) (hf : (takeR (tkS (cntS s 8) m)).2 ≠ 0) (h : ∀ k, k < m → (takeR (tkS (cntS s 8) k)).2 = 0) : blkT s = ((blc0, (takeR (tkS (cntS s 8) m)).2), tkS (cntS s 8) (m + 1)) := by
  unfold blkT; rw [takeB_n hm hf h, if_pos (by exact hf)]
theorem blkT_b {s : Rst} (h : ∀ k, k < (cntV s 8).toNat → (takeR (tkS (cntS s 8) k)).2 = 0) (hb : (exS (stB s)).2 ≠ 0) : blkT s = ((blc0, (exS (stB s)).2), exS (stB s)) := by
  unfold blkT; rw [takeB_y h, if_neg (by simp), if_pos hb]
theorem blkT_y {s : Rst} (h : ∀ k, k < (cntV s 8).toNat → (takeR (tkS (cntS s 8) k)).2 = 0) (hb : (exS (stB s)).2 = 0) : blkT s = ((exN (stB s) (nodesT s), 0), exS (stB s)) := by
  unfold blkT; rw [takeB_y h, if_neg (by simp), if_neg (by simpa using hb)]
theorem blkT_cases (s : Rst) : (∃ m, m < (cntV s 8).toNat ∧ (takeR (tkS (cntS s 8) m)).2 ≠ 0 ∧ ∀ k, k < m → (takeR (tkS (cntS s 8) k)).2 = 0) ∨ ((∀ k, k < (cntV s 8).toNat → (takeR (tkS (cntS s 8) k)).2 = 0) ∧ (exS (stB s)).2 ≠ 0) ∨ ((∀ k, k < (cntV s 8).toNat → (takeR (tkS (cntS s 8) k)).2 = 0) ∧ (exS (stB s)).2 = 0) := by
  rcases first_of (n := (cntV s 8).toNat) (p := fun k => (takeR (tkS (cntS s 8) k)).2 = 0) with h | h
  · by_cases hb : (exS (stB s)).2 = 0
    · exact .inr (.inr ⟨h, hb⟩)
    · exact .inr (.inl ⟨h, hb⟩)
  · exact .inl h
theorem ptake_v (s : Rst) (h : s.Fit) : VM Try.prog 48 [.ptr 100000 0 0] [(100000, .var (rdC s))] (.tup [blc (blkT s).1.1, i64 (blkT s).1.2]) [(100000, .var (rdC (blkT s).2))] := by
  rcases blkT_cases s with ⟨m, hm, hf, hh⟩ | ⟨hh, hb⟩ | ⟨hh, hb⟩
  · rw [blkT_f hm hf hh]; exact ptake_f s m h hm hf hh
  · rw [blkT_b hh hb]
    unfold exS stB at hb ⊢
    by_cases hx : cntV (tkS (cntS s 8) (cntV s 8).toNat) 1 = 1
    · rw [if_pos hx] at hb ⊢; exact ptake_yb s h hh hx hb
    · rw [if_neg hx] at hb ⊢; exact ptake_nb s h hh hx hb
  · rw [blkT_y hh hb]
    unfold exS at hb ⊢
    unfold stB at hb ⊢
    unfold exN
    by_cases hx : cntV (tkS (cntS s 8) (cntV s 8).toNat) 1 = 1
    · rw [if_pos hx] at hb ⊢; rw [if_pos hx]; exact ptake_yy s h hh hx hb
    · rw [if_neg hx] at hb ⊢; rw [if_neg hx]; exact ptake_ny s h hh hx hb
end Go.Proofs.Ytgecmooedhnenaa
/- Blocks go there and back. No condition. (Plain.) -/
namespace Go.Proofs.Ytgecmooedhnenaa
open Go.RowKit
set_option linter.unusedSimpArgs false
set_option linter.unusedVariables false
set_option linter.unnecessarySimpa false
def headX (x : Blc) : Int := if x.ex = false ∧ (0 < x.w.length ∨ 0 < x.b.length ∨ x.nd ≠ 0) then 11 else if x.nd < 0 ∨ 16384 < x.w.length ∨ 16384 < x.b.length then 3 else 0
def nodesE : List Nod → Int
  | [] => 0
  | n :: l => if (nodeR n).2 ≠ 0 then (nodeR n).2 else nodesE l
theorem nodesE_y {l : List Nod} : (∀ n ∈ l, (nodeR n).2 = 0) → nodesE l = 0 := by
  induction l with
  | nil => intro _; rfl
  | cons n l ih =>
    intro h
    rw [nodesE, if_neg (by simpa using h n (by simp))]
    exact ih fun y hy => h y (by simp [hy])
theorem nodesE_0 {l : List Nod} : nodesE l = 0 → ∀ n ∈ l, (nodeR n).2 = 0 := by
  induction l with
  | nil => intro _ n hn; cases hn
  | cons n l ih =>
    intro h y hy
    by_cases q : (nodeR n).2 = 0
    · rw [nodesE, if_neg (by simpa using q)] at h
      rcases List.mem_cons.1 hy with e | hy
      · rw [e]; exact q
      · exact ih h y hy
    · rw [nodesE, if_pos q] at h; exact absurd h q
theorem nodesE_n {l : List Nod} : ∀ {m : Nat}, m < l.length → (nodeR (l.getD m default)).2 ≠ 0 → (∀ k, k < m → (nodeR (l.getD k default)).2 = 0) → nodesE l = (nodeR (l.getD m default)).2 := by
  induction l with
  | nil => intro m hm; simp at hm
  | cons n l ih =>
    intro m hm hf h
    cases m with
    | zero => rw [nodesE, if_pos (by exact hf)]; rfl
    | succ m =>
      have h0 : (nodeR n).2 = 0 := h 0 (by omega)
      rw [nodesE, if_neg (by simpa using h0)]
      exact ih (by simpa using hm) hf fun k hk => h (k + 1) (by omega)
def exitL (B : List Int) (x : Blc) : List Int := if x.ex = true then B ++ putN 1 ++ putN (x.w.length : Int) ++ smallL x.w ++ putN (x.b.length : Int) ++ wideL x.b ++ putN x.nd else B ++ putN 0
def blockR (x : Blc) : List Int × Int := if 8 < x.n.length then ([], 4) else if nodesE x.n ≠ 0 then ([], nodesE x.n) else if headX x ≠ 0 then ([], headX x) else (exitL (accB x.n (putN (x.n.length : Int)) x.n.length) x, 0)
def catB : List Nod → List Int
  | [] => []
  | n :: l => (nodeR n).1 ++ catB l
theorem accB_cons (n : Nod) (l : List Nod) (B : List Int) (k : Nat) : accB (n :: l) B (k + 1) = accB l (B ++ (nodeR n).1) k := by
  induction k with
  | zero => rfl
  | succ k ih => rw [accB, ih]; rfl
theorem accB_cat (l : List Nod) : ∀ B, accB l B l.length = B ++ catB l := by
  induction l with
  | nil => intro B; simp [accB, catB]
  | cons n l ih => intro B; rw [List.length_cons, accB_cons, ih, catB, List.append_assoc]
theorem exitL_app (B C : List Int) (x : Blc) : exitL (B ++ C) x = B ++ exitL C x := by
  unfold exitL; split <;> simp only [List.append_assoc]
theorem tkL_succ (s : Rst) (k : Nat) : tkL s (k + 1) = (takeR s).1 :: tkL (takeS s) k := by
  induction k with
  | zero => rfl
  | succ k ih => rw [tkL, ih, tkS_succ]; rfl
theorem tk_there (l : List Nod) : (∀ n ∈ l, n.Ok ∧ (nodeR n).2 = 0) → ∀ r, (∀ k, k < l.length → (takeR (tkS (catB l ++ r, 0) k)).2 = 0) ∧ tkS (catB l ++ r, 0) l.length = (r, 0) ∧ tkL (catB l ++ r, 0) l.length = l := by
  induction l with
  | nil => intro _ r; exact ⟨fun k hk => by simp at hk, rfl, rfl⟩
  | cons n l ih =>
    intro h r
    obtain ⟨ok, e⟩ := h n (by simp)
    obtain ⟨a1, a2⟩ := take_there ok e (catB l ++ r)
    obtain ⟨b1, b2, b3⟩ := ih (fun y hy => h y (by simp [hy])) r
    rw [catB, List.append_assoc, List.length_cons, tkS_succ, tkL_succ, a1, a2, b2, b3]
    refine ⟨fun k hk => ?_, rfl, rfl⟩
    cases k with
    | zero => exact congrArg Prod.snd a2
    | succ k => rw [tkS_succ, a1]; exact b1 k (by omega)
theorem tk_back {n : Nat} : ∀ {s : Rst}, s.In → (∀ k, k < n → (takeR (tkS s k)).2 = 0) → s.1 = catB (tkL s n) ++ (tkS s n).1 ∧ ∀ y ∈ tkL s n, y.Ok ∧ (nodeR y).2 = 0 := by
  induction n with
  | zero => intro s _ _; exact ⟨rfl, fun y hy => by cases hy⟩
  | succ n ih =>
    intro s h hh
    have h0 : (takeR s).2 = 0 := hh 0 (by omega)
    obtain ⟨a, b⟩ := take_back h h0
    have i2 : (takeS s).In := by
      have hb := h.b; have hl := h.l
      rw [b] at hb hl
      exact ⟨fun x hx => hb x (by simp [hx]), by rw [List.length_append] at hl; omega⟩
    obtain ⟨c, d⟩ := ih i2 fun k hk => by rw [← tkS_succ]; exact hh (k + 1) (by omega)
    rw [tkL_succ, tkS_succ, catB, a, List.append_assoc, ← c]
    refine ⟨b, fun y hy => ?_⟩
    rcases List.mem_cons.1 hy with e | hy
    · rw [e]; exact ⟨takeR_ok s h, by rw [a]⟩
    · exact d y hy
theorem ex_there {x : Blc} (ok : x.Ok) (h : headX x = 0) (l : List Nod) (b : List Int) : exS (exitL [] x ++ b, 0) = (b, 0) ∧ exN (exitL [] x ++ b, 0) l = ⟨l, x.ex, x.w, x.b, x.nd⟩ := by
  obtain ⟨ln, ex, w, bb, nd⟩ := x
  unfold headX at h
  dsimp only at h
  cases ex with
  | false =>
    have e : w = [] ∧ bb = [] ∧ nd = 0 := by
      by_cases q : 0 < w.length ∨ 0 < bb.length ∨ nd ≠ 0
      · rw [if_pos ⟨rfl, q⟩] at h; cases h
      · exact ⟨List.length_eq_zero_iff.1 (by omega), List.length_eq_zero_iff.1 (by omega), by omega⟩
    obtain ⟨rfl, rfl, rfl⟩ := e
    have a := cnt_there (v := 0) (m := 1) (by decide) (by decide) (by decide) b
    have hx : exitL [] ⟨ln, false, [], [], 0⟩ = putN 0 := rfl
    rw [hx]
    unfold exS exN
    rw [a.2, a.1, if_neg (by decide), if_neg (by decide)]
    exact ⟨rfl, rfl⟩
  | true =>
    rw [if_neg (by simp)] at h
    have e : 0 ≤ nd ∧ w.length ≤ 16384 ∧ bb.length ≤ 16384 := by
      by_cases q : nd < 0 ∨ 16384 < w.length ∨ 16384 < bb.length
      · rw [if_pos q] at h; cases h
      · omega
    have hn := ok.nd
    have a1 := cntS_there (v := 1) (m := 1) (by decide) (by decide)
    have a2 := cntV_there (v := 1) (m := 1) (by decide) (by decide)
    have b1 := cntS_there (v := nd) (m := 2147483647) ⟨e.1, hn.2⟩ (by decide)
    have b2 := cntV_there (v := nd) (m := 2147483647) ⟨e.1, hn.2⟩ (by decide)
    have l0 := lst_there e.2.1 e.2.2 ok.w ok.b
    have l1 := fun b => (l0 b).1
    have l2 := fun b => (l0 b).2.1
    have l3 := fun b => (l0 b).2.2
    unfold exitL exS exN
    simp only [if_true, List.nil_append, List.append_assoc, a1, a2, l1, l2, l3, b1, b2, and_self]
theorem ex_back {s : Rst} (h : s.In) (hs : (exS s).2 = 0) (l : List Nod) : s.1 = exitL [] (exN s l) ++ (exS s).1 ∧ headX (exN s l) = 0 := by
  unfold exS exN at *
  by_cases hx : cntV s 1 = 1
  · rw [if_pos hx] at hs
    rw [if_pos hx, if_pos hx]
    have i1 := cnt_in h 1
    have i2 := cnt_in i1 16384
    have i3 : (lst1 (cntS s 1)).In := sml_in i2 _
    have i4 := cnt_in i3 16384
    have i5 := lst_in i1
    have h5 := cnt_ok hs
    have h4 : (cntS (lst1 (cntS s 1)) 16384).2 = 0 := wid_ok h5
    have h3 := cnt_ok h4
    have h2 : (cntS (cntS s 1) 16384).2 = 0 := sml_ok h3
    have h1 := cnt_ok h2
    have r1 := cntV_rng (m := 16384) i1 (by decide)
    have r2 := cntV_rng (m := 16384) i3 (by decide)
    have r3 := cntV_rng (m := 2147483647) i5 (by decide)
    obtain ⟨c1, d1⟩ := sml_back i2 h3 r1.1
    obtain ⟨c2, d2⟩ := wid_back i4 h5 r2.1
    have e0 : s.1 = putN 1 ++ (cntS s 1).1 := by have := cnt_back h h1; rw [hx] at this; exact this
    have e1 : (cntS s 1).1 = putN ((lstW (cntS s 1)).length : Int) ++ (cntS (cntS s 1) 16384).1 := by
      rw [show ((lstW (cntS s 1)).length : Int) = cntV (cntS s 1) 16384 from d1]; exact cnt_back i1 h2
    have e2 : (cntS (cntS s 1) 16384).1 = smallL (lstW (cntS s 1)) ++ (lst1 (cntS s 1)).1 := c1
    have e3 : (lst1 (cntS s 1)).1 = putN ((lstB (cntS s 1)).length : Int) ++ (cntS (lst1 (cntS s 1)) 16384).1 := by
      rw [show ((lstB (cntS s 1)).length : Int) = cntV (lst1 (cntS s 1)) 16384 from d2]; exact cnt_back i3 h4
    have e4 : (cntS (lst1 (cntS s 1)) 16384).1 = wideL (lstB (cntS s 1)) ++ (lstS (cntS s 1)).1 := c2
    have e5 := cnt_back i5 hs
    have k1 : (lstW (cntS s 1)).length ≤ 16384 := by
      have : ((lstW (cntS s 1)).length : Int) = cntV (cntS s 1) 16384 := d1
      omega
    have k2 : (lstB (cntS s 1)).length ≤ 16384 := by
      have : ((lstB (cntS s 1)).length : Int) = cntV (lst1 (cntS s 1)) 16384 := d2
      omega
    refine ⟨?_, ?_⟩
    · unfold exitL
      simp only [if_true, List.nil_append, List.append_assoc]
      exact e0.trans (congrArg (putN 1 ++ ·) (e1.trans (congrArg (putN ((lstW (cntS s 1)).length : Int) ++ ·) (e2.trans (congrArg (smallL (lstW (cntS s 1)) ++ ·) (e3.trans (congrArg (putN ((lstB (cntS s 1)).length : Int) ++ ·) (e4.trans (congrArg (wideL (lstB (cntS s 1)) ++ ·) e5)))))))))
    · unfold headX
      dsimp only
      rw [if_neg (by simp), if_neg (by omega)]
  · rw [if_neg hx] at hs
    rw [if_neg hx, if_neg hx]
    have r := cntV_rng (m := 1) h (by decide)
    have e := cnt_back h hs
    rw [show cntV s 1 = 0 from by omega] at e
    refine ⟨?_, ?_⟩
    · unfold exitL
      rw [if_neg (by simp), List.nil_append]; exact e
    · unfold headX
      dsimp only
      rw [if_neg (by simp), if_neg (by simp)]
theorem tkS_ok {s : Rst} {n : Nat} (h : (tkS s n).2 = 0) : s.2 = 0 := by
  induction n with
  | zero => exact h
  | succ n ih => exact ih (takeS_ok h)
theorem exS_ok {s : Rst} (h : (exS s).2 = 0) : s.2 = 0 := by
  unfold exS at h
  split at h
  · exact cnt_ok (cnt_ok (sml_ok (cnt_ok (wid_ok (cnt_ok h)))))
  · exact cnt_ok h
theorem blk_there {x : Blc} (ok : x.Ok) (h : (blockR x).2 = 0) (b : List Int) : blkT ((blockR x).1 ++ b, 0) = ((x, 0), (b, 0)) := by
  unfold blockR at h ⊢
  by_cases h1 : 8 < x.n.length
  · rw [if_pos h1] at h; cases h
  rw [if_neg h1] at h ⊢
  by_cases h2 : nodesE x.n ≠ 0
  · rw [if_pos h2] at h; exact absurd h h2
  rw [if_neg h2] at h ⊢
  by_cases h3 : headX x ≠ 0
  · rw [if_pos h3] at h; exact absurd h h3
  rw [if_neg h3]
  have h3 : headX x = 0 := Classical.not_not.1 h3
  have hn := nodesE_0 (Classical.not_not.1 h2)
  obtain ⟨t1, t2, t3⟩ := tk_there x.n (fun n hn' => ⟨ok.n n hn', hn n hn'⟩) (exitL [] x ++ b)
  obtain ⟨x1, x2⟩ := ex_there ok h3 x.n b
  have c := cnt_there (v := (x.n.length : Int)) (m := 8) (by omega) (by omega) (by decide) (catB x.n ++ (exitL [] x ++ b))
  dsimp only
  rw [accB_cat, show putN (x.n.length : Int) ++ catB x.n = (putN (x.n.length : Int) ++ catB x.n) ++ [] from (List.append_nil _).symm, exitL_app, List.append_assoc, List.append_assoc]
  have hs : stB (putN (x.n.length : Int) ++ (catB x.n ++ (exitL [] x ++ b)), 0) = (exitL [] x ++ b, 0) := by
    unfold stB; rw [c.1, c.2, Int.toNat_natCast, t2]
  rw [blkT_y (by rw [c.1, c.2, Int.toNat_natCast]; exact t1) (by rw [hs, x1])]
  have hl : nodesT (putN (x.n.length : Int) ++ (catB x.n ++ (exitL [] x ++ b)), 0) = x.n := by
    unfold nodesT; rw [c.1, c.2, Int.toNat_natCast, t3]
  rw [hs, hl, x1, x2]
theorem blk_back {s : Rst} (h : s.In) (he : (blkT s).1.2 = 0) : (blockR (blkT s).1.1).2 = 0 ∧ s.1 = (blockR (blkT s).1.1).1 ++ (blkT s).2.1 ∧ (blkT s).2.2 = 0 ∧ (blkT s).1.1.Ok ∧ (blkT s).1.1.n.length ≤ 8 ∧ headX (blkT s).1.1 = 0 := by
  rcases blkT_cases s with ⟨m, hm, hf, hh⟩ | ⟨hh, hb⟩ | ⟨hh, hb⟩
  · rw [blkT_f hm hf hh] at he; exact absurd he hf
  · rw [blkT_b hh hb] at he; exact absurd he hb
  · rw [blkT_y hh hb]
    have i1 := cnt_in h 8
    obtain ⟨a1, a2⟩ := tk_back i1 hh
    have hst : (stB s).2 = 0 := exS_ok hb
    have hc : (cntS s 8).2 = 0 := tkS_ok hst
    have r := cntV_rng (m := 8) h (by decide)
    have ist : (stB s).In := by
      have hb := i1.b; have hl := i1.l
      rw [a1] at hb hl
      exact ⟨fun x hx => hb x (List.mem_append.2 (.inr hx)), by rw [List.length_append] at hl; unfold stB; omega⟩
    obtain ⟨x1, x2⟩ := ex_back ist hb (nodesT s)
    have ln : (nodesT s).length = (cntV s 8).toNat := tkL_len _ _
    have en : (exN (stB s) (nodesT s)).n = nodesT s := by unfold exN; split <;> rfl
    have hN : nodesE (nodesT s) = 0 := nodesE_y fun n hn => (a2 n hn).2
    have hB : blockR (exN (stB s) (nodesT s)) = (exitL (accB (nodesT s) (putN ((nodesT s).length : Int)) (nodesT s).length) (exN (stB s) (nodesT s)), 0) := by
      unfold blockR
      rw [en, if_neg (by omega), if_neg (by simpa using hN), if_neg (by simpa using x2)]
    have hok : (exN (stB s) (nodesT s)).Ok := by
      have on : ∀ n ∈ nodesT s, n.Ok := fun n hn => (a2 n hn).1
      unfold exN
      split
      · exact ⟨on, smlV8 _ _, widV32 _ _, cntV32 (lst_in (cnt_in ist _)) (by decide) (by decide)⟩
      · exact ⟨on, nil8, nil32, z32⟩
    refine ⟨by rw [hB], ?_, hb, hok, by rw [en, ln]; omega, x2⟩
    rw [hB]
    dsimp only
    rw [accB_cat, show putN ((nodesT s).length : Int) ++ catB (nodesT s) = (putN ((nodesT s).length : Int) ++ catB (nodesT s)) ++ [] from (List.append_nil _).symm, exitL_app, List.append_assoc, ← x1, List.append_assoc, show ((nodesT s).length : Int) = cntV s 8 from by rw [ln]; omega]
    rw [cnt_back h hc]
    exact congrArg (putN (cntV s 8) ++ ·) a1
end Go.Proofs.Ytgecmooedhnenaa
/- What is wrong with a block's exit. No condition. -/
namespace Go.Proofs.Ytgecmooedhnenaa
open Go.RowKit
set_option linter.unusedSimpArgs false
set_option linter.unusedVariables false
set_option linter.unnecessarySimpa false
theorem headMay_a (x : Blc) (h : x.ex = false) (h2 : 0 < x.w.length ∨ 0 < x.b.length ∨ x.nd ≠ 0) : VC Try.prog 115 ([blc x]) (i64 11) := by
  rcases Bool.eq_false_or_eq_true (!x.ex && (decide ((↑(List.map (row1 IntKind.i8) x.w).length : Int) > 0) || decide ((↑(List.map (row1 IntKind.i32) x.b).length : Int) > 0) || x.nd != 0)) with hc0 | hc0
  · have gc0 : x.ex = false ∧ (((↑(List.map (row1 IntKind.i8) x.w).length : Int) > 0 ∨ (↑(List.map (row1 IntKind.i32) x.b).length : Int) > 0) ∨ ¬x.nd = 0) := by first | (simp only [Bool.or_eq_true, Bool.or_eq_false_iff, Bool.and_eq_true, Bool.and_eq_false_iff, Bool.not_eq_true', Bool.not_eq_false', decide_eq_true_eq, decide_eq_false_iff_not, beq_iff_eq, bne_iff_ne, ne_eq, beq_eq_false_iff_ne, bne_eq_false_iff_eq, eqNums, Bool.and_true] at hc0; first | exact hc0 | omega) | simpa using hc0 | (simp at hc0 ⊢; omega) | (apply Classical.byContradiction; intro hn; simp_all [eqNums]; done) | (apply Classical.byContradiction; intro hn; simp [eqNums] at hc0 hn; omega)
    exact VC.run (fn := Try.f115) (W := [.r [] [], .r [] [], .r [] [.op false, .op false, .op false, .op false, .op false, .op false, .op false, .op false, .op false, .op false, .sel 1, .op false, .op false, .op false, .op false, .op false, .sel 1, .sel 2], .br true, .r [] []]) Try.func115 (by kernel_rfl) (.c hc0 <| .n)
  · have gc0 : x.ex = true ∨ (¬(↑(List.map (row1 IntKind.i8) x.w).length : Int) > 0 ∧ ¬(↑(List.map (row1 IntKind.i32) x.b).length : Int) > 0) ∧ x.nd = 0 := by first | (simp only [Bool.or_eq_true, Bool.or_eq_false_iff, Bool.and_eq_true, Bool.and_eq_false_iff, Bool.not_eq_true', Bool.not_eq_false', decide_eq_true_eq, decide_eq_false_iff_not, beq_iff_eq, bne_iff_ne, ne_eq, beq_eq_false_iff_ne, bne_eq_false_iff_eq, eqNums, Bool.and_true] at hc0; first | exact hc0 | omega) | simpa using hc0 | (simp at hc0 ⊢; omega) | (apply Classical.byContradiction; intro hn; simp_all [eqNums]; done) | (apply Classical.byContradiction; intro hn; simp [eqNums] at hc0 hn; omega)
    rcases Bool.eq_false_or_eq_true (decide (x.nd < 0) || decide ((↑(List.map (row1 IntKind.i8) x.w).length : Int) > 16384) || decide ((↑(List.map (row1 IntKind.i32) x.b).length : Int) > 16384)) with hc1 | hc1
    · have gc1 : (x.nd < 0 ∨ (↑(List.map (row1 IntKind.i8) x.w).length : Int) > 16384) ∨ (↑(List.map (row1 IntKind.i32) x.b).length : Int) > 16384 := by first | (simp only [Bool.or_eq_true, Bool.or_eq_false_iff, Bool.and_eq_true, Bool.and_eq_false_iff, Bool.not_eq_true', Bool.not_eq_false', decide_eq_true_eq, decide_eq_false_iff_not, beq_iff_eq, bne_iff_ne, ne_eq, beq_eq_false_iff_ne, bne_eq_false_iff_eq, eqNums, Bool.and_true] at hc1; first | exact hc1 | omega) | simpa using hc1 | (simp at hc1 ⊢; omega) | (apply Classical.byContradiction; intro hn; simp_all [eqNums]; done) | (apply Classical.byContradiction; intro hn; simp [eqNums] at hc1 hn; omega)
      exact (VC.run (fn := Try.f115) (W := [.r [] [], .r [] [], .r [] [.op false, .op false, .op false, .op false, .op false, .op false, .op false, .op false, .op false, .op false, .sel 1, .op false, .op false, .op false, .op false, .op false, .sel 1, .sel 2], .br false, .r [] [.op false, .op false, .op false, .op false, .sel 1, .op false, .op false, .op false, .op false, .sel 1], .br true, .r [] []]) (r := i64 3) Try.func115 (by kernel_rfl) (.c hc0 <| .c hc1 <| .n)).weak (WeakL.refl _) (Weak.int (show ((3) : Int) = (11) from (by (simp_all; done))))
    · have gc1 : (¬x.nd < 0 ∧ ¬(↑(List.map (row1 IntKind.i8) x.w).length : Int) > 16384) ∧ ¬(↑(List.map (row1 IntKind.i32) x.b).length : Int) > 16384 := by first | (simp only [Bool.or_eq_true, Bool.or_eq_false_iff, Bool.and_eq_true, Bool.and_eq_false_iff, Bool.not_eq_true', Bool.not_eq_false', decide_eq_true_eq, decide_eq_false_iff_not, beq_iff_eq, bne_iff_ne, ne_eq, beq_eq_false_iff_ne, bne_eq_false_iff_eq, eqNums, Bool.and_true] at hc1; first | exact hc1 | omega) | simpa using hc1 | (simp at hc1 ⊢; omega) | (apply Classical.byContradiction; intro hn; simp_all [eqNums]; done) | (apply Classical.byContradiction; intro hn; simp [eqNums] at hc1 hn; omega)
      exact (VC.run (fn := Try.f115) (W := [.r [] [], .r [] [], .r [] [.op false, .op false, .op false, .op false, .op false, .op false, .op false, .op false, .op false, .op false, .sel 1, .op false, .op false, .op false, .op false, .op false, .sel 1, .sel 2], .br false, .r [] [.op false, .op false, .op false, .op false, .sel 1, .op false, .op false, .op false, .op false, .sel 1], .br false, .r [] []]) (r := i64 0) Try.func115 (by kernel_rfl) (.c hc0 <| .c hc1 <| .n)).weak (WeakL.refl _) (Weak.int (show ((0) : Int) = (11) from (by (simp_all; done))))
theorem headMay_b (x : Blc) (h : ¬ (x.ex = false ∧ (0 < x.w.length ∨ 0 < x.b.length ∨ x.nd ≠ 0))) (h2 : x.nd < 0 ∨ 16384 < x.w.length ∨ 16384 < x.b.length) : VC Try.prog 115 ([blc x]) (i64 3) := by
  rcases Bool.eq_false_or_eq_true (!x.ex && (decide ((↑(List.map (row1 IntKind.i8) x.w).length : Int) > 0) || decide ((↑(List.map (row1 IntKind.i32) x.b).length : Int) > 0) || x.nd != 0)) with hc0 | hc0
  · have gc0 : x.ex = false ∧ (((↑(List.map (row1 IntKind.i8) x.w).length : Int) > 0 ∨ (↑(List.map (row1 IntKind.i32) x.b).length : Int) > 0) ∨ ¬x.nd = 0) := by first | (simp only [Bool.or_eq_true, Bool.or_eq_false_iff, Bool.and_eq_true, Bool.and_eq_false_iff, Bool.not_eq_true', Bool.not_eq_false', decide_eq_true_eq, decide_eq_false_iff_not, beq_iff_eq, bne_iff_ne, ne_eq, beq_eq_false_iff_ne, bne_eq_false_iff_eq, eqNums, Bool.and_true] at hc0; first | exact hc0 | omega) | simpa using hc0 | (simp at hc0 ⊢; omega) | (apply Classical.byContradiction; intro hn; simp_all [eqNums]; done) | (apply Classical.byContradiction; intro hn; simp [eqNums] at hc0 hn; omega)
    exact (VC.run (fn := Try.f115) (W := [.r [] [], .r [] [], .r [] [.op false, .op false, .op false, .op false, .op false, .op false, .op false, .op false, .op false, .op false, .sel 1, .op false, .op false, .op false, .op false, .op false, .sel 1, .sel 2], .br true, .r [] []]) (r := i64 11) Try.func115 (by kernel_rfl) (.c hc0 <| .n)).weak (WeakL.refl _) (Weak.int (show ((11) : Int) = (3) from (by (simp_all; done))))
  · have gc0 : x.ex = true ∨ (¬(↑(List.map (row1 IntKind.i8) x.w).length : Int) > 0 ∧ ¬(↑(List.map (row1 IntKind.i32) x.b).length : Int) > 0) ∧ x.nd = 0 := by first | (simp only [Bool.or_eq_true, Bool.or_eq_false_iff, Bool.and_eq_true, Bool.and_eq_false_iff, Bool.not_eq_true', Bool.not_eq_false', decide_eq_true_eq, decide_eq_false_iff_not, beq_iff_eq, bne_iff_ne, ne_eq, beq_eq_false_iff_ne, bne_eq_false_iff_eq, eqNums, Bool.and_true] at hc0; first | exact hc0 | omega) | simpa using hc0 | (simp at hc0 ⊢; omega) | (apply Classical.byContradiction; intro hn; simp_all [eqNums]; done) | (apply Classical.byContradiction; intro hn; simp [eqNums] at hc0 hn; omega)
    exact VC.run (fn := Try.f115) (W := [.r [] [], .r [] [], .r [] [.op false, .op false, .op false, .op false, .op false, .op false, .op false, .op false, .op false, .op false, .sel 1, .op false, .op false, .op false, .op false, .op false, .sel 1, .sel 2], .br false, .r [] [.op false, .op false, .op false, .op false, .sel 1, .op false, .op false, .op false, .op false, .sel 1], .br true, .r [] []]) Try.func115 (by kernel_rfl) (.c hc0 <| .c (show (decide (x.nd < 0) || decide ((↑(List.map (row1 IntKind.i8) x.w).length : Int) > 16384) || decide ((↑(List.map (row1 IntKind.i32) x.b).length : Int) > 16384)) = true by (simp; omega)) <| .n)
theorem headMay_c (x : Blc) (h : ¬ (x.ex = false ∧ (0 < x.w.length ∨ 0 < x.b.length ∨ x.nd ≠ 0))) (h2 : ¬ (x.nd < 0 ∨ 16384 < x.w.length ∨ 16384 < x.b.length)) : VC Try.prog 115 ([blc x]) (i64 0) := by
  rcases Bool.eq_false_or_eq_true (!x.ex && (decide ((↑(List.map (row1 IntKind.i8) x.w).length : Int) > 0) || decide ((↑(List.map (row1 IntKind.i32) x.b).length : Int) > 0) || x.nd != 0)) with hc0 | hc0
  · have gc0 : x.ex = false ∧ (((↑(List.map (row1 IntKind.i8) x.w).length : Int) > 0 ∨ (↑(List.map (row1 IntKind.i32) x.b).length : Int) > 0) ∨ ¬x.nd = 0) := by first | (simp only [Bool.or_eq_true, Bool.or_eq_false_iff, Bool.and_eq_true, Bool.and_eq_false_iff, Bool.not_eq_true', Bool.not_eq_false', decide_eq_true_eq, decide_eq_false_iff_not, beq_iff_eq, bne_iff_ne, ne_eq, beq_eq_false_iff_ne, bne_eq_false_iff_eq, eqNums, Bool.and_true] at hc0; first | exact hc0 | omega) | simpa using hc0 | (simp at hc0 ⊢; omega) | (apply Classical.byContradiction; intro hn; simp_all [eqNums]; done) | (apply Classical.byContradiction; intro hn; simp [eqNums] at hc0 hn; omega)
    exact (VC.run (fn := Try.f115) (W := [.r [] [], .r [] [], .r [] [.op false, .op false, .op false, .op false, .op false, .op false, .op false, .op false, .op false, .op false, .sel 1, .op false, .op false, .op false, .op false, .op false, .sel 1, .sel 2], .br true, .r [] []]) (r := i64 11) Try.func115 (by kernel_rfl) (.c hc0 <| .n)).weak (WeakL.refl _) (Weak.int (show ((11) : Int) = (0) from (by (simp_all; done))))
  · have gc0 : x.ex = true ∨ (¬(↑(List.map (row1 IntKind.i8) x.w).length : Int) > 0 ∧ ¬(↑(List.map (row1 IntKind.i32) x.b).length : Int) > 0) ∧ x.nd = 0 := by first | (simp only [Bool.or_eq_true, Bool.or_eq_false_iff, Bool.and_eq_true, Bool.and_eq_false_iff, Bool.not_eq_true', Bool.not_eq_false', decide_eq_true_eq, decide_eq_false_iff_not, beq_iff_eq, bne_iff_ne, ne_eq, beq_eq_false_iff_ne, bne_eq_false_iff_eq, eqNums, Bool.and_true] at hc0; first | exact hc0 | omega) | simpa using hc0 | (simp at hc0 ⊢; omega) | (apply Classical.byContradiction; intro hn; simp_all [eqNums]; done) | (apply Classical.byContradiction; intro hn; simp [eqNums] at hc0 hn; omega)
    have oz1 := (decide_eq_false (p := (x.nd < 0)) (by omega))
    exact VC.run (fn := Try.f115) (W := [.r [] [], .r [] [], .r [] [.op false, .op false, .op false, .op false, .op false, .op false, .op false, .op false, .op false, .op false, .sel 1, .op false, .op false, .op false, .op false, .op false, .sel 1, .sel 2], .br false, .r [] [.br true, .br true, .br true, .br true, .br false, .op false, .op false, .op false, .op false, .sel 1], .br false, .r [] []]) Try.func115 (by kernel_rfl) (.c hc0 <| .c oz1 <| .c oz1 <| .c oz1 <| .c oz1 <| .c oz1 <| .c (show (decide ((↑(List.map (row1 IntKind.i8) x.w).length : Int) > 16384) || decide ((↑(List.map (row1 IntKind.i32) x.b).length : Int) > 16384)) = false by (simp; omega)) <| .n)
theorem headMay_v (x : Blc) : VC Try.prog 115 [blc x] (i64 (headX x)) := by
  unfold headX
  split
  · rename_i h; exact headMay_a x h.1 h.2
  · rename_i h
    split
    · rename_i h2; exact headMay_b x h h2
    · rename_i h2; exact headMay_c x h h2
end Go.Proofs.Ytgecmooedhnenaa
