/- Texts of this claim, put together: PnB. No condition. -/
import Derived.Test.YtgecmooedhnenaaPackNodesG7
set_option linter.unusedVariables false
set_option linter.unusedSimpArgs false
set_option linter.unnecessarySimpa false
/- Nodes are bytes, and bytes begin with nodes: the law. No condition. -/
namespace Go.Proofs.Ytgecmooedhnenaa
open Go.RowKit
set_option linter.unusedSimpArgs false
set_option linter.unusedVariables false
set_option linter.unnecessarySimpa false

structure Byt (d : List Int) : Prop where
  b : ∀ x ∈ d, 0 ≤ x ∧ x ≤ 255
  l : d.length ≤ 3000
theorem Byt.fit {d : List Int} (h : Byt d) : Rst.Fit (d, 0) := ⟨h.b, by have := h.l; dsimp only; omega, by simp⟩
theorem toS_0 (d : List Int) : toS d (0, 0) = (d, 0) := by simp [toS]
theorem Byt.i {d : List Int} (h : Byt d) : Rrf.In d (0, 0) := ⟨h.b, by have := h.l; omega, Nat.zero_le _⟩
/-- The document's taker at the beginning. -/
theorem rtake0_v (d : List Int) (h : Byt d) : VM Try.prog 41 [.ptr 100000 0 0] [(100000, .var [.sl 1 (d.map (row1 .u8)), i64 0, i64 0])] (.tup [nod (takeR (d, 0)).1, i64 (takeR (d, 0)).2]) [(100000, .var (rrC d (takeRr d (0, 0))))] := by
  have q := rtake_v d (0, 0) h.i (by rw [toS_0]; exact h.fit)
  rw [toS_0] at q
  exact q
theorem takeR_2 {s : Rst} (h : (takeR s).2 = 0) : (takeS s).2 = 0 := by
  unfold takeR at h
  split at h
  · exact h
  · rename_i q; exact Classical.not_not.1 q
theorem takeR_le {s : Rst} (h : s.Fit) : (takeR s).1.w.length ≤ 100000 ∧ (takeR s).1.b.length ≤ 100000 := by
  unfold takeR
  split
  · exact ⟨Nat.zero_le _, Nat.zero_le _⟩
  · split
    · exact ⟨Nat.zero_le _, Nat.zero_le _⟩
    · exact takeN_le h
/-- What is left, by the document. -/
theorem rleft0_v (d : List Int) (h : Byt d) (he : (takeR (d, 0)).2 = 0) : VM Try.prog 44 [.ptr 100000 0 0] [(100000, .var (rrC d (takeRr d (0, 0))))] (i64 ((takeS (d, 0)).1.length : Nat)) [(100000, .var (rrC d (takeRr d (0, 0))))] := by
  have i := takeRr_in h.i
  have s := takeRr_s d (0, 0)
  rw [toS_0] at s
  have e2 := takeR_2 he
  have e3 : (takeRr d (0, 0)).2 = 0 := by rw [← toS_2 d, s]; exact e2
  have e4 : (takeS (d, 0)).1 = d.drop (takeRr d (0, 0)).1 := by rw [← s]; unfold toS; rw [if_pos e3]
  rw [e4]
  have q := rleft_y d (takeRr d (0, 0)).1 i.a i.l
  rw [show ((takeRr d (0, 0)).1, (0 : Int)) = takeRr d (0, 0) from Prod.ext rfl e3.symm] at q
  exact q
theorem nodeR_len (n : Nod) (okn : n.Ok) : (nodeR n).1.length ≤ 10000000 := by
  unfold nodeR
  split
  · exact Nat.zero_le _
  · split
    · exact Nat.zero_le _
    · split
      · exact Nat.zero_le _
      · rename_i h
        have hx := okn.b
        have h8 : (smallL n.w).length = n.w.length := List.length_map _
        have h32 := wideL_len n.b hx
        have p : ∀ x, (putN x).length ≤ 10 := putN_len
        dsimp only
        unfold nodeL
        repeat' split
        all_goals (first | unfold lb_1 | unfold lb_2 | unfold lb_3 | unfold lb_4 | unfold lb_6 | unfold lb_7 | unfold lb_8 | unfold lb_9)
        all_goals (simp only [List.length_append, List.length_cons, List.length_nil]; have p1 := p n.kd; have p2 := p n.na; have p3 := p n.nb; have p4 := p n.nk; have p5 := p n.ns; have p6 := p n.np; have p7 := p n.no; have p8 := p n.qm; have p9 := p n.qs; have pa := p n.rm; have pb := p n.rs; have pc := p (n.w.length : Int); have pd := p (n.b.length : Int); omega)
set_option maxRecDepth 100000 in
set_option maxHeartbeats 2000000 in
theorem packNodes_f (n : Nod) (d : List Int) (h : n.w.length > 2000 ∨ n.b.length > 200 ∨ d.length > 3000) : VC Try.prog 9 ([nod n, .sl 1 (d.map (row1 .u8))]) (bv true) := by
  have oz0 := @fewK0_v (n)
  have oz2 := @known34_v
  exact VC.run (fn := Try.f9) (W := [.r [] [], .r [] [.callr (rO oz0), .op false, .op false, .op false, .sel 1], .br true, .r [] [.callr (rO oz2)]]) Try.func9 (by kernel_rfl) (.c oz0 <| .c (show (!(decide (n.w.length ≤ 2000) && decide (n.b.length ≤ 200)) || decide ((↑(List.map (row1 IntKind.u8) d).length : Int) > 3000)) = true by (simp; omega)) <| .c oz2 <| .n)

set_option maxRecDepth 100000 in
set_option maxHeartbeats 2000000 in
theorem packNodes_y (n : Nod) (d : List Int) (okn : n.Ok) (hd : Byt d) (h1 : n.w.length ≤ 2000) (h2 : n.b.length ≤ 200) (he : (takeR (d, 0)).2 = 0) : VC Try.prog 9 ([nod n, .sl 1 (d.map (row1 .u8))]) (bv true) := by
  have ql := hd.l
  have qn := nodeR_len n okn
  have qf := hd.fit
  obtain ⟨t1, t2⟩ := takeR_le qf
  have qe : nodEq (takeR (d, 0)).1 (takeR (d, 0)).1 = true := (nodEq_iff _ _).2 rfl
  have w1 : n.w.length ≤ 100000 := by omega
  have w2 : n.b.length ≤ 100000 := by omega
  have z0 : ((takeR (d, 0)).2 != 0) = false := by rw [he]; rfl
  have z1 : ((nodeR n).2 == (nodeR n).2) = true := by simp
  have z2 : ((takeR (d, 0)).2 == (takeR (d, 0)).2) = true := by simp
  have z3 : (((takeS (d, 0)).1.length : Int) == ((takeS (d, 0)).1.length : Int)) = true := by simp
  have oz0 := @fewK0_v (n)
  have oz2 := @pnode_v (n) okn w1 w2
  have oz3 := @rnode_v (n) okn w1 w2
  have oz4 := @read_v (d) (by omega)
  have oz5 := @take_v ((d, 0)) qf
  have oz6 := @rtake0_v (d) hd
  have oz10 := @same06_v ((nodeR n).fst) qn
  have oz12 := (show true = true by with_reducible rfl)
  have oz19 := @refSame_v ((takeR (d, 0)).fst) ((takeR (d, 0)).fst) t1 t2
  have oz26 := @left_v (takeS (d, 0))
  have oz29 := @rleft0_v (d) hd he
  have oz35 := @known34_v
  exact VC.run (fn := Try.f9) (W := [.r [] [], .r [] [.callr (rO oz0), .op false, .op false, .op false, .sel 1], .br false, .r [] [.callr (rO oz2)], .r [] [.callr (rO oz3)], .r [] [.callm [] [(950, 20000)] (rM oz4) (oM oz4)], .r [] [.callm [(20000, 100000)] [] (rM oz5) (oM oz5)], .r [] [.callm [(39, 100000)] [] (rM oz6) (oM oz6)], .r [] [.br true, .br true, .br true, .callr (rO oz10), .br true, .br true, .br true, .br true, .br true, .br true, .br true, .br true, .callr (rO oz19), .br true, .br true, .br true, .br true, .br true, .br true, .callm [(20000, 100000)] [] (rM oz26) (oM oz26), .br true, .br true, .callm [(39, 100000)] [] (rM oz29) (oM oz29), .br true, .br true, .br false, .br true, .br true, .callr (rO oz35), .br true]]) Try.func9 (by kernel_rfl) (.c oz0 <| .c (show (!(decide (n.w.length ≤ 2000) && decide (n.b.length ≤ 200)) || decide ((↑(List.map (row1 IntKind.u8) d).length : Int) > 3000)) = false by (simp; omega)) <| .c oz2 <| .c oz3 <| .c oz4 <| .c oz5 <| .c oz6 <| .c z1 <| .c z1 <| .c z1 <| .c oz10 <| .c z1 <| .c oz12 <| .c oz12 <| .c oz12 <| .c oz12 <| .c z2 <| .c z2 <| .c z2 <| .c oz19 <| .c z2 <| .c qe <| .c qe <| .c qe <| .c z0 <| .c z0 <| .c oz26 <| .c z0 <| .c z0 <| .c oz29 <| .c z0 <| .c qe <| .c z0 <| .c qe <| .c z3 <| .c oz35 <| .c z3 <| .n)

set_option maxRecDepth 100000 in
set_option maxHeartbeats 2000000 in
theorem packNodes_n (n : Nod) (d : List Int) (okn : n.Ok) (hd : Byt d) (h1 : n.w.length ≤ 2000) (h2 : n.b.length ≤ 200) (he : (takeR (d, 0)).2 ≠ 0) : VC Try.prog 9 ([nod n, .sl 1 (d.map (row1 .u8))]) (bv true) := by
  have ql := hd.l
  have qn := nodeR_len n okn
  have qf := hd.fit
  obtain ⟨t1, t2⟩ := takeR_le qf
  have qe : nodEq (takeR (d, 0)).1 (takeR (d, 0)).1 = true := (nodEq_iff _ _).2 rfl
  have w1 : n.w.length ≤ 100000 := by omega
  have w2 : n.b.length ≤ 100000 := by omega
  have z0 : ((takeR (d, 0)).2 != 0) = true := by simpa using he
  have z1 : ((nodeR n).2 == (nodeR n).2) = true := by simp
  have z2 : ((takeR (d, 0)).2 == (takeR (d, 0)).2) = true := by simp
  have z3 : (((takeS (d, 0)).1.length : Int) == ((takeS (d, 0)).1.length : Int)) = true := by simp
  have oz0 := @fewK0_v (n)
  have oz2 := @pnode_v (n) okn w1 w2
  have oz3 := @rnode_v (n) okn w1 w2
  have oz4 := @read_v (d) (by omega)
  have oz5 := @take_v ((d, 0)) qf
  have oz6 := @rtake0_v (d) hd
  have oz10 := @same06_v ((nodeR n).fst) qn
  have oz12 := (show true = true by with_reducible rfl)
  have oz19 := @refSame_v ((takeR (d, 0)).fst) ((takeR (d, 0)).fst) t1 t2
  have oz24 := (show ((takeR (d, 0)).snd != 0) = !false by (simp; omega))
  have oz33 := @known34_v
  exact VC.run (fn := Try.f9) (W := [.r [] [], .r [] [.callr (rO oz0), .op false, .op false, .op false, .sel 1], .br false, .r [] [.callr (rO oz2)], .r [] [.callr (rO oz3)], .r [] [.callm [] [(950, 20000)] (rM oz4) (oM oz4)], .r [] [.callm [(20000, 100000)] [] (rM oz5) (oM oz5)], .r [] [.callm [(39, 100000)] [] (rM oz6) (oM oz6)], .r [] [.br true, .br true, .br true, .callr (rO oz10), .br true, .br true, .br true, .br true, .br true, .br true, .br true, .br true, .callr (rO oz19), .br true, .br true, .br true, .br true, .br false, .br false, .br false, .br false, .br false, .br true, .br true, .br true, .br true, .callr (rO oz33), .br true]]) Try.func9 (by kernel_rfl) (.c oz0 <| .c (show (!(decide (n.w.length ≤ 2000) && decide (n.b.length ≤ 200)) || decide ((↑(List.map (row1 IntKind.u8) d).length : Int) > 3000)) = false by (simp; omega)) <| .c oz2 <| .c oz3 <| .c oz4 <| .c oz5 <| .c oz6 <| .c z1 <| .c z1 <| .c z1 <| .c oz10 <| .c z1 <| .c oz12 <| .c oz12 <| .c oz12 <| .c oz12 <| .c z2 <| .c z2 <| .c z2 <| .c oz19 <| .c z2 <| .c qe <| .c qe <| .c qe <| .c oz24 <| .c oz24 <| .c oz24 <| .c oz24 <| .c oz24 <| .c qe <| .c z0 <| .c qe <| .c oz12 <| .c oz33 <| .c oz12 <| .n)
theorem packNodes_v (n : Nod) (d : List Int) (okn : n.Ok) (hd : ∀ x ∈ d, 0 ≤ x ∧ x ≤ 255) : VC Try.prog 9 [nod n, .sl 1 (d.map (row1 .u8))] (bv true) := by
  by_cases h : n.w.length > 2000 ∨ n.b.length > 200 ∨ d.length > 3000
  · exact packNodes_f n d h
  · have hB : Byt d := ⟨hd, by omega⟩
    by_cases he : (takeR (d, 0)).2 = 0
    · exact packNodes_y n d okn hB (by omega) (by omega) he
    · exact packNodes_n n d okn hB (by omega) (by omega) he
end Go.Proofs.Ytgecmooedhnenaa

