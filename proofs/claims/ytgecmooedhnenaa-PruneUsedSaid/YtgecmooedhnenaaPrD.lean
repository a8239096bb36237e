/- What is left of a block without what nobody takes, by the program: new numbers out of a map. No condition. -/
import Derived.Test.YtgecmooedhnenaaPrC
namespace Go.Proofs.Ytgecmooedhnenaa
open Go.RowKit
set_option linter.unusedSimpArgs false
set_option linter.unusedVariables false
set_option linter.unnecessarySimpa false

theorem look_snoc (a b n : Int) : ∀ A : List (Int × Int), lookI (A ++ [(a, b)]) n = if (A.any fun p => n == p.1) = true then lookI A n else if n = a then b else 0
  | [] => by simp only [List.nil_append, lookI, findI, List.any_nil, Bool.false_eq_true, if_false]; by_cases h : n = a <;> simp [h]
  | (k, v) :: A => by
    have ih := look_snoc a b n A
    simp only [List.cons_append, lookI, findI, List.any_cons, Bool.or_eq_true]
    by_cases h : (n == k) = true
    · simp [h]
    · simp only [h, if_false, Bool.false_eq_true, false_or]
      unfold lookI at ih
      cases h1 : findI (A ++ [(a, b)]) n with
      | none =>
        rw [h1] at ih
        cases h2 : findI A n with
        | none => rw [h2] at ih; exact ih
        | some q => obtain ⟨j, u⟩ := q; rw [h2] at ih; exact ih
      | some p =>
        obtain ⟨j', u'⟩ := p
        rw [h1] at ih
        cases h2 : findI A n with
        | none => rw [h2] at ih; exact ih
        | some q => obtain ⟨j, u⟩ := q; rw [h2] at ih; exact ih
theorem put_snoc (n x : Int) : ∀ A : List (Int × Int), (A.any fun p => n == p.1) = false → putI A n x = A ++ [(n, x)]
  | [], _ => rfl
  | (k, v) :: A, h => by
    simp only [List.any_cons, Bool.or_eq_false_iff] at h
    rw [putI, h.1, if_neg (by simp), put_snoc n x A h.2]; rfl
/-- The new numbers of the values, k nodes done. -/
def nowL (us : List Nat) : Nat → List (Int × Int)
  | 0 => [(0, 0)]
  | k + 1 => nowL us k ++ [(((us.getD k 0 : Nat) : Int) + 1, (k : Int) + 1)]
theorem now_keys (us : List Nat) (v : Int) : ∀ k, ((nowL us k).any fun p => v == p.1) = true ↔ v = 0 ∨ ∃ j, j < k ∧ v = (us.getD j 0 : Nat) + 1
  | 0 => by simp [nowL]
  | k + 1 => by
    rw [nowL, List.any_append, Bool.or_eq_true, now_keys us v k]
    simp only [List.any_cons, List.any_nil, Bool.or_false, beq_iff_eq]
    constructor
    · rintro ((h | ⟨j, h1, h2⟩) | h)
      · exact .inl h
      · exact .inr ⟨j, by omega, h2⟩
      · exact .inr ⟨k, by omega, h⟩
    · rintro (h | ⟨j, h1, h2⟩)
      · exact .inl (.inl h)
      · by_cases e : j = k
        · subst e; exact .inr h2
        · exact .inl (.inr ⟨j, by omega, h2⟩)
theorem now_0 (us : List Nat) : ∀ k, lookI (nowL us k) 0 = 0
  | 0 => rfl
  | k + 1 => by rw [nowL, look_snoc, if_pos ((now_keys us 0 k).2 (.inl rfl)), now_0 us k]
theorem us_lt {us : List Nat} (h : us.Pairwise (· < ·)) {i j : Nat} (hij : i < j) (hj : j < us.length) : us.getD i 0 < us.getD j 0 := by
  have := List.pairwise_iff_getElem.1 h i j (by omega) hj hij
  rw [List.getD_eq_getElem?_getD, List.getElem?_eq_getElem (by omega), List.getD_eq_getElem?_getD, List.getElem?_eq_getElem hj]; exact this
theorem now_at {us : List Nat} (h : us.Pairwise (· < ·)) : ∀ {k}, k ≤ us.length → ∀ {j}, j < k → lookI (nowL us k) ((us.getD j 0 : Nat) + 1) = (j : Int) + 1
  | k + 1, hk, j, hj => by
    rw [nowL, look_snoc]
    by_cases e : j = k
    · subst e
      rw [if_neg, if_pos rfl]
      rw [now_keys]
      rintro (h1 | ⟨i, h1, h2⟩)
      · omega
      · have := us_lt h h1 (by omega); omega
    · rw [if_pos ((now_keys _ _ _).2 (.inr ⟨j, by omega, rfl⟩)), now_at h (by omega) (by omega)]
theorem now_put {us : List Nat} (h : us.Pairwise (· < ·)) {k : Nat} (hk : k < us.length) : putI (nowL us k) ((us.getD k 0 : Nat) + 1) ((k : Int) + 1) = nowL us (k + 1) := by
  have ha : ((nowL us k).any fun p => ((us.getD k 0 : Nat) : Int) + 1 == p.1) = false := by
    cases e : (nowL us k).any fun p => ((us.getD k 0 : Nat) : Int) + 1 == p.1 with
    | false => rfl
    | true =>
      rcases (now_keys _ _ _).1 e with h1 | ⟨j, h1, h2⟩
      · omega
      · have := us_lt h h1 hk; omega
  rw [put_snoc _ _ _ ha, nowL]
theorem now_look {l : List Nod} (ho : orderedB l = true) {k : Nat} (hk : k < (usedL l).length) {v : Int} (hv : takesB (l.getD ((usedL l).getD k 0) default) v = true) : lookI (nowL (usedL l) k) v = numU (usedL l) v := by
  obtain ⟨h1, h2, h3⟩ := used_takes ho (used_at hk) hv
  rcases h3 with rfl | h3
  · rw [now_0, numU_0 _ (Int.le_refl 0)]
  · by_cases e : v = 0
    · subst e; rw [now_0, numU_0 _ (Int.le_refl 0)]
    · obtain ⟨j, hj, hjv⟩ := idx_used h3
      have hv2 : v = ((usedL l).getD j 0 : Nat) + 1 := by omega
      have hjk : j < k := by
        rcases Nat.lt_trichotomy j k with h | h | h
        · exact h
        · subst h; omega
        · have := us_lt (used_sorted l) h hj; omega
      rw [hv2, now_at (used_sorted l) (by omega) hjk, numU_up (used_sorted l) hj]
set_option maxRecDepth 100000 in
set_option maxHeartbeats 2000000 in
theorem pcopied_v (n : Nod) (hw : n.w.length ≤ 100000) (hb : n.b.length ≤ 100000) : VC Try.prog 81 ([nod n]) (nod n) := by
  have oz0 := @clone8_v (n.w) (by omega)
  have oz1 := @clone32_v (n.b) (by omega)
  exact VC.run (fn := Try.f81) (W := [.r [] [], .r [] [.callr (rO oz0), .callr (rO oz1)], .r [] []]) Try.func81 (by kernel_rfl) (.c oz0 <| .c oz1 <| .n)

noncomputable def pblock_c_I (l : List Nod) (k : Nat) : VS := stt 64 [(3, .own 900), (13, .sl 19 (l.map nodC)), (14, i64 l.length), (15, i64 k)] [(900, .slc 47 19 ((l.take k).map nodC))]
noncomputable def pblock_c_Z (l : List Nod) : VS := pblock_c_I l (l.length)
set_option maxRecDepth 100000 in
set_option maxHeartbeats 2000000 in
theorem pblock_c_s (l : List Nod) (hl : l.length ≤ 1000) (hw : ∀ n ∈ l, n.w.length ≤ 100000 ∧ n.b.length ≤ 100000) (k : Nat) (hk : k < l.length) : VT Try.prog (fnC Try.f20 [1, 1, 0, 1, 0, 0, 1, 0, 0]) (pblock_c_I l k) .normal (pblock_c_I l (k + 1)) := by
  have q := getD_in hw hk
  obtain ⟨q1, q2⟩ := q
  have q3 : (List.map nodC (l.take k)).length = k := by rw [List.length_map, List.length_take]; omega
  have q4 : l.take (k + 1) = l.take k ++ [l.getD k default] := by
    rw [List.take_add_one, List.getD_eq_getElem?_getD, List.getElem?_eq_getElem hk]; rfl
  have oz2 := (map_at (nodC) (default) (l := l) (i := k) hk)
  have oz3 := @pcopied_v (l.getD k default) q1 q2
  exact VT.run (W := [.r [] [], .br true, .r [] [.row (sO oz2)], .r [] [.callr (rO oz3)], .r [] [.n ((↑k : Int) + 1)]]) (G := [.any (rg [(5, 1), (16, 9)]), .drop [5, 22], .ren 23 900, .weak 15 (i64 (↑(k + 1) : Int)), .blk 900 (Blk.slc 47 19 (List.map nodC (List.take (k + 1) l))), .sort]) (by kernel_rfl) (.c (decide_eq_true (p := ((↑k : Int) < (↑l.length : Int))) (by omega)) <| .c (show 0 ≤ (↑k : Int) by omega) <| .c oz2 <| .c oz3 <| .c (show ((List.map nodC (List.take k l)).length + 1) * 168 ≤ 140737488355328 by omega) <| .c (show (List.map nodC (List.take k l)).length + 1 ≤ 9223372036854775807 by omega) <| .c (IntWalk.i64_in ((↑k : Int) + 1) (by omega)) <| .c (Weak.int (k := .i64) (show (((↑k : Int) + 1) : Int) = ((↑(k + 1) : Int)) from (by omega))) <| .c (show BlkW (Blk.slc 47 19 (List.map nodC (List.take k l) ++ [[i64 (l.getD k default).kd, i64 (l.getD k default).na, i64 (l.getD k default).nb, i64 (l.getD k default).nk, i64 (l.getD k default).ns, i64 (l.getD k default).np, i64 (l.getD k default).no, i8 (l.getD k default).za, i8 (l.getD k default).zb, AV.sl 1 (List.map (row1 IntKind.i8) (l.getD k default).w), AV.sl 1 (List.map (row1 IntKind.i32) (l.getD k default).b), i32 (l.getD k default).qm, i64 (l.getD k default).qs, i8 (l.getD k default).qz, i32 (l.getD k default).rm, i64 (l.getD k default).rs, i8 (l.getD k default).rz, i8 (l.getD k default).lo, i8 (l.getD k default).hi]])) (Blk.slc 47 19 (List.map nodC (List.take (k + 1) l))) from (BlkW.rows (rows_to (nodC) (r := List.map nodC (List.take k l) ++ [[i64 (l.getD k default).kd, i64 (l.getD k default).na, i64 (l.getD k default).nb, i64 (l.getD k default).nk, i64 (l.getD k default).ns, i64 (l.getD k default).np, i64 (l.getD k default).no, i8 (l.getD k default).za, i8 (l.getD k default).zb, AV.sl 1 (List.map (row1 IntKind.i8) (l.getD k default).w), AV.sl 1 (List.map (row1 IntKind.i32) (l.getD k default).b), i32 (l.getD k default).qm, i64 (l.getD k default).qs, i8 (l.getD k default).qz, i32 (l.getD k default).rm, i64 (l.getD k default).rs, i8 (l.getD k default).rz, i8 (l.getD k default).lo, i8 (l.getD k default).hi]]) (l := List.take k l ++ [Nod.mk (l.getD k default).kd (l.getD k default).na (l.getD k default).nb (l.getD k default).nk (l.getD k default).ns (l.getD k default).np (l.getD k default).no (l.getD k default).za (l.getD k default).zb (l.getD k default).w (l.getD k default).b (l.getD k default).qm (l.getD k default).qs (l.getD k default).qz (l.getD k default).rm (l.getD k default).rs (l.getD k default).rz (l.getD k default).lo (l.getD k default).hi]) (m := List.take (k + 1) l) (by first | (simp only [List.map_append, List.map_cons, List.map_nil, List.map_set, List.map_replicate, List.map_take, List.map_drop]; done) | rfl | (simp only [List.map_append, List.map_cons, List.map_nil, List.map_set, List.map_replicate, List.map_take, List.map_drop]; rfl) | (simp only [List.map_append, List.map_cons, List.map_nil, List.map_set, List.map_replicate, List.map_take, List.map_drop, nodC, ints]; done)) (show (List.take k l ++ [Nod.mk (l.getD k default).kd (l.getD k default).na (l.getD k default).nb (l.getD k default).nk (l.getD k default).ns (l.getD k default).np (l.getD k default).no (l.getD k default).za (l.getD k default).zb (l.getD k default).w (l.getD k default).b (l.getD k default).qm (l.getD k default).qs (l.getD k default).qz (l.getD k default).rm (l.getD k default).rs (l.getD k default).rz (l.getD k default).lo (l.getD k default).hi]) = (List.take (k + 1) l) from (by (rw [q4])))))) <| .n)
set_option maxRecDepth 100000 in
set_option maxHeartbeats 2000000 in
theorem pblock_c_e (l : List Nod) (hl : l.length ≤ 1000) (hw : ∀ n ∈ l, n.w.length ≤ 100000 ∧ n.b.length ≤ 100000) : VT Try.prog (fnC Try.f20 [1, 1, 0, 1, 0, 0, 1, 0, 0]) (pblock_c_I l (l.length)) (.exit 0) (pblock_c_Z l) := by
  exact VT.run (W := [.r [] [], .br false]) (G := [.any [16], .sort]) (by kernel_rfl) (.c (decide_eq_false (p := ((↑l.length : Int) < (↑l.length : Int))) (by omega)) <| .n)
theorem pblock_c (l : List Nod) (hl : l.length ≤ 1000) (hw : ∀ n ∈ l, n.w.length ≤ 100000 ∧ n.b.length ≤ 100000) : VT Try.prog (fnC Try.f20 [1, 1, 0, 1, 0, 0, 1, 0]) (pblock_c_I l 0) (.exit 0) (pblock_c_Z l) :=
  VT.loop (fun k => pblock_c_I l k) (l.length) (fun k hk => pblock_c_s l hl hw k hk) (pblock_c_e l hl hw) (by intro h; cases h)

noncomputable def pblock_m_I (l : List Nod) (k : Nat) : VS := stt 64 [(0, .sl 19 (l.map nodC)), (3, .own 900), (6, .mp 902), (29, ints .i64 (usI (usedL l))), (30, i64 (usedL l).length), (31, i64 k)] [(900, .slc 47 19 ((prunK l k).map nodC)), (902, .obj (mobj (nowL (usedL l) k)))]
noncomputable def pblock_m_Z (l : List Nod) : VS := pblock_m_I l ((usedL l).length)
set_option maxRecDepth 100000 in
set_option maxHeartbeats 2000000 in
theorem pblock_m_s (l : List Nod) (hl : l.length ≤ 1000) (hw : ∀ n ∈ l, n.w.length ≤ 100000 ∧ n.b.length ≤ 100000) (ho : orderedB l = true) (k : Nat) (hk : k < (usedL l).length) : VT Try.prog (fnC Try.f20 [1, 1, 1, 1, 0, 1, 0, 0]) (pblock_m_I l k) .normal (pblock_m_I l (k + 1)) := by
  have q := prunK_len l k
  have q2 : (List.map nodC (prunK l k)).length = (prunK l k).length := List.length_map _
  have q3 := used_len l
  have q4 := usI_at hk
  have q5 := (mem_used.1 (used_at hk)).1
  have q6 := @prunK_step l k hk
  have q7 : (usI (usedL l)).length = (usedL l).length := List.length_map _
  have q9 : (List.map (row1 .i64) (usI (usedL l))).length = (usI (usedL l)).length := List.length_map _
  have q8 : ((usI (usedL l)).getD k 0).toNat = (usedL l).getD k 0 := by rw [q4]; rfl
  have qw := getD_in hw q5
  have qa := now_look ho hk (takes_na _)
  have qb := fun h => now_look ho hk (takes_nb h)
  have qp := now_put (used_sorted l) hk
  have ql : (prunK l k).length = k := by unfold prunK; rw [List.length_map, List.length_take]; omega
  rw [← q8] at q6 qw qa
  simp only [← q8] at qb
  rw [← q4] at qp
  obtain ⟨qw1, qw2⟩ := qw
  unfold pruneN at q6
  have oz0 := (decide_eq_true (p := ((↑k : Int) < (↑(usedL l).length : Int))) (by omega))
  have oz1 := (show 0 ≤ (↑k : Int) by omega)
  have oz2 := (map_at (row1 IntKind.i64) (0) (l := usI (usedL l)) (i := k) (by omega))
  have oz3 := (show 0 ≤ (usI (usedL l)).getD k 0 by omega)
  have oz4 := (map_at (nodC) (default) (l := l) (i := ((usI (usedL l)).getD k 0).toNat) (by omega))
  have oz5 := @pcopied_v (l.getD ((usI (usedL l)).getD k 0).toNat default) qw1 qw2
  have oz6 := (show mobj (nowL (usedL l) k) = mobj (nowL (usedL l) k) from rfl)
  rcases Bool.eq_false_or_eq_true ((l.getD ((usI (usedL l)).getD k 0).toNat default).kd == 6) with hc0 | hc0
  · have gc0 : (l.getD ((usI (usedL l)).getD k 0).toNat default).kd = 6 := bet hc0
    exact VT.run (W := [.r [] [], .br true, .r [] [.row (sO oz2)], .r [] [.row (sO oz4), .callr (rO oz5)], .r [] [.mapl (nowL (usedL l) k)], .r [] [], .br true, .r [] [.mapl (nowL (usedL l) k)], .r [] [], .r [] [.n ((usI (usedL l)).getD k 0 + 1), .mapl (nowL (usedL l) k)], .r [] [.n ((↑k : Int) + 1)]]) (G := [.any (rg [(8, 2), (32, 31)]), .drop [9, 55], .ren 56 900, .weak 31 (i64 (↑(k + 1) : Int)), .blk 900 (Blk.slc 47 19 (List.map nodC (prunK l (k + 1)))), .blk 902 (Blk.obj (mobj (nowL (usedL l) (k + 1)))), .sort]) (by kernel_rfl) (.c oz0 <| .c oz1 <| .c oz2 <| .c oz3 <| .c oz4 <| .c oz5 <| .c oz6 <| .c hc0 <| .c oz6 <| .c (show ((List.map nodC (prunK l k)).length + 1) * 168 ≤ 140737488355328 by omega) <| .c (show (List.map nodC (prunK l k)).length + 1 ≤ 9223372036854775807 by omega) <| .c (IntWalk.i64_in ((usI (usedL l)).getD k 0 + 1) (by omega)) <| .c oz6 <| .c (IntWalk.i64_in ((↑k : Int) + 1) (by omega)) <| .c (Weak.int (k := .i64) (show (((↑k : Int) + 1) : Int) = ((↑(k + 1) : Int)) from (by omega))) <| .c (show BlkW (Blk.slc 47 19 (List.map nodC (prunK l k) ++ [[i64 (l.getD ((usI (usedL l)).getD k 0).toNat default).kd, i64 (lookI (nowL (usedL l) k) (l.getD ((usI (usedL l)).getD k 0).toNat default).na), i64 (lookI (nowL (usedL l) k) (l.getD ((usI (usedL l)).getD k 0).toNat default).nb), i64 (l.getD ((usI (usedL l)).getD k 0).toNat default).nk, i64 (l.getD ((usI (usedL l)).getD k 0).toNat default).ns, i64 (l.getD ((usI (usedL l)).getD k 0).toNat default).np, i64 (l.getD ((usI (usedL l)).getD k 0).toNat default).no, i8 (l.getD ((usI (usedL l)).getD k 0).toNat default).za, i8 (l.getD ((usI (usedL l)).getD k 0).toNat default).zb, AV.sl 1 (List.map (row1 IntKind.i8) (l.getD ((usI (usedL l)).getD k 0).toNat default).w), AV.sl 1 (List.map (row1 IntKind.i32) (l.getD ((usI (usedL l)).getD k 0).toNat default).b), i32 (l.getD ((usI (usedL l)).getD k 0).toNat default).qm, i64 (l.getD ((usI (usedL l)).getD k 0).toNat default).qs, i8 (l.getD ((usI (usedL l)).getD k 0).toNat default).qz, i32 (l.getD ((usI (usedL l)).getD k 0).toNat default).rm, i64 (l.getD ((usI (usedL l)).getD k 0).toNat default).rs, i8 (l.getD ((usI (usedL l)).getD k 0).toNat default).rz, i8 (l.getD ((usI (usedL l)).getD k 0).toNat default).lo, i8 (l.getD ((usI (usedL l)).getD k 0).toNat default).hi]])) (Blk.slc 47 19 (List.map nodC (prunK l (k + 1)))) from (BlkW.rows (rows_to (nodC) (r := List.map nodC (prunK l k) ++ [[i64 (l.getD ((usI (usedL l)).getD k 0).toNat default).kd, i64 (lookI (nowL (usedL l) k) (l.getD ((usI (usedL l)).getD k 0).toNat default).na), i64 (lookI (nowL (usedL l) k) (l.getD ((usI (usedL l)).getD k 0).toNat default).nb), i64 (l.getD ((usI (usedL l)).getD k 0).toNat default).nk, i64 (l.getD ((usI (usedL l)).getD k 0).toNat default).ns, i64 (l.getD ((usI (usedL l)).getD k 0).toNat default).np, i64 (l.getD ((usI (usedL l)).getD k 0).toNat default).no, i8 (l.getD ((usI (usedL l)).getD k 0).toNat default).za, i8 (l.getD ((usI (usedL l)).getD k 0).toNat default).zb, AV.sl 1 (List.map (row1 IntKind.i8) (l.getD ((usI (usedL l)).getD k 0).toNat default).w), AV.sl 1 (List.map (row1 IntKind.i32) (l.getD ((usI (usedL l)).getD k 0).toNat default).b), i32 (l.getD ((usI (usedL l)).getD k 0).toNat default).qm, i64 (l.getD ((usI (usedL l)).getD k 0).toNat default).qs, i8 (l.getD ((usI (usedL l)).getD k 0).toNat default).qz, i32 (l.getD ((usI (usedL l)).getD k 0).toNat default).rm, i64 (l.getD ((usI (usedL l)).getD k 0).toNat default).rs, i8 (l.getD ((usI (usedL l)).getD k 0).toNat default).rz, i8 (l.getD ((usI (usedL l)).getD k 0).toNat default).lo, i8 (l.getD ((usI (usedL l)).getD k 0).toNat default).hi]]) (l := prunK l k ++ [Nod.mk (l.getD ((usI (usedL l)).getD k 0).toNat default).kd (lookI (nowL (usedL l) k) (l.getD ((usI (usedL l)).getD k 0).toNat default).na) (lookI (nowL (usedL l) k) (l.getD ((usI (usedL l)).getD k 0).toNat default).nb) (l.getD ((usI (usedL l)).getD k 0).toNat default).nk (l.getD ((usI (usedL l)).getD k 0).toNat default).ns (l.getD ((usI (usedL l)).getD k 0).toNat default).np (l.getD ((usI (usedL l)).getD k 0).toNat default).no (l.getD ((usI (usedL l)).getD k 0).toNat default).za (l.getD ((usI (usedL l)).getD k 0).toNat default).zb (l.getD ((usI (usedL l)).getD k 0).toNat default).w (l.getD ((usI (usedL l)).getD k 0).toNat default).b (l.getD ((usI (usedL l)).getD k 0).toNat default).qm (l.getD ((usI (usedL l)).getD k 0).toNat default).qs (l.getD ((usI (usedL l)).getD k 0).toNat default).qz (l.getD ((usI (usedL l)).getD k 0).toNat default).rm (l.getD ((usI (usedL l)).getD k 0).toNat default).rs (l.getD ((usI (usedL l)).getD k 0).toNat default).rz (l.getD ((usI (usedL l)).getD k 0).toNat default).lo (l.getD ((usI (usedL l)).getD k 0).toNat default).hi]) (m := prunK l (k + 1)) (by first | (simp only [List.map_append, List.map_cons, List.map_nil, List.map_set, List.map_replicate, List.map_take, List.map_drop]; done) | rfl | (simp only [List.map_append, List.map_cons, List.map_nil, List.map_set, List.map_replicate, List.map_take, List.map_drop]; rfl) | (simp only [List.map_append, List.map_cons, List.map_nil, List.map_set, List.map_replicate, List.map_take, List.map_drop, nodC, ints]; done)) (show (prunK l k ++ [Nod.mk (l.getD ((usI (usedL l)).getD k 0).toNat default).kd (lookI (nowL (usedL l) k) (l.getD ((usI (usedL l)).getD k 0).toNat default).na) (lookI (nowL (usedL l) k) (l.getD ((usI (usedL l)).getD k 0).toNat default).nb) (l.getD ((usI (usedL l)).getD k 0).toNat default).nk (l.getD ((usI (usedL l)).getD k 0).toNat default).ns (l.getD ((usI (usedL l)).getD k 0).toNat default).np (l.getD ((usI (usedL l)).getD k 0).toNat default).no (l.getD ((usI (usedL l)).getD k 0).toNat default).za (l.getD ((usI (usedL l)).getD k 0).toNat default).zb (l.getD ((usI (usedL l)).getD k 0).toNat default).w (l.getD ((usI (usedL l)).getD k 0).toNat default).b (l.getD ((usI (usedL l)).getD k 0).toNat default).qm (l.getD ((usI (usedL l)).getD k 0).toNat default).qs (l.getD ((usI (usedL l)).getD k 0).toNat default).qz (l.getD ((usI (usedL l)).getD k 0).toNat default).rm (l.getD ((usI (usedL l)).getD k 0).toNat default).rs (l.getD ((usI (usedL l)).getD k 0).toNat default).rz (l.getD ((usI (usedL l)).getD k 0).toNat default).lo (l.getD ((usI (usedL l)).getD k 0).toNat default).hi]) = (prunK l (k + 1)) from (by (rw [q6, if_pos (by assumption), qa, qb (by assumption)])))))) <| .c (show BlkW (Blk.obj (mobj (putI (nowL (usedL l) k) ((usI (usedL l)).getD k 0 + 1) (↑(List.map nodC (prunK l k) ++ [[i64 (l.getD ((usI (usedL l)).getD k 0).toNat default).kd, i64 (lookI (nowL (usedL l) k) (l.getD ((usI (usedL l)).getD k 0).toNat default).na), i64 (lookI (nowL (usedL l) k) (l.getD ((usI (usedL l)).getD k 0).toNat default).nb), i64 (l.getD ((usI (usedL l)).getD k 0).toNat default).nk, i64 (l.getD ((usI (usedL l)).getD k 0).toNat default).ns, i64 (l.getD ((usI (usedL l)).getD k 0).toNat default).np, i64 (l.getD ((usI (usedL l)).getD k 0).toNat default).no, i8 (l.getD ((usI (usedL l)).getD k 0).toNat default).za, i8 (l.getD ((usI (usedL l)).getD k 0).toNat default).zb, AV.sl 1 (List.map (row1 IntKind.i8) (l.getD ((usI (usedL l)).getD k 0).toNat default).w), AV.sl 1 (List.map (row1 IntKind.i32) (l.getD ((usI (usedL l)).getD k 0).toNat default).b), i32 (l.getD ((usI (usedL l)).getD k 0).toNat default).qm, i64 (l.getD ((usI (usedL l)).getD k 0).toNat default).qs, i8 (l.getD ((usI (usedL l)).getD k 0).toNat default).qz, i32 (l.getD ((usI (usedL l)).getD k 0).toNat default).rm, i64 (l.getD ((usI (usedL l)).getD k 0).toNat default).rs, i8 (l.getD ((usI (usedL l)).getD k 0).toNat default).rz, i8 (l.getD ((usI (usedL l)).getD k 0).toNat default).lo, i8 (l.getD ((usI (usedL l)).getD k 0).toNat default).hi]]).length : Int)))) (Blk.obj (mobj (nowL (usedL l) (k + 1)))) from (BlkW.map (show putI (nowL (usedL l) k) ((usI (usedL l)).getD k 0 + 1) (↑(List.map nodC (prunK l k) ++ [[i64 (l.getD ((usI (usedL l)).getD k 0).toNat default).kd, i64 (lookI (nowL (usedL l) k) (l.getD ((usI (usedL l)).getD k 0).toNat default).na), i64 (lookI (nowL (usedL l) k) (l.getD ((usI (usedL l)).getD k 0).toNat default).nb), i64 (l.getD ((usI (usedL l)).getD k 0).toNat default).nk, i64 (l.getD ((usI (usedL l)).getD k 0).toNat default).ns, i64 (l.getD ((usI (usedL l)).getD k 0).toNat default).np, i64 (l.getD ((usI (usedL l)).getD k 0).toNat default).no, i8 (l.getD ((usI (usedL l)).getD k 0).toNat default).za, i8 (l.getD ((usI (usedL l)).getD k 0).toNat default).zb, AV.sl 1 (List.map (row1 IntKind.i8) (l.getD ((usI (usedL l)).getD k 0).toNat default).w), AV.sl 1 (List.map (row1 IntKind.i32) (l.getD ((usI (usedL l)).getD k 0).toNat default).b), i32 (l.getD ((usI (usedL l)).getD k 0).toNat default).qm, i64 (l.getD ((usI (usedL l)).getD k 0).toNat default).qs, i8 (l.getD ((usI (usedL l)).getD k 0).toNat default).qz, i32 (l.getD ((usI (usedL l)).getD k 0).toNat default).rm, i64 (l.getD ((usI (usedL l)).getD k 0).toNat default).rs, i8 (l.getD ((usI (usedL l)).getD k 0).toNat default).rz, i8 (l.getD ((usI (usedL l)).getD k 0).toNat default).lo, i8 (l.getD ((usI (usedL l)).getD k 0).toNat default).hi]]).length : Int) = nowL (usedL l) (k + 1) from (by (rw [← qp]; congr 1; simp; omega))))) <| .n)
  · have gc0 : ¬(l.getD ((usI (usedL l)).getD k 0).toNat default).kd = 6 := bef hc0
    exact VT.run (W := [.r [] [], .br true, .r [] [.row (sO oz2)], .r [] [.row (sO oz4), .callr (rO oz5)], .r [] [.mapl (nowL (usedL l) k)], .r [] [], .br false, .r [] [], .r [] [.n ((usI (usedL l)).getD k 0 + 1), .mapl (nowL (usedL l) k)], .r [] [.n ((↑k : Int) + 1)]]) (G := [.any (rg [(8, 2), (32, 16), (53, 10)]), .drop [9, 55], .ren 56 900, .weak 31 (i64 (↑(k + 1) : Int)), .blk 900 (Blk.slc 47 19 (List.map nodC (prunK l (k + 1)))), .blk 902 (Blk.obj (mobj (nowL (usedL l) (k + 1)))), .sort]) (by kernel_rfl) (.c oz0 <| .c oz1 <| .c oz2 <| .c oz3 <| .c oz4 <| .c oz5 <| .c oz6 <| .c hc0 <| .c (show ((List.map nodC (prunK l k)).length + 1) * 168 ≤ 140737488355328 by omega) <| .c (show (List.map nodC (prunK l k)).length + 1 ≤ 9223372036854775807 by omega) <| .c (IntWalk.i64_in ((usI (usedL l)).getD k 0 + 1) (by omega)) <| .c oz6 <| .c (IntWalk.i64_in ((↑k : Int) + 1) (by omega)) <| .c (Weak.int (k := .i64) (show (((↑k : Int) + 1) : Int) = ((↑(k + 1) : Int)) from (by omega))) <| .c (show BlkW (Blk.slc 47 19 (List.map nodC (prunK l k) ++ [[i64 (l.getD ((usI (usedL l)).getD k 0).toNat default).kd, i64 (lookI (nowL (usedL l) k) (l.getD ((usI (usedL l)).getD k 0).toNat default).na), i64 (l.getD ((usI (usedL l)).getD k 0).toNat default).nb, i64 (l.getD ((usI (usedL l)).getD k 0).toNat default).nk, i64 (l.getD ((usI (usedL l)).getD k 0).toNat default).ns, i64 (l.getD ((usI (usedL l)).getD k 0).toNat default).np, i64 (l.getD ((usI (usedL l)).getD k 0).toNat default).no, i8 (l.getD ((usI (usedL l)).getD k 0).toNat default).za, i8 (l.getD ((usI (usedL l)).getD k 0).toNat default).zb, AV.sl 1 (List.map (row1 IntKind.i8) (l.getD ((usI (usedL l)).getD k 0).toNat default).w), AV.sl 1 (List.map (row1 IntKind.i32) (l.getD ((usI (usedL l)).getD k 0).toNat default).b), i32 (l.getD ((usI (usedL l)).getD k 0).toNat default).qm, i64 (l.getD ((usI (usedL l)).getD k 0).toNat default).qs, i8 (l.getD ((usI (usedL l)).getD k 0).toNat default).qz, i32 (l.getD ((usI (usedL l)).getD k 0).toNat default).rm, i64 (l.getD ((usI (usedL l)).getD k 0).toNat default).rs, i8 (l.getD ((usI (usedL l)).getD k 0).toNat default).rz, i8 (l.getD ((usI (usedL l)).getD k 0).toNat default).lo, i8 (l.getD ((usI (usedL l)).getD k 0).toNat default).hi]])) (Blk.slc 47 19 (List.map nodC (prunK l (k + 1)))) from (BlkW.rows (rows_to (nodC) (r := List.map nodC (prunK l k) ++ [[i64 (l.getD ((usI (usedL l)).getD k 0).toNat default).kd, i64 (lookI (nowL (usedL l) k) (l.getD ((usI (usedL l)).getD k 0).toNat default).na), i64 (l.getD ((usI (usedL l)).getD k 0).toNat default).nb, i64 (l.getD ((usI (usedL l)).getD k 0).toNat default).nk, i64 (l.getD ((usI (usedL l)).getD k 0).toNat default).ns, i64 (l.getD ((usI (usedL l)).getD k 0).toNat default).np, i64 (l.getD ((usI (usedL l)).getD k 0).toNat default).no, i8 (l.getD ((usI (usedL l)).getD k 0).toNat default).za, i8 (l.getD ((usI (usedL l)).getD k 0).toNat default).zb, AV.sl 1 (List.map (row1 IntKind.i8) (l.getD ((usI (usedL l)).getD k 0).toNat default).w), AV.sl 1 (List.map (row1 IntKind.i32) (l.getD ((usI (usedL l)).getD k 0).toNat default).b), i32 (l.getD ((usI (usedL l)).getD k 0).toNat default).qm, i64 (l.getD ((usI (usedL l)).getD k 0).toNat default).qs, i8 (l.getD ((usI (usedL l)).getD k 0).toNat default).qz, i32 (l.getD ((usI (usedL l)).getD k 0).toNat default).rm, i64 (l.getD ((usI (usedL l)).getD k 0).toNat default).rs, i8 (l.getD ((usI (usedL l)).getD k 0).toNat default).rz, i8 (l.getD ((usI (usedL l)).getD k 0).toNat default).lo, i8 (l.getD ((usI (usedL l)).getD k 0).toNat default).hi]]) (l := prunK l k ++ [Nod.mk (l.getD ((usI (usedL l)).getD k 0).toNat default).kd (lookI (nowL (usedL l) k) (l.getD ((usI (usedL l)).getD k 0).toNat default).na) (l.getD ((usI (usedL l)).getD k 0).toNat default).nb (l.getD ((usI (usedL l)).getD k 0).toNat default).nk (l.getD ((usI (usedL l)).getD k 0).toNat default).ns (l.getD ((usI (usedL l)).getD k 0).toNat default).np (l.getD ((usI (usedL l)).getD k 0).toNat default).no (l.getD ((usI (usedL l)).getD k 0).toNat default).za (l.getD ((usI (usedL l)).getD k 0).toNat default).zb (l.getD ((usI (usedL l)).getD k 0).toNat default).w (l.getD ((usI (usedL l)).getD k 0).toNat default).b (l.getD ((usI (usedL l)).getD k 0).toNat default).qm (l.getD ((usI (usedL l)).getD k 0).toNat default).qs (l.getD ((usI (usedL l)).getD k 0).toNat default).qz (l.getD ((usI (usedL l)).getD k 0).toNat default).rm (l.getD ((usI (usedL l)).getD k 0).toNat default).rs (l.getD ((usI (usedL l)).getD k 0).toNat default).rz (l.getD ((usI (usedL l)).getD k 0).toNat default).lo (l.getD ((usI (usedL l)).getD k 0).toNat default).hi]) (m := prunK l (k + 1)) (by first | (simp only [List.map_append, List.map_cons, List.map_nil, List.map_set, List.map_replicate, List.map_take, List.map_drop]; done) | rfl | (simp only [List.map_append, List.map_cons, List.map_nil, List.map_set, List.map_replicate, List.map_take, List.map_drop]; rfl) | (simp only [List.map_append, List.map_cons, List.map_nil, List.map_set, List.map_replicate, List.map_take, List.map_drop, nodC, ints]; done)) (show (prunK l k ++ [Nod.mk (l.getD ((usI (usedL l)).getD k 0).toNat default).kd (lookI (nowL (usedL l) k) (l.getD ((usI (usedL l)).getD k 0).toNat default).na) (l.getD ((usI (usedL l)).getD k 0).toNat default).nb (l.getD ((usI (usedL l)).getD k 0).toNat default).nk (l.getD ((usI (usedL l)).getD k 0).toNat default).ns (l.getD ((usI (usedL l)).getD k 0).toNat default).np (l.getD ((usI (usedL l)).getD k 0).toNat default).no (l.getD ((usI (usedL l)).getD k 0).toNat default).za (l.getD ((usI (usedL l)).getD k 0).toNat default).zb (l.getD ((usI (usedL l)).getD k 0).toNat default).w (l.getD ((usI (usedL l)).getD k 0).toNat default).b (l.getD ((usI (usedL l)).getD k 0).toNat default).qm (l.getD ((usI (usedL l)).getD k 0).toNat default).qs (l.getD ((usI (usedL l)).getD k 0).toNat default).qz (l.getD ((usI (usedL l)).getD k 0).toNat default).rm (l.getD ((usI (usedL l)).getD k 0).toNat default).rs (l.getD ((usI (usedL l)).getD k 0).toNat default).rz (l.getD ((usI (usedL l)).getD k 0).toNat default).lo (l.getD ((usI (usedL l)).getD k 0).toNat default).hi]) = (prunK l (k + 1)) from (by (rw [q6, if_neg (by assumption), qa])))))) <| .c (show BlkW (Blk.obj (mobj (putI (nowL (usedL l) k) ((usI (usedL l)).getD k 0 + 1) (↑(List.map nodC (prunK l k) ++ [[i64 (l.getD ((usI (usedL l)).getD k 0).toNat default).kd, i64 (lookI (nowL (usedL l) k) (l.getD ((usI (usedL l)).getD k 0).toNat default).na), i64 (l.getD ((usI (usedL l)).getD k 0).toNat default).nb, i64 (l.getD ((usI (usedL l)).getD k 0).toNat default).nk, i64 (l.getD ((usI (usedL l)).getD k 0).toNat default).ns, i64 (l.getD ((usI (usedL l)).getD k 0).toNat default).np, i64 (l.getD ((usI (usedL l)).getD k 0).toNat default).no, i8 (l.getD ((usI (usedL l)).getD k 0).toNat default).za, i8 (l.getD ((usI (usedL l)).getD k 0).toNat default).zb, AV.sl 1 (List.map (row1 IntKind.i8) (l.getD ((usI (usedL l)).getD k 0).toNat default).w), AV.sl 1 (List.map (row1 IntKind.i32) (l.getD ((usI (usedL l)).getD k 0).toNat default).b), i32 (l.getD ((usI (usedL l)).getD k 0).toNat default).qm, i64 (l.getD ((usI (usedL l)).getD k 0).toNat default).qs, i8 (l.getD ((usI (usedL l)).getD k 0).toNat default).qz, i32 (l.getD ((usI (usedL l)).getD k 0).toNat default).rm, i64 (l.getD ((usI (usedL l)).getD k 0).toNat default).rs, i8 (l.getD ((usI (usedL l)).getD k 0).toNat default).rz, i8 (l.getD ((usI (usedL l)).getD k 0).toNat default).lo, i8 (l.getD ((usI (usedL l)).getD k 0).toNat default).hi]]).length : Int)))) (Blk.obj (mobj (nowL (usedL l) (k + 1)))) from (BlkW.map (show putI (nowL (usedL l) k) ((usI (usedL l)).getD k 0 + 1) (↑(List.map nodC (prunK l k) ++ [[i64 (l.getD ((usI (usedL l)).getD k 0).toNat default).kd, i64 (lookI (nowL (usedL l) k) (l.getD ((usI (usedL l)).getD k 0).toNat default).na), i64 (l.getD ((usI (usedL l)).getD k 0).toNat default).nb, i64 (l.getD ((usI (usedL l)).getD k 0).toNat default).nk, i64 (l.getD ((usI (usedL l)).getD k 0).toNat default).ns, i64 (l.getD ((usI (usedL l)).getD k 0).toNat default).np, i64 (l.getD ((usI (usedL l)).getD k 0).toNat default).no, i8 (l.getD ((usI (usedL l)).getD k 0).toNat default).za, i8 (l.getD ((usI (usedL l)).getD k 0).toNat default).zb, AV.sl 1 (List.map (row1 IntKind.i8) (l.getD ((usI (usedL l)).getD k 0).toNat default).w), AV.sl 1 (List.map (row1 IntKind.i32) (l.getD ((usI (usedL l)).getD k 0).toNat default).b), i32 (l.getD ((usI (usedL l)).getD k 0).toNat default).qm, i64 (l.getD ((usI (usedL l)).getD k 0).toNat default).qs, i8 (l.getD ((usI (usedL l)).getD k 0).toNat default).qz, i32 (l.getD ((usI (usedL l)).getD k 0).toNat default).rm, i64 (l.getD ((usI (usedL l)).getD k 0).toNat default).rs, i8 (l.getD ((usI (usedL l)).getD k 0).toNat default).rz, i8 (l.getD ((usI (usedL l)).getD k 0).toNat default).lo, i8 (l.getD ((usI (usedL l)).getD k 0).toNat default).hi]]).length : Int) = nowL (usedL l) (k + 1) from (by (rw [← qp]; congr 1; simp; omega))))) <| .n)
set_option maxRecDepth 100000 in
set_option maxHeartbeats 2000000 in
theorem pblock_m_e (l : List Nod) (hl : l.length ≤ 1000) (hw : ∀ n ∈ l, n.w.length ≤ 100000 ∧ n.b.length ≤ 100000) (ho : orderedB l = true) : VT Try.prog (fnC Try.f20 [1, 1, 1, 1, 0, 1, 0, 0]) (pblock_m_I l ((usedL l).length)) (.exit 2) (pblock_m_Z l) := by
  exact VT.run (W := [.r [] [], .br false]) (G := [.any [32], .sort]) (by kernel_rfl) (.c (decide_eq_false (p := ((↑(usedL l).length : Int) < (↑(usedL l).length : Int))) (by omega)) <| .n)
theorem pblock_m (l : List Nod) (hl : l.length ≤ 1000) (hw : ∀ n ∈ l, n.w.length ≤ 100000 ∧ n.b.length ≤ 100000) (ho : orderedB l = true) : VT Try.prog (fnC Try.f20 [1, 1, 1, 1, 0, 1, 0]) (pblock_m_I l 0) (.exit 2) (pblock_m_Z l) :=
  VT.loop (fun k => pblock_m_I l k) ((usedL l).length) (fun k hk => pblock_m_s l hl hw ho k hk) (pblock_m_e l hl hw ho) (by intro h; cases h)
end Go.Proofs.Ytgecmooedhnenaa

