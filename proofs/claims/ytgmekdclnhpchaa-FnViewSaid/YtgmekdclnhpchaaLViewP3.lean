/- Plain laws of those functions. -/
import Derived.Test.YtgmekdclnhpchaaLViewP2
namespace Go.AE.F
open Go.AE
def ctlG (a : Int) : Bool := decide (a < 32) || decide (a = 127)
def wideG (a : Int) : Bool := (decide (4352 ≤ a) && decide (a ≤ 4447)) || (decide (11904 ≤ a) && decide (a ≤ 42191)) || (decide (44032 ≤ a) && decide (a ≤ 55203)) || (decide (63744 ≤ a) && decide (a ≤ 64255)) || (decide (65281 ≤ a) && decide (a ≤ 65376)) || (decide (127744 ≤ a) && decide (a ≤ 129791))
def wG (a : Int) : Int := if (!ptG a || (decide (768 ≤ a) && decide (a ≤ 879))) = true then 0 else if (ctlG a || wideG a) = true then 2 else 1
theorem spec_WidthOf_eq (N : Nat) (a : Int) : zBE N a = some (wG a) := by
  unfold zBE wG
  simp only [spec_l01Point_eq, ifB_or, ifB_and, bindO_s, pNot_d, pGe_d, pLe_d, pEq_d, pLt_d]
  unfold ctlG wideG
  simp only [Bool.or_assoc, ge_iff_le]
  cases (!ptG a || (decide (768 ≤ a) && decide (a ≤ 879))) with
  | true => rfl
  | false => rw [ifB_f, ifB_some]; rfl
theorem impl_isControl_eq (N : Nat) (a : Int) : zAZ N a = some (ctlG a) := by
  unfold zAZ ctlG
  simp only [ifB_or, bindO_s, pLt_d, pEq_d]
theorem impl_WidthOf_eq (N : Nat) (hN : 10 < N) (a : Int) : zAF N a = some (wG a) := by
  obtain ⟨M, rfl⟩ : ∃ M, N = M + 8 := ⟨N - 8, by omega⟩
  unfold zAF wG
  simp only [impl_isPoint_eq, impl_within_eq, impl_isControl_eq, ifB_or, bindO_s, pNot_d]
  by_cases h0 : (!ptG a || (decide (768 ≤ a) && decide (a ≤ 879))) = true
  · rw [h0, ifB_t, if_pos rfl]
  have h0' : (!ptG a || (decide (768 ≤ a) && decide (a ≤ 879))) = false := by simpa using h0
  rw [h0', ifB_f, if_neg (by simp)]
  cases hc : ctlG a with
  | true => rfl
  | false =>
    rw [ifB_f, Bool.false_or]
    have st : ∀ (i : Nat) (lo hi : Int) (n : Nat) (k : Unit ⊕ (Int × Unit) → Option Int), i < 6 → ([(4352, (4447, ((), ()))), (11904, (42191, ((), ()))), (44032, (55203, ((), ()))), (63744, (64255, ((), ()))), (65281, (65376, ((), ()))), (127744, (129791, ((), ())))] : List (Int × Int × Unit × Unit))[i]? = some (lo, (hi, ((), ()))) →
        loopP (zAF.l6 (M + 8)) (n + 1) (a, 6, (i : Int), [(4352, (4447, ((), ()))), (11904, (42191, ((), ()))), (44032, (55203, ((), ()))), (63744, (64255, ((), ()))), (65281, (65376, ((), ()))), (127744, (129791, ((), ())))], ()) k =
        if (decide (lo ≤ a) && decide (a ≤ hi)) = true then k (.inr (2, ())) else loopP (zAF.l6 (M + 8)) n (a, 6, ((i + 1 : Nat) : Int), [(4352, (4447, ((), ()))), (11904, (42191, ((), ()))), (44032, (55203, ((), ()))), (63744, (64255, ((), ()))), (65281, (65376, ((), ()))), (127744, (129791, ((), ())))], ()) k := fun i lo hi n k hi6 hg => by
      rw [loopP_s]
      unfold zAF.l6
      simp only []
      have hix : idx ([(4352, (4447, ((), ()))), (11904, (42191, ((), ()))), (44032, (55203, ((), ()))), (63744, (64255, ((), ()))), (65281, (65376, ((), ()))), (127744, (129791, ((), ())))] : List (Int × Int × Unit × Unit)) (i : Int) = some (lo, (hi, ((), ()))) := by
        unfold idx
        rw [if_pos (by omega), Int.toNat_natCast, hg]
      rw [pLt_t (by omega), ifB_t, hix, bindO_s, bindO_s, impl_within_eq, bindO_s, pAdd_i (by omega) (by omega)]
      cases (decide (lo ≤ a) && decide (a ≤ hi)) <;> rfl
    refine (st 0 4352 4447 _ _ (by omega) rfl).trans ?_
    rw [st 1 11904 42191 _ _ (by omega) rfl, st 2 44032 55203 _ _ (by omega) rfl, st 3 63744 64255 _ _ (by omega) rfl, st 4 65281 65376 _ _ (by omega) rfl, st 5 127744 129791 _ _ (by omega) rfl]
    unfold wideG
    cases (decide (4352 ≤ a) && decide (a ≤ 4447)) with
    | true => rfl
    | false =>
    cases (decide (11904 ≤ a) && decide (a ≤ 42191)) with
    | true => rfl
    | false =>
    cases (decide (44032 ≤ a) && decide (a ≤ 55203)) with
    | true => rfl
    | false =>
    cases (decide (63744 ≤ a) && decide (a ≤ 64255)) with
    | true => rfl
    | false =>
    cases (decide (65281 ≤ a) && decide (a ≤ 65376)) with
    | true => rfl
    | false =>
    cases (decide (127744 ≤ a) && decide (a ≤ 129791)) with
    | true => rfl
    | false => rfl
theorem wG_rng (a : Int) : wG a = 0 ∨ wG a = 1 ∨ wG a = 2 := by
  unfold wG; split
  · exact .inl rfl
  · split
    · exact .inr (.inr rfl)
    · exact .inr (.inl rfl)
def stepW (C w : Int) (rc : Int × Int) : Int × Int := if w = 0 then rc else if C - rc.2 < w then (rc.1 + 1, w) else (rc.1, rc.2 + w)
def shG (p : Int) : List Int := if ctlG p = true then [94, pXor .i64 p 64] else [p]
def foldW (C : Int) (l : List Int) (rc : Int × Int) : Int × Int := l.foldl (fun rc s => stepW C (wG s) rc) rc
def ptM (C p : Int) (rc : Int × Int) : Int × Int := if p = 10 then (rc.1 + 1, 0) else foldW C (shG p) rc
def spotM (C : Int) (rc : Int × Int) : Int × Int × Unit := if rc.2 = C then (rc.1 + 1, (0, ())) else (rc.1, (rc.2, ()))
def rcOk (C : Int) (rc : Int × Int) : Prop := 0 ≤ rc.1 ∧ 0 ≤ rc.2 ∧ rc.2 ≤ C
theorem stepW_ok {C : Int} (hC : 2 ≤ C) (p : Int) {rc : Int × Int} (h : rcOk C rc) : rcOk C (stepW C (wG p) rc) ∧ rc.1 ≤ (stepW C (wG p) rc).1 ∧ (stepW C (wG p) rc).1 ≤ rc.1 + 1 ∧ (rc.1 < (stepW C (wG p) rc).1 ∨ ((stepW C (wG p) rc).1 = rc.1 ∧ rc.2 ≤ (stepW C (wG p) rc).2)) := by
  obtain ⟨h1, h2, h3⟩ := h
  have hw := wG_rng p
  unfold stepW
  by_cases h0 : wG p = 0
  · rw [if_pos h0]; exact ⟨⟨h1, h2, h3⟩, by omega, by omega, .inr ⟨rfl, by omega⟩⟩
  rw [if_neg h0]
  by_cases hl : C - rc.2 < wG p
  · rw [if_pos hl]
    exact ⟨⟨by show 0 ≤ rc.1 + 1; omega, by show 0 ≤ wG p; omega, by show wG p ≤ C; omega⟩, by show rc.1 ≤ rc.1 + 1; omega, by show rc.1 + 1 ≤ rc.1 + 1; omega, .inl (by show rc.1 < rc.1 + 1; omega)⟩
  · rw [if_neg hl]
    exact ⟨⟨h1, by show 0 ≤ rc.2 + wG p; omega, by show rc.2 + wG p ≤ C; omega⟩, by show rc.1 ≤ rc.1; omega, by show rc.1 ≤ rc.1 + 1; omega, .inr ⟨rfl, by show rc.2 ≤ rc.2 + wG p; omega⟩⟩
theorem shG_len (p : Int) : (shG p).length ≤ 2 := by unfold shG; split <;> simp
theorem ptM_ok {C : Int} (hC : 2 ≤ C) (p : Int) {rc : Int × Int} (h : rcOk C rc) : rcOk C (ptM C p rc) ∧ rc.1 ≤ (ptM C p rc).1 ∧ (ptM C p rc).1 ≤ rc.1 + 2 ∧ (rc.1 < (ptM C p rc).1 ∨ ((ptM C p rc).1 = rc.1 ∧ rc.2 ≤ (ptM C p rc).2)) := by
  unfold ptM
  by_cases h10 : p = 10
  · rw [if_pos h10]
    exact ⟨⟨by show 0 ≤ rc.1 + 1; have := h.1; omega, by show (0 : Int) ≤ 0; omega, by show (0 : Int) ≤ C; omega⟩, by show rc.1 ≤ rc.1 + 1; omega, by show rc.1 + 1 ≤ rc.1 + 2; omega, .inl (by show rc.1 < rc.1 + 1; omega)⟩
  rw [if_neg h10]
  unfold shG foldW
  cases ctlG p with
  | false =>
    rw [if_neg (by simp), List.foldl_cons, List.foldl_nil]
    obtain ⟨a1, a2, a3, a4⟩ := stepW_ok hC p h
    exact ⟨a1, a2, by omega, a4⟩
  | true =>
    rw [if_pos rfl, List.foldl_cons, List.foldl_cons, List.foldl_nil]
    obtain ⟨a1, a2, a3, a4⟩ := stepW_ok hC 94 h
    obtain ⟨b1, b2, b3, b4⟩ := stepW_ok hC (pXor .i64 p 64) a1
    refine ⟨b1, by omega, by omega, ?_⟩
    rcases a4 with a4 | ⟨a4, a5⟩
    · exact .inl (by omega)
    · rcases b4 with b4 | ⟨b4, b5⟩
      · exact .inl (by omega)
      · exact .inr ⟨by omega, by omega⟩
abbrev CellT := List Int × Int × Unit
abbrev PenT := Int × List (List CellT) × Int × Unit
def PenOk (C : Int) (rc : Int × Int) (s : PenT) : Prop := s.1 = C ∧ (s.2.1.length : Int) = rc.1 + 1 ∧ (∀ row ∈ s.2.1, (row.length : Int) = C) ∧ s.2.2.1 = rc.2
theorem pen_next (N : Nat) {C : Int} (hC : 2 ≤ C ∧ C ≤ 80) {r c : Int} (hr : r ≤ 100000) {s : PenT} (h1 : s.1 = C) (h2 : (s.2.1.length : Int) = r + 1) (h3 : ∀ row ∈ s.2.1, (row.length : Int) = C) : Tot (PenOk C (r + 1, 0)) (zAL N s) := by
  unfold zAL
  rw [pEq_t rfl, ifB_t, pLe_t (by omega), ifB_t, pLe_t (by omega), ifB_t]
  refine Tot.fit (by simp; omega) (Tot.ret ⟨h1, ?_, ?_, rfl⟩)
  · show ((pApp s.2.1 [_]).length : Int) = r + 1 + 1
    simp [pApp]; omega
  · intro row hrow
    have hrow : row ∈ pApp s.2.1 [pRepl s.1 ([], (0, ()))] := hrow
    unfold pApp at hrow
    rw [List.mem_append] at hrow
    rcases hrow with h | h
    · exact h3 row h
    · have : row = pRepl s.1 ([], (0, ())) := by simpa using h
      rw [this]
      unfold pRepl
      simp
      omega
theorem rows_set {C : Int} {rows : List (List CellT)} (h : ∀ row ∈ rows, (row.length : Int) = C) (i : Int) {row : List CellT} (hr : (row.length : Int) = C) : ∀ r ∈ pSet rows i row, (r.length : Int) = C := fun r hm => by
  unfold pSet at hm
  rcases List.mem_or_eq_of_mem_set hm with h1 | h1
  · exact h r h1
  · rw [h1]; exact hr
theorem wide_tot (N : Nat) (c : CellT) : Tot TT (zBG N c) := by
  unfold zBG
  rw [pLen_d]
  refine Tot.bind (P := TT) (Tot.ite (fun h => ?_) (fun _ => Tot.ret trivial)) fun _ _ => Tot.ret trivial
  have : 0 < c.1.length := by rw [pGt_d] at h; have := of_decide_eq_true h; omega
  obtain ⟨x, hx, _⟩ := idxT c.1 0 (by omega) (by omega)
  rw [hx, bindO_s, spec_WidthOf_eq, bindO_s]
  exact Tot.ret trivial
theorem shown_tot (N : Nat) {C : Int} (hC : 2 ≤ C ∧ C ≤ 80) {rc : Int × Int} (ho : rcOk C rc) (hr : rc.1 ≤ 100000) {s : PenT} (hs : PenOk C rc s) (p attr : Int) : Tot (PenOk C (stepW C (wG p) rc)) (zAV N s p attr) := by
  obtain ⟨h1, h2, h3, h4⟩ := hs
  obtain ⟨o1, o2, o3⟩ := ho
  have hw := wG_rng p
  unfold zAV
  rw [spec_WidthOf_eq, bindO_s, pLen_d]
  have el : pSub .i64 (s.2.1.length : Int) 1 = rc.1 := by rw [pSub_i (by omega) (by omega)]; omega
  have ec : pSub .i64 s.2.2.1 1 = rc.2 - 1 := by rw [h4, pSub_i (by omega) (by omega)]
  have ec2 : pSub .i64 (rc.2 - 1) 1 = rc.2 - 2 := by rw [pSub_i (by omega) (by omega)]; omega
  rw [el]
  simp only [ec, ec2]
  obtain ⟨row, hrow, hmem⟩ := idxT s.2.1 rc.1 o1 (by omega)
  have hlen := h3 row hmem
  simp only [hrow, bindO_s]
  by_cases h0 : wG p = 0
  · have e0 : stepW C (wG p) rc = rc := if_pos h0
    rw [pEq_t h0, ifB_t, e0]
    have same : Tot (PenOk C rc) (some s) := Tot.ret ⟨h1, h2, h3, h4⟩
    have part : ∀ (at' : Int), at' < C → Tot (PenOk C rc) (
      bindO (
        ifB (pGe at' 0) (
          bindO (idx row at') fun y93 =>
          bindO (idx row at') fun y95 =>
          bindO (idx row at') fun y97 =>
          some (pGt (pLen y97.1) 0)) (
          some false)) fun y91 =>
      bindO (
        ifB y91 (
          bindO (idx row at') fun y100 =>
          bindO (idx row at') fun y102 =>
          bindO (idx row at') fun y104 =>
          some (pLt (pLen y104.1) 4)) (
          some false)) fun y98 =>
      ifB y98 (
        bindO (idx row at') fun y106 =>
        bindO (idx row at') fun y108 =>
        bindO (idx row at') fun y110 =>
        bindO (zBH N y110.1) fun y111 =>
        ifB (pFit y111 [p]) (
          bindO (idx row at') fun y113 =>
          bindO (idx row at') fun y115 =>
          some (s.1, ((pSet s.2.1 rc.1 (pSet row at' ((pApp y111 [p]), y115.2))), s.2.2))) (
          none)) (
        some s)) := fun at' hat => by
      by_cases hneg : at' < 0
      · rw [pGe_f (by omega), ifB_f, bindO_s, ifB_f, bindO_s, ifB_f]; exact same
      rw [pGe_t (by omega), ifB_t]
      obtain ⟨cell, hc, _⟩ := idxT row at' (by omega) (by omega)
      simp only [hc, bindO_s]
      by_cases hz : cell.1.length = 0
      · rw [pLen_d, pGt_f (by omega), ifB_f, bindO_s, ifB_f]; exact same
      rw [pLen_d, pGt_t (by omega), ifB_t, bindO_s]
      by_cases hf : cell.1.length < 4
      · rw [pLt_t (by omega), ifB_t, copy_eq N _ (by omega), bindO_s, pFit_t (by simp; omega), ifB_t]
        refine Tot.ret ⟨h1, by show ((pSet s.2.1 rc.1 _).length : Int) = _; simp [pSet]; omega, rows_set h3 rc.1 (by simp [pSet]; omega), h4⟩
      · rw [pLt_f (by omega), ifB_f]; exact same
    refine Tot.bind (P := TT) ?_ fun y _ => ?_
    · refine Tot.ite (fun h => ?_) (fun _ => Tot.ret trivial)
      have hg : rc.2 - 1 > 0 := by rw [pGt_d] at h; exact of_decide_eq_true h
      obtain ⟨cell, hc, _⟩ := idxT row (rc.2 - 2) (by omega) (by omega)
      simp only [hc, bindO_s]
      exact Tot.bind (wide_tot N cell) fun _ _ => Tot.ret trivial
    · exact Tot.both (part (rc.2 - 2) (by omega)) (part (rc.2 - 1) (by omega))
  rw [pEq_f h0, ifB_f]
  have es : pSub .i64 s.1 s.2.2.1 = C - rc.2 := by rw [h1, h4, pSub_i (by omega) (by omega)]
  rw [es]
  have put : ∀ (q : PenT) (r c : Int), PenOk C (r, c) q → 0 ≤ r → r ≤ 100001 → 0 ≤ c → c + wG p ≤ C → Tot (PenOk C (r, c + wG p)) (
      bindO (idx q.2.1 (pSub Go.IntKind.i64 (pLen q.2.1) 1)) fun y152 =>
      bindO (idx y152 q.2.2.1) fun y153 =>
      bindO (idx q.2.1 (pSub Go.IntKind.i64 (pLen q.2.1) 1)) fun y154 =>
      bindO (idx y154 q.2.2.1) fun y155 =>
      ifB (pEq (wG p) 2) (
        bindO (idx (pSet q.2.1 (pSub Go.IntKind.i64 (pLen q.2.1) 1) (pSet y154 q.2.2.1 ([p], (attr, ())))) (pSub Go.IntKind.i64 (pLen q.2.1) 1)) fun y156 =>
        bindO (idx y156 (pAdd Go.IntKind.i64 q.2.2.1 1)) fun y157 =>
        bindO (idx (pSet q.2.1 (pSub Go.IntKind.i64 (pLen q.2.1) 1) (pSet y154 q.2.2.1 ([p], (attr, ())))) (pSub Go.IntKind.i64 (pLen q.2.1) 1)) fun y158 =>
        bindO (idx y158 (pAdd Go.IntKind.i64 q.2.2.1 1)) fun y159 =>
        some (q.1, ((pSet (pSet q.2.1 (pSub Go.IntKind.i64 (pLen q.2.1) 1) (pSet y154 q.2.2.1 ([p], (attr, ())))) (pSub Go.IntKind.i64 (pLen q.2.1) 1) (pSet y158 (pAdd Go.IntKind.i64 q.2.2.1 1) ([], (attr, ())))), ((pAdd Go.IntKind.i64 q.2.2.1 (wG p)), q.2.2.2)))) (
        some (q.1, ((pSet q.2.1 (pSub Go.IntKind.i64 (pLen q.2.1) 1) (pSet y154 q.2.2.1 ([p], (attr, ())))), ((pAdd Go.IntKind.i64 q.2.2.1 (wG p)), q.2.2.2))))) := fun q r c ⟨k1, k2, k3, k4⟩ r0 r1 c0 c1 => by
    have k2 : (q.2.1.length : Int) = r + 1 := k2
    have k4 : q.2.2.1 = c := k4
    have kl : pSub .i64 (pLen q.2.1) 1 = r := by rw [pLen_d, pSub_i (by omega) (by omega)]; omega
    have ka : pAdd .i64 c 1 = c + 1 := pAdd_i (by omega) (by omega)
    have kw : pAdd .i64 c (wG p) = c + wG p := pAdd_i (by omega) (by omega)
    rw [kl]
    simp only [k4, ka, kw]
    obtain ⟨row, hrow, hmem⟩ := idxT q.2.1 r r0 (by omega)
    have hl2 := k3 row hmem
    simp only [hrow, bindO_s]
    obtain ⟨cell, hc, _⟩ := idxT row c c0 (by omega)
    simp only [hc, bindO_s]
    have hs1 : ((pSet row c ([p], (attr, ()))).length : Int) = C := by simp [pSet]; omega
    have hs2 : ((pSet q.2.1 r (pSet row c ([p], (attr, ())))).length : Int) = r + 1 := by simp [pSet]; omega
    have hs3 := rows_set k3 r hs1
    refine Tot.ite (fun h2 => ?_) (fun _ => Tot.ret ⟨k1, hs2, hs3, rfl⟩)
    have hw2 : wG p = 2 := by rw [pEq_d] at h2; exact of_decide_eq_true h2
    obtain ⟨row2, hrow2, hmem2⟩ := idxT (pSet q.2.1 r (pSet row c ([p], (attr, ())))) r r0 (by omega)
    have hl3 := hs3 row2 hmem2
    simp only [hrow2, bindO_s]
    obtain ⟨cell2, hc2, _⟩ := idxT row2 (c + 1) (by omega) (by omega)
    simp only [hc2, bindO_s]
    exact Tot.ret ⟨k1, by show ((pSet (pSet q.2.1 r _) r _).length : Int) = r + 1; simp [pSet]; omega, rows_set hs3 r (by simp [pSet]; omega), rfl⟩
  by_cases hl : C - rc.2 < wG p
  · have e1 : stepW C (wG p) rc = (rc.1 + 1, 0 + wG p) := by unfold stepW; rw [if_neg h0, if_pos hl, Int.zero_add]
    rw [pLt_t hl, ifB_t, e1]
    refine Tot.bind (pen_next N hC (c := 0) (by omega) h1 h2 h3) fun q hq => ?_
    have hq1 := put q (rc.1 + 1) 0 hq (by omega) (by omega) (by omega) (by omega)
    obtain ⟨x, hx1, hx2⟩ := hq1
    refine ⟨x, ?_, hx2⟩
    rw [← hx1]
    obtain ⟨q1, q2, q3, q4⟩ := hq
    have q2 : (q.2.1.length : Int) = rc.1 + 1 + 1 := q2
    obtain ⟨row5, hrow5, _⟩ := idxT q.2.1 (pSub .i64 (pLen q.2.1) 1) (by rw [pLen_d, pSub_i (by omega) (by omega)]; omega) (by rw [pLen_d, pSub_i (by omega) (by omega)]; omega)
    simp only [hrow5, bindO_s]
  · have e1 : stepW C (wG p) rc = (rc.1, rc.2 + wG p) := by unfold stepW; rw [if_neg h0, if_neg hl]
    rw [pLt_f (by omega), ifB_f, e1]
    have hq1 := put s rc.1 rc.2 ⟨h1, h2, h3, h4⟩ o1 (by omega) o2 (by omega)
    obtain ⟨x, hx1, hx2⟩ := hq1
    refine ⟨x, ?_, hx2⟩
    rw [← hx1, pLen_d, el]
    simp only [hrow, bindO_s]
end Go.AE.F
namespace Go.AE.F
open Go.AE
abbrev GridT := Int × Int × List CellT × Int × Int × Bool × Int × Unit
def okP (i : Nat) (p : Int) : Bool := ptG p && !ctlG p && ((decide (i = 0)) != decide (wG p = 0))
def wideC (c : CellT) : Bool := match c.1 with | [] => false | p :: _ => decide (wG p = 2)
def cellG (c : CellT) : Bool := decide (c.1.length ≤ 4) && decide (0 ≤ c.2.1) && decide (c.2.1 ≤ 3) && (List.range c.1.length).all fun i => okP i (c.1.getD i 0)
theorem scan_loop {D E R : Type} {step : D → (D → Option R) → (E → Option R) → Option R} (mk : Nat → D) (p : Nat → Bool) (n : Nat) (k : E → Option R) (xe xb : E)
    (hs : ∀ i kn, i < n → step (mk i) kn k = if p i = true then kn (mk (i + 1)) else k xb) (he : ∀ kn, step (mk n) kn k = k xe) :
    ∀ (m i f : Nat), n - i = m → i ≤ n → m < f → loopP step f (mk i) k = if ((List.range n).drop i).all p = true then k xe else k xb := by
  intro m
  induction m with
  | zero =>
    intro i f hm hi hf
    obtain ⟨f, rfl⟩ := succ_of hf
    have : i = n := by omega
    subst this
    rw [loopP_s, he, List.drop_eq_nil_of_le (by simp)]
    rfl
  | succ m ih =>
    intro i f hm hi hf
    obtain ⟨f, rfl⟩ := succ_of hf
    rw [loopP_s, hs i _ (by omega), drop_c (by simp; omega : i < (List.range n).length), List.all_cons, List.getElem_range]
    cases hp : p i with
    | false => simp
    | true =>
      simp only [if_true, Bool.true_and]
      exact ih (i + 1) f (by omega) (by omega) (by omega)
theorem getD_lt {l : List Int} {i : Nat} (h : i < l.length) : l.getD i 0 = l[i] := by simp [List.getD, h]
theorem bool_ne (a b : Bool) : (a != b) = !(a == b) := by cases a <;> cases b <;> rfl
theorem impl_cellRight_eq (N : Nat) (c : CellT) (hl : c.1.length ≤ 1048576) (hN : c.1.length + 20 < N) : zAD N c = some (cellG c) := by
  unfold zAD cellG
  simp only [pLen_d]
  have := scan_loop (step := zAD.l2 N) (fun i => (c.1, (c.1.length : Int), (i : Int), c, ())) (fun i => okP i (c.1.getD i 0)) c.1.length (onSum (fun d => let x40 := d.1; bindO (ifB (pLe (pLen x40.1) 4) (bindO (zAI N x40.2.1 0 3) fun y42 => some y42) (some false)) fun y41 => some y41) (fun d => let x43 := d.1; some x43)) (.inl (c, ())) (.inr (false, ())) (fun i kn hi => by
      unfold zAD.l2
      simp only []
      rw [pLt_t (by omega), ifB_t, idx_lt hi, bindO_s, impl_isPoint_eq, bindO_s, getD_lt hi]
      simp only [impl_isControl_eq, impl_WidthOf_eq N (by omega), bindO_s, ifB_or, pNot_d, pBeq, pEq_d, pGt_d]
      have e : ((i : Int) = 0) = (i = 0) := by simp
      have e2 : pAdd .i64 (i : Int) 1 = ((i + 1 : Nat) : Int) := pAdd_i (by omega) (by omega)
      have hw := wG_rng c.1[i]
      have e3 : decide (wG c.1[i] > 0) = !decide (wG c.1[i] = 0) := by
        by_cases hz : wG c.1[i] = 0
        · rw [decide_eq_true hz, decide_eq_false (by omega)]; rfl
        · rw [decide_eq_false hz, decide_eq_true (by omega)]; rfl
      rw [e2, e3]
      unfold okP
      rw [bool_ne]
      simp only [e]
      cases ptG c.1[i] <;> cases decide (i = 0) <;> cases decide (wG c.1[i] = 0) <;> cases ctlG c.1[i] <;> rfl) (fun kn => by
      unfold zAD.l2
      simp only []
      rw [pLt_f (by omega), ifB_f]) _ 0 N rfl (by omega) (by omega)
  refine Eq.trans this ?_
  rw [List.drop_zero]
  split
  · rename_i h
    rw [h]
    show (bindO (ifB (pLe (pLen c.1) 4) (bindO (zAI N c.2.1 0 3) fun y42 => some y42) (some false)) fun y41 => some y41) = _
    simp only [impl_within_eq, bindO_s, ifB_and, pLe_d, pLen_d, Bool.and_true]
    have : decide ((c.1.length : Int) ≤ 4) = decide (c.1.length ≤ 4) := by
      by_cases q : c.1.length ≤ 4
      · rw [decide_eq_true q, decide_eq_true (by omega)]
      · rw [decide_eq_false q, decide_eq_false (by omega)]
    rw [this, Bool.and_assoc]
  · rename_i h; simp only [Bool.not_eq_true] at h; rw [h]; simp; rfl
theorem spec_l08Wide_eq (N : Nat) (c : CellT) : zBG N c = some (wideC c) := by
  unfold zBG wideC
  obtain ⟨l, a, u⟩ := c
  cases l with
  | nil => rfl
  | cons p l =>
    simp only [pLen_d]
    rw [pGt_t (by simp only [List.length_cons]; omega), ifB_t, show idx (p :: l) 0 = some p from rfl, bindO_s, spec_WidthOf_eq, bindO_s, bindO_s, pEq_d]
theorem impl_isWide_eq (N : Nat) (c : CellT) (hN : 10 < N) : zAP N c = some (wideC c) := by
  unfold zAP wideC
  obtain ⟨l, a, u⟩ := c
  cases l with
  | nil => rfl
  | cons p l =>
    simp only [pLen_d]
    rw [pGt_t (by simp only [List.length_cons]; omega), ifB_t, show idx (p :: l) 0 = some p from rfl, bindO_s, impl_WidthOf_eq N hN, bindO_s, bindO_s, pEq_d]
theorem isEmpty_eq (N : Nat) (c : CellT) : zAQ N c = some (decide (c.1 = [])) := by
  unfold zAQ
  rw [pEq_d, pLen_d]
  obtain ⟨l, a, u⟩ := c
  cases l with
  | nil => rfl
  | cons p l => simp; omega
end Go.AE.F
