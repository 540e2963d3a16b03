/- Plain laws of those functions. -/
import Derived.Test.YtgmekdclnhpchaaLViewP12
namespace Go.AE.F
open Go.AE
theorem view_flat (R C : Nat) (hR : 1 ≤ R ∧ R ≤ 24) (hC : 2 ≤ C ∧ C ≤ 80) (ws : List (List UnitT)) (hl : ws.length = R) (hw : ∀ us ∈ ws, wR us ≤ C) (hu : ∀ us ∈ ws, ∀ u ∈ us, uOk u) (a c : Int) (ha : 0 ≤ a ∧ a < R) (hc : 0 ≤ c ∧ c < C) :
    flatG (gV R C (ws.flatMap (rowPad C)) a c) = true ∧ gridG (gV R C (ws.flatMap (rowPad C)) a c) = true := by
  have hlen : (ws.flatMap (rowPad C)).length = R * C := by rw [flat_len hw, hl]
  have hg : ∀ r (hr : r < ws.length) c' (h : c' < (rowPad C ws[r]).length), cellD (gV R C (ws.flatMap (rowPad C)) a c) (r * C + c') = (rowPad C ws[r])[c'] := fun r hr c' h => by
    have hpl := rowPad_len (hw ws[r] (List.getElem_mem hr))
    unfold cellD
    show (ws.flatMap (rowPad C)).getD _ _ = _
    rw [List.getD_eq_getElem?_getD, flat_get ws hw r c' hr (by omega), List.getElem?_eq_getElem h]; rfl
  have hok : ∀ r (hr : r < ws.length), okL (rowPad C ws[r]) := fun r hr => okL_row _ _ (hu _ (List.getElem_mem hr))
  have grid : gridG (gV R C (ws.flatMap (rowPad C)) a c) = true := by
    unfold gridG
    rw [Bool.and_eq_true]
    refine ⟨headG_iff.2 ⟨by show (1 : Int) ≤ (R : Int); omega, by show (R : Int) ≤ 24; omega, by show (2 : Int) ≤ (C : Int); omega, by show (C : Int) ≤ 80; omega, ?_, ha.1, by show a ≤ (R : Int) - 1; omega, hc.1, by show c ≤ (C : Int) - 1; omega, (fun q => by cases q), by show (0 : Int) ≤ 0; omega, by show (0 : Int) ≤ 3; omega⟩, ?_⟩
    · show (((ws.flatMap (rowPad C)).length : Nat) : Int) = (R : Int) * (C : Int)
      rw [hlen]; simp
    · rw [List.all_eq_true]
      intro i hi
      have hi : i < R * C := by rw [List.mem_range] at hi; rw [← hlen]; exact hi
      have hr : i / C < R := by rw [Nat.div_lt_iff_lt_mul (by omega)]; exact hi
      have hc2 : i % C < C := Nat.mod_lt _ (by omega)
      have ei : i = (i / C) * C + i % C := by rw [Nat.mul_comm]; exact (Nat.div_add_mod i C).symm
      generalize i / C = r at *
      generalize i % C = c' at *
      subst ei
      have hr' : r < ws.length := by omega
      have hpl := rowPad_len (hw ws[r] (List.getElem_mem hr'))
      obtain ⟨g1, g2⟩ := okL_get (hok r hr') c' (by omega)
      unfold nbrG
      rw [hg r hr' c' (by omega), g1, Bool.true_and]
      cases hwd : wideC (rowPad C ws[r])[c'] with
      | false => rfl
      | true =>
        obtain ⟨h2, e1, e2⟩ := g2 hwd
        have em : ((r * C + c' + 1 : Nat) : Int) % (C : Int) = ((c' + 1 : Nat) : Int) := by rw [Nat.add_assoc]; exact mod_row (by omega)
        show (!true || (!decide (((r * C + c' + 1 : Nat) : Int) % (C : Int) = 0) && _ && _)) = true
        rw [em, decide_eq_false (by omega), Nat.add_assoc, hg r hr' (c' + 1) h2, decide_eq_true e1, decide_eq_true e2]; rfl
  refine ⟨?_, grid⟩
  unfold flatG
  rw [grid]
  show ((true && !false) && decide ((0 : Int) = 0) && flatI _ (ws.flatMap (rowPad C)).length 0 false) = true
  have : flatI (gV R C (ws.flatMap (rowPad C)) a c) (R * C) (0 * C) false = true := by
    rw [flatI_rows _ C rfl (by omega)]
    have rows : ∀ m r, r + m = R → rowsF (gV R C (ws.flatMap (rowPad C)) a c) C m r = true := by
      intro m
      induction m with
      | zero => intro r _; rfl
      | succ m ih =>
        intro r hr
        have hr' : r < ws.length := by omega
        have hpl := rowPad_len (hw ws[r] (List.getElem_mem hr'))
        have := flatR_flL (gV R C (ws.flatMap (rowPad C)) a c) C r rfl (rowPad C ws[r]) hpl (hg r hr') C 0 false (by omega)
        rw [rowsF, ih (r + 1) (by omega), Bool.and_true]
        rw [Nat.add_zero] at this
        rw [this]
        exact flL_row _ _ (hu _ (List.getElem_mem hr'))
    exact rows R 0 (by omega)
  rw [hlen, ← Nat.zero_mul C, this]
  rfl
end Go.AE.F
namespace Go.AE.F
open Go.AE
theorem dview_tot (N : Nat) (hN : 100200 < N) (a : List Int) (ha : a.length ≤ 1048576) : Tot (fun r : List Int × BufT × Bool × Int × Int => r.1.length ≤ 10 ∧ r.2.1.1.length ≤ 1000 ∧ 0 ≤ r.2.2.2.1 ∧ r.2.2.2.1 ≤ 100 ∧ 0 ≤ r.2.2.2.2 ∧ r.2.2.2.2 ≤ 100) (zB6 N a) := by
  unfold zB6
  obtain ⟨s, h1, hs⟩ := source_ok N a ha (by omega)
  rw [h1, bindO_s]
  refine Tot.bind (prompt_tot N (by omega) s hs) fun p hp => ?_
  refine Tot.bind (dbuf_tot N (by omega) p.2 hp.1) fun b hb => ?_
  refine Tot.bind (nT N _ 6 hb.1 (by omega)) fun q hq => ?_
  refine Tot.bind (oneT N _ 15 hq.1 (by omega)) fun o ho => ?_
  refine Tot.both ?_ ?_
  · refine Tot.bind (nT N _ 3 ho (by omega)) fun q hq => ?_
    have h2 := hq.2.2.2 (by omega)
    refine Tot.bind (idxT _ _ hq.2.1 (by simp; omega)) fun _ _ => ?_
    refine Tot.bind (idxT _ _ hq.2.1 (by simp; omega)) fun x hx => ?_
    refine Tot.bind (oneT N _ 2 hq.1 (by omega)) fun o ho => ?_
    refine Tot.bind (cols_tot N _ ho) fun c hc => Tot.ret ⟨hp.2, hb.2, ?_, ?_, hc.2.1, hc.2.2⟩
    all_goals
      simp only [List.mem_cons, List.not_mem_nil, or_false] at hx
      simp only []
      omega
  · have h1 := hq.2.1
    have h2 := hq.2.2.2 (by omega)
    refine Tot.bind (oneT N _ 2 ho (by omega)) fun o ho => ?_
    refine Tot.bind (cols_tot N _ ho) fun c hc => Tot.ret ⟨hp.2, hb.2, ?_, ?_, hc.2.1, hc.2.2⟩
    all_goals
      simp only []
      rw [pAdd_i (by omega) (by omega)]
      omega
theorem spotLe_trans {x y z : Int × Int × Unit} (h1 : spotLe x y) (h2 : spotLe y z) : spotLe x z := by
  unfold spotLe at *; omega
theorem spot_last {C : Int} (hC : 2 ≤ C) (l : List Int) {rc : Int × Int} (h : rcOk C rc) : ∀ (m i : Nat), i + m = l.length → spotLe (spotM C (layM C (l.take i) rc)) (spotM C (layM C l rc))
  | 0, i, hi => by rw [List.take_of_length_le (by omega)]; exact .inr ⟨rfl, Int.le_refl _⟩
  | m + 1, i, hi => by
    refine spotLe_trans ?_ (spot_last hC l h m (i + 1) (by omega))
    obtain ⟨k1, _⟩ := layM_ok hC l h i (by omega)
    rw [layM_snoc C l i (by omega)]
    obtain ⟨g1, g2, g3, g4⟩ := ptM_ok hC (l[i]'(by omega)) k1
    exact spot_mono k1 g1 hC g4
theorem view_right {p : List Int} {b : BufT} {reg : Bool} {R C : Int} (hv : viewedG p b C = true) (hR : 1 ≤ R ∧ R ≤ 24) : flatG (viewOk p b reg R C).1 = true ∧ gridG (viewOk p b reg R C).1 = true ∧ (viewOk p b reg R C).1.2.2.1.length ≤ 1920 := by
  obtain ⟨c1, c2, c3, c4, n, hn, hn2⟩ := curs_facts hv
  have hv0 := hv
  unfold viewedG at hv0
  simp only [Bool.and_eq_true, decide_eq_true_eq] at hv0
  obtain ⟨⟨hp, hb⟩, hC⟩ := hv0
  have hpl := ptsG_len hp
  obtain ⟨Cn, rfl⟩ : ∃ Cn : Nat, C = (Cn : Int) := ⟨C.toNat, by omega⟩
  obtain ⟨Rn, rfl⟩ : ∃ Rn : Nat, R = (Rn : Int) := ⟨R.toNat, by omega⟩
  have hCn : 2 ≤ Cn ∧ Cn ≤ 80 := by omega
  have hS := laid_ok hCn.1 p b reg
  have pts : ∀ {l : List Int}, ptsG l = true → ∀ x ∈ l, ptG x = true := fun {l} h x hx => by
    unfold ptsG at h
    simp only [Bool.and_eq_true, List.all_eq_true] at h
    exact h.2 x hx
  have hG := laid_good Cn (pts hp) (pts (bufG_iff.1 hb).1) reg
  have hw : ∀ us ∈ viewW Rn (topG p b (Rn : Int) (Cn : Int)) (allG p b reg Cn), wR us ≤ Cn ∧ ∀ u ∈ us, uOk u := fun us h => by
    rcases viewW_mem h with z | z
    · rw [z]; exact ⟨Nat.zero_le _, fun _ h => by cases h⟩
    · unfold allG at z
      rcases List.mem_append.1 z with z | z
      · exact ⟨(hS.1 us z).1, hG.1 us z⟩
      · have : us = (laidS Cn p b reg).2 := by simpa using z
        rw [this]; exact ⟨hS.2.1, hG.2⟩
  have htop : (topG p b (Rn : Int) (Cn : Int) : Int) = if 0 < (cursG p b (Cn : Int)).1 - (Rn : Int) + 1 then (cursG p b (Cn : Int)).1 - (Rn : Int) + 1 else 0 := by
    unfold topG; split <;> omega
  have hlw := viewW_len Rn (topG p b (Rn : Int) (Cn : Int)) (allG p b reg Cn)
  have key := view_flat Rn Cn (by omega) hCn _ hlw (fun us h => (hw us h).1) (fun us h => (hw us h).2) ((cursG p b (Cn : Int)).1 - (topG p b (Rn : Int) (Cn : Int) : Int)) (cursG p b (Cn : Int)).2.1 (by split at htop <;> omega) (by omega)
  refine ⟨key.1, key.2, ?_⟩
  show ((viewW Rn (topG p b (Rn : Int) (Cn : Int)) (allG p b reg Cn)).flatMap (rowPad Cn)).length ≤ 1920
  rw [flat_len (fun us h => (hw us h).1), hlw]
  exact (Nat.mul_le_mul (show Rn ≤ 24 by omega) hCn.2 : Rn * Cn ≤ 24 * 80)
theorem grid_small {g : GridT} (h : flatG g = true) : ∀ x ∈ g.2.2.1, x.1.length ≤ 4 := fun x hx => by
  obtain ⟨_, _, _, _, _, _, _, _, _, _, hc, _⟩ := flat_facts h
  exact (hc x hx).1
theorem gridSame_self (N : Nat) (hN : 2100 < N) (g : GridT) (hl : g.2.2.1.length ≤ 2000) (hc : ∀ c ∈ g.2.2.1, c.1.length ≤ 4) : zBK N g g = some true := by
  unfold zBK
  have hb : pBeq g.2.2.2.2.2.1 g.2.2.2.2.2.1 = true := by unfold pBeq; simp
  rw [pEq_t rfl, ifB_t, pEq_t rfl, bindO_s, ifB_t, sameCells_eq N _ _ hl (by omega) (fun c h => by have := hc c h; omega), bindO_s, bindO_s, decide_eq_true rfl, ifB_t, pEq_t rfl, bindO_s, ifB_t, pEq_t rfl, bindO_s, ifB_t, hb, bindO_s, ifB_t, pEq_t rfl, bindO_s]
theorem pure_FnView (a : List Int) (_h : a.length ≤ 9223372036854775807 ∧ ∀ x ∈ a, IntKind.u8.min ≤ x ∧ x ≤ IntKind.u8.max) : ∃ N, zBR N a = some true := by
  refine ⟨1048700, ?_⟩
  unfold zBR
  rw [pLen_d]
  by_cases ha : 1048576 < a.length
  · rw [pGt_t (by omega), ifB_t]
  rw [pGt_f (by omega), ifB_f]
  obtain ⟨⟨p, b, reg, R, C⟩, hd, hp, hb, hr1, hr2, hc1, hc2⟩ := dview_tot 1048700 (by omega) a (by omega)
  simp only at hp hb hr1 hr2 hc1 hc2
  rw [hd, bindO_s]
  simp only []
  obtain ⟨v1, v2⟩ := view_both 1048700 (by omega) p b reg R C (by omega) (by omega) (by omega) (by omega)
  have hcp : zBO 1048700 p = some p := lwCopy_eq _ p (by omega)
  rw [v2, bindO_s, hcp, bindO_s, v1, bindO_s]
  unfold viewG
  rw [if_neg (by omega)]
  cases hv : (viewedG p b C && (decide (1 ≤ R) && decide (R ≤ 24))) with
  | false => rfl
  | true =>
    simp only [Bool.and_eq_true, decide_eq_true_eq] at hv
    obtain ⟨hv1, hR⟩ := hv
    obtain ⟨c1, c2, c3, c4, n, hn, hn2⟩ := curs_facts hv1
    obtain ⟨f1, f2, f3⟩ := view_right (reg := reg) hv1 hR
    have hsm := grid_small f1
    have hspot : zBF 1048700 p b b.2.1 C = some (cursG p b C) := by
      rw [hn, (spots_both 1048700 (by omega) p b C (by omega) hv1 n hn2).1]
      unfold cursG; rw [hn, Int.toNat_natCast]
    have hv0 := hv1
    unfold viewedG at hv0
    simp only [Bool.and_eq_true, decide_eq_true_eq] at hv0
    obtain ⟨⟨hpp, hbb⟩, hC⟩ := hv0
    have hlast : (cursG p b C).1 < (spotM C (layM C b.1 (layM C p (0, 0)))).1 + 1 := by
      have ho0 : rcOk C (0, 0) := ⟨by show (0 : Int) ≤ 0; omega, by show (0 : Int) ≤ 0; omega, by show (0 : Int) ≤ C; omega⟩
      obtain ⟨q1, _⟩ := layM_ok hC.1 p ho0 p.length (Nat.le_refl _)
      rw [List.take_length] at q1
      have := spot_last hC.1 b.1 q1 (b.1.length - n) n (by omega)
      unfold spotLe at this
      unfold cursG
      rw [hn, Int.toNat_natCast]
      omega
    have htop : (topG p b R C : Int) = if 0 < (cursG p b C).1 - R + 1 then (cursG p b C).1 - R + 1 else 0 := by
      unfold topG; split <;> omega
    rw [if_pos rfl]
    have e0 : (viewOk p b reg R C).2.2.1 = 0 := rfl
    have eR : (viewOk p b reg R C).1.1 = R := by show ((R.toNat : Nat) : Int) = R; omega
    have eC : (viewOk p b reg R C).1.2.1 = C := by show ((C.toNat : Nat) : Int) = C; omega
    have et : (viewOk p b reg R C).2.1 = (topG p b R C : Int) := rfl
    have er : (viewOk p b reg R C).1.2.2.2.1 = (cursG p b C).1 - (topG p b R C : Int) := rfl
    have ecol : (viewOk p b reg R C).1.2.2.2.2.1 = (cursG p b C).2.1 := rfl
    have hl2 : (viewOk p b reg R C).1.2.2.1.length ≤ 1048576 := by omega
    have hc2' : ∀ x ∈ (viewOk p b reg R C).1.2.2.1, x.1.length ≤ 1048576 ∧ x.1.length + 20 < 1048700 := fun x hx => by have := hsm x hx; omega
    rw [e0, pNe_f rfl, ifB_f, ifB_f, bindO_s, hspot, bindO_s, impl_GridRight_eq _ _ (by omega) hl2 hc2', bindO_s, impl_FlatRight_eq _ _ (by omega) hl2 hc2', f1, f2, pNot_d, Bool.not_true, ifB_f, bindO_s, pNot_d, Bool.not_true, bindO_s, ifB_f, eR, pNe_f rfl, bindO_s, ifB_f, eC, pNe_f rfl, bindO_s, ifB_f, et, er, pAdd_i (by split at htop <;> omega) (by split at htop <;> omega), pNe_f (by omega), bindO_s, ifB_f, ecol, pNe_f rfl, bindO_s, ifB_f]
    have h31 : ∀ (k : Bool → Option Bool), (bindO (ifB (pGt (topG p b R C : Int) 0) (some (pNe ((cursG p b C).1 - (topG p b R C : Int)) (pSub .i64 R 1))) (some false)) k) = k false := fun k => by
      by_cases hz : 0 < (topG p b R C : Int)
      · rw [pGt_t hz, ifB_t, pSub_i (by omega) (by omega), pNe_f (by split at htop <;> omega), bindO_s]
      · rw [pGt_f (by omega), ifB_f, bindO_s]
    refine (h31 _).trans ?_
    rw [ifB_f, bindO_s, pLt_f (by omega), ifB_f, bindO_s, impl_ViewRows_eq _ (by omega) p b C (by omega) (by omega), bindO_s, if_pos hv1, pLt_t hlast, ifB_t, gridSame_self _ (by omega) _ (by omega) hsm, bindO_s]
end Go.AE.F
