/- Plain laws of those functions. -/
import Derived.Test.YtgmekdclnhpchaaLViewP4
namespace Go.AE.F
open Go.AE
def layM (C : Int) (l : List Int) (rc : Int × Int) : Int × Int := l.foldl (fun rc p => ptM C p rc) rc
theorem foldW_snoc (C : Int) (l : List Int) (i : Nat) (h : i < l.length) (rc : Int × Int) : foldW C (l.take (i + 1)) rc = stepW C (wG l[i]) (foldW C (l.take i) rc) := by
  unfold foldW
  rw [List.take_succ_eq_append_getElem h, List.foldl_append]; rfl
theorem layM_snoc (C : Int) (l : List Int) (i : Nat) (h : i < l.length) (rc : Int × Int) : layM C (l.take (i + 1)) rc = ptM C l[i] (layM C (l.take i) rc) := by
  unfold layM
  rw [List.take_succ_eq_append_getElem h, List.foldl_append]; rfl
theorem foldW_ok {C : Int} (hC : 2 ≤ C) (l : List Int) {rc : Int × Int} (h : rcOk C rc) : ∀ i, i ≤ l.length → rcOk C (foldW C (l.take i) rc) ∧ (foldW C (l.take i) rc).1 ≤ rc.1 + i
  | 0, _ => ⟨h, by show rc.1 ≤ rc.1 + ((0 : Nat) : Int); omega⟩
  | i + 1, hi => by
    obtain ⟨h1, h2⟩ := foldW_ok hC l h i (by omega)
    rw [foldW_snoc C l i (by omega)]
    obtain ⟨a1, a2, a3, _⟩ := stepW_ok hC l[i] h1
    exact ⟨a1, by omega⟩
theorem layM_ok {C : Int} (hC : 2 ≤ C) (l : List Int) {rc : Int × Int} (h : rcOk C rc) : ∀ i, i ≤ l.length → rcOk C (layM C (l.take i) rc) ∧ (layM C (l.take i) rc).1 ≤ rc.1 + 2 * i
  | 0, _ => ⟨h, by show rc.1 ≤ rc.1 + 2 * ((0 : Nat) : Int); omega⟩
  | i + 1, hi => by
    obtain ⟨h1, h2⟩ := layM_ok hC l h i (by omega)
    rw [layM_snoc C l i (by omega)]
    obtain ⟨a1, a2, a3, _⟩ := ptM_ok hC l[i] h1
    exact ⟨a1, by omega⟩
def spotsM (C : Int) (l : List Int) (rc : Int × Int) (n : Nat) : List (Int × Int × Unit) := (List.range n).map fun i => spotM C (layM C (l.take i) rc)
theorem spots_snoc (C : Int) (l : List Int) (rc : Int × Int) (n : Nat) : spotsM C l rc (n + 1) = spotsM C l rc n ++ [spotM C (layM C (l.take n) rc)] := by
  unfold spotsM; rw [List.range_succ, List.map_append]; rfl
theorem spots_len (C : Int) (l : List Int) (rc : Int × Int) (n : Nat) : (spotsM C l rc n).length = n := by unfold spotsM; simp
theorem spots_at (C : Int) (l : List Int) (rc : Int × Int) (n i : Nat) (h : i < n) : idx (spotsM C l rc n) (i : Int) = some (spotM C (layM C (l.take i) rc)) := by
  rw [idx_lt (by rw [spots_len]; exact h)]
  unfold spotsM; simp
theorem spec_shown_eq (N : Nat) (p : Int) : zBJ N p = some (shG p) := by
  unfold zBJ shG ctlG
  simp only [ifB_or, bindO_s, pLt_d, pEq_d]
  cases (decide (p < 32) || decide (p = 127)) <;> rfl
theorem impl_shown_eq (N : Nat) (p : Int) : zBS N p = some (shG p) := by
  unfold zBS shG
  rw [impl_isControl_eq, bindO_s]
  cases ctlG p <;> rfl
theorem pen_point_tot (N : Nat) (hN : 10 < N) {C : Int} (hC : 2 ≤ C ∧ C ≤ 80) {rc : Int × Int} (ho : rcOk C rc) (hr : rc.1 ≤ 99000) {s : PenT} (hs : PenOk C rc s) (p attr : Int) : Tot (PenOk C (ptM C p rc)) (zA4 N s p attr) := by
  unfold zA4 ptM
  by_cases h10 : p = 10
  · rw [pEq_t h10, ifB_t, if_pos h10]
    refine Tot.bind (pen_next N hC (r := rc.1) (c := 0) (by omega) hs.1 hs.2.1 hs.2.2.1) fun q hq => Tot.ret hq
  rw [pEq_f h10, ifB_f, if_neg h10, spec_shown_eq, bindO_s]
  have hl := shG_len p
  generalize shG p = l at hl
  refine loop_tot (fun m (d : Int × Int × PenT × List Int × Unit) => ∃ i : Nat, d.2.1 = (i : Int) ∧ d.2.2.2.1 = l ∧ i ≤ l.length ∧ l.length ≤ m + i ∧ PenOk C (foldW C (l.take i) rc) d.2.2.1) (fun (e : PenT × Unit) => PenOk C (foldW C l rc) e.1) (fun e he => Tot.ret he) ?_ N 2 _ (by omega) ⟨0, rfl, rfl, by omega, by omega, hs⟩
  intro m d kn kx ⟨i, h1, h2, h3, h4, h5⟩ hn hx
  unfold zA4.l4
  simp only [h1, h2, pLen_d]
  refine Tot.ite (fun h => ?_) (fun h => hx _ ?_)
  · have hlt : i < l.length := by rw [pLt_d] at h; have := of_decide_eq_true h; omega
    obtain ⟨k1, k2⟩ := foldW_ok hC.1 l ho i h3
    rw [idx_lt hlt, bindO_s, bindO_s]
    refine Tot.bind (shown_tot N hC k1 (by omega) h5 l[i] d.1) fun q hq => ?_
    exact hn (m - 1) _ (by omega) ⟨i + 1, by show pAdd .i64 (i : Int) 1 = _; rw [pAdd_i (by omega) (by omega)]; rfl, rfl, by omega, by omega, by rw [foldW_snoc C l i hlt]; exact hq⟩
  · have : i = l.length := by rw [pLt_d] at h; have := of_decide_eq_false h; omega
    rw [this, List.take_length] at h5
    exact h5
theorem pen_spot_eq (N : Nat) {C : Int} (hC : 2 ≤ C ∧ C ≤ 80) {rc : Int × Int} (ho : rcOk C rc) (hr : rc.1 ≤ 100000) {s : PenT} (hs : PenOk C rc s) : zAO N s = some (spotM C rc) := by
  obtain ⟨h1, h2, h3, h4⟩ := hs
  obtain ⟨o1, o2, o3⟩ := ho
  unfold zAO spotM
  have e : pSub .i64 (pLen s.2.1) 1 = rc.1 := by rw [pLen_d, pSub_i (by omega) (by omega)]; omega
  rw [e, h1, h4]
  by_cases h : rc.2 = C
  · rw [pGe_t (by omega), ifB_t, if_pos h, pAdd_i (by omega) (by omega)]
  · rw [pGe_f (by omega), ifB_f, if_neg h]
theorem spec_lay_tot (N : Nat) (hN : 2000 < N) {C : Int} (hC : 2 ≤ C ∧ C ≤ 80) (pr : List Int) (hp : pr.length ≤ 400) (b : BufT) (hb : b.1.length ≤ 300) (reg : Bool) :
    Tot (fun r : PenT × List (Int × Int × Unit) => r.2 = spotsM C b.1 (layM C pr (0, 0)) (b.1.length + 1)) (zA9 N pr b reg C) := by
  have ho0 : rcOk C (0, 0) := ⟨by show (0 : Int) ≤ 0; omega, by show (0 : Int) ≤ 0; omega, by show (0 : Int) ≤ C; omega⟩
  unfold zA9
  refine Tot.bind (pen_next N hC (r := -1) (c := 0) (by omega) rfl rfl (fun row h => by cases h)) fun pen hpen => ?_
  have hpen : PenOk C (0, 0) pen := hpen
  obtain ⟨q1, q2⟩ := layM_ok hC.1 pr ho0 pr.length (Nat.le_refl _)
  rw [List.take_length] at q1 q2
  have q2 : (layM C pr (0, 0)).1 ≤ 0 + 2 * (pr.length : Int) := q2
  refine loop_tot (fun m (d : List Int × Bool × Int × BufT × PenT × Unit) => ∃ i : Nat, d.1 = pr ∧ d.2.2.1 = (i : Int) ∧ d.2.2.2.1 = b ∧ i ≤ pr.length ∧ pr.length ≤ m + i ∧ PenOk C (layM C (pr.take i) (0, 0)) d.2.2.2.2.1) (fun (e : Bool × BufT × PenT × Unit) => e.2.1 = b ∧ PenOk C (layM C pr (0, 0)) e.2.2.1) ?_ ?_ N pr.length _ (by omega) ⟨0, rfl, rfl, rfl, by omega, by omega, hpen⟩
  · intro e ⟨e1, e2⟩
    simp only [e1]
    rw [pen_spot_eq N hC q1 (by omega) e2, bindO_s]
    have mm : ∀ x y : Int, Tot TT (zBP N x y) := fun x y => by unfold zBP; exact Tot.both (Tot.ret trivial) (Tot.ret trivial)
    have mx : ∀ x y : Int, Tot TT (zBD N x y) := fun x y => by unfold zBD; exact Tot.both (Tot.ret trivial) (Tot.ret trivial)
    refine Tot.bind (mm _ _) fun lo _ => Tot.bind (mx _ _) fun hi _ => ?_
    generalize layM C pr (0, 0) = rc at *
    refine loop_tot (fun m (d : Bool × Int × Int × Int × BufT × PenT × List (Int × Int × Unit) × Unit) => ∃ i : Nat, d.2.2.2.1 = (i : Int) ∧ d.2.2.2.2.1 = b ∧ i ≤ b.1.length ∧ b.1.length ≤ m + i ∧ PenOk C (layM C (b.1.take i) rc) d.2.2.2.2.2.1 ∧ d.2.2.2.2.2.2.1 = spotsM C b.1 rc (i + 1)) (fun (e : PenT × List (Int × Int × Unit) × Unit) => e.2.1 = spotsM C b.1 rc (b.1.length + 1)) (fun e he => Tot.ret he) ?_ N b.1.length _ (by omega) ⟨0, rfl, rfl, by omega, by omega, e2, rfl⟩
    intro m d kn kx ⟨i, h1, h2, h3, h4, h5, h6⟩ hn hx
    unfold zA9.l11
    simp only [h1, h2, pLen_d]
    refine Tot.ite (fun h => ?_) (fun h => hx _ ?_)
    · have hlt : i < b.1.length := by rw [pLt_d] at h; have := of_decide_eq_true h; omega
      obtain ⟨k1, k2⟩ := layM_ok hC.1 b.1 q1 i h3
      have k3 := layM_ok hC.1 b.1 q1 (i + 1) (by omega)
      have one : ∀ attr : Int, Tot (fun r : Bool × Int × Int × Int × BufT × PenT × List (Int × Int × Unit) × Unit => r.2.2.2.1 = (i : Int) ∧ r.2.2.2.2.1 = b ∧ PenOk C (layM C (b.1.take (i + 1)) rc) r.2.2.2.2.2.1 ∧ r.2.2.2.2.2.2.1 = spotsM C b.1 rc (i + 1 + 1)) (
          bindO (idx b.1 (i : Int)) fun y95 =>
          bindO (zA4 N d.2.2.2.2.2.1 y95 attr) fun y96 =>
          bindO (zAO N y96) fun y97 =>
          ifB (pFit d.2.2.2.2.2.2.1 [y97]) (
            some (d.1, d.2.1, d.2.2.1, (i : Int), b, y96, (pApp d.2.2.2.2.2.2.1 [y97]), ())) (
            none)) := fun attr => by
        rw [idx_lt hlt, bindO_s]
        refine Tot.bind (pen_point_tot N (by omega) hC k1 (by omega) h5 b.1[i] attr) fun pen2 hp2 => ?_
        rw [← layM_snoc C b.1 i hlt] at hp2
        rw [pen_spot_eq N hC k3.1 (by omega) hp2, bindO_s]
        refine Tot.fit (by rw [h6, spots_len]; simp; omega) (Tot.ret ⟨rfl, rfl, hp2, ?_⟩)
        show pApp d.2.2.2.2.2.2.1 [_] = _
        rw [h6, spots_snoc C b.1 rc (i + 1)]; rfl
      refine Tot.bind (P := fun r : Bool × Int × Int × Int × BufT × PenT × List (Int × Int × Unit) × Unit => r.2.2.2.1 = (i : Int) ∧ r.2.2.2.2.1 = b ∧ PenOk C (layM C (b.1.take (i + 1)) rc) r.2.2.2.2.2.1 ∧ r.2.2.2.2.2.2.1 = spotsM C b.1 rc (i + 1 + 1)) ?_ fun r ⟨r1, r2, r3, r4⟩ => ?_
      · refine Tot.bind (P := TT) (Tot.both (Tot.ret trivial) (Tot.ret trivial)) fun y90 _ => ?_
        refine Tot.bind (P := TT) (Tot.both (Tot.ret trivial) (Tot.ret trivial)) fun y91 _ => ?_
        exact Tot.both (one 1) (one 0)
      · exact hn (m - 1) _ (by omega) ⟨i + 1, by show pAdd .i64 r.2.2.2.1 1 = _; rw [r1, pAdd_i (by omega) (by omega)]; rfl, r2, by omega, by omega, r3, r4⟩
    · have : i = b.1.length := by rw [pLt_d] at h; have := of_decide_eq_false h; omega
      rw [this] at h6
      exact h6
  · intro m d kn kx ⟨i, h1, h2, h3, h4, h5, h6⟩ hn hx
    unfold zA9.l4
    simp only [h1, h2, h3, pLen_d]
    refine Tot.ite (fun h => ?_) (fun h => hx _ ⟨rfl, ?_⟩)
    · have hlt : i < pr.length := by rw [pLt_d] at h; have := of_decide_eq_true h; omega
      obtain ⟨k1, k2⟩ := layM_ok hC.1 pr ho0 i h4
      have k2 : (layM C (pr.take i) (0, 0)).1 ≤ 0 + 2 * (i : Int) := k2
      rw [idx_lt hlt, bindO_s]
      refine Tot.bind (pen_point_tot N (by omega) hC k1 (by omega) h6 pr[i] 0) fun q hq => ?_
      exact hn (m - 1) _ (by omega) ⟨i + 1, rfl, by show pAdd .i64 (i : Int) 1 = _; rw [pAdd_i (by omega) (by omega)]; rfl, rfl, by omega, by omega, by rw [layM_snoc C pr i hlt]; exact hq⟩
    · have : i = pr.length := by rw [pLt_d] at h; have := of_decide_eq_false h; omega
      rw [this, List.take_length] at h6
      exact h6
abbrev SeenT := (List Int × Int × Unit) × Int × Int × Unit
abbrev LayT := Int × Int × Int × List SeenT × Bool × List (Int × Int × Unit) × Unit
def LayOk (C : Int) (rc : Int × Int) (sp : List (Int × Int × Unit)) (k : Nat) (s : LayT) : Prop :=
  s.1 = C ∧ s.2.1 = rc.1 ∧ s.2.2.1 = rc.2 ∧ (s.2.2.2.2.1 = true → 0 < s.2.2.2.1.length) ∧ s.2.2.2.1.length ≤ k ∧ s.2.2.2.2.2.1 = sp
theorem lay_point_tot (N : Nat) (hN : 10 < N) {C : Int} (hC : 2 ≤ C ∧ C ≤ 80) {rc : Int × Int} (ho : rcOk C rc) (hr : rc.1 ≤ 99000) {sp : List (Int × Int × Unit)} {k : Nat} (hk : k ≤ 100000) {s : LayT} (hs : LayOk C rc sp k s) (p attr : Int) : Tot (LayOk C (ptM C p rc) sp (k + 2)) (zA6 N s p attr) := by
  unfold zA6 ptM
  by_cases h10 : p = 10
  · rw [pEq_t h10, ifB_t, if_pos h10]
    unfold zAY
    rw [bindO_s]
    obtain ⟨h1, h2, h3, h4, h5, h6⟩ := hs
    obtain ⟨o1, o2, o3⟩ := ho
    exact Tot.ret ⟨h1, by show pAdd .i64 s.2.1 1 = rc.1 + 1; rw [h2, pAdd_i (by omega) (by omega)], rfl, (fun h => by cases h), by show s.2.2.2.1.length ≤ k + 2; omega, h6⟩
  rw [pEq_f h10, ifB_f, if_neg h10, impl_shown_eq, bindO_s]
  have hl := shG_len p
  generalize shG p = l at hl
  rw [pLen_d]
  refine loop_tot (fun m (d : Int × Int × Int × LayT × List Int × Unit) => ∃ i : Nat, d.2.1 = (l.length : Int) ∧ d.2.2.1 = (i : Int) ∧ d.2.2.2.2.1 = l ∧ i ≤ l.length ∧ l.length ≤ m + i ∧ LayOk C (foldW C (l.take i) rc) sp (k + i) d.2.2.2.1) (fun (e : LayT × Unit) => LayOk C (foldW C l rc) sp (k + 2) e.1) (fun e he => Tot.ret he) ?_ N 2 _ (by omega) ⟨0, rfl, rfl, rfl, by omega, by omega, hs⟩
  intro m d kn kx ⟨i, h1, h2, h3, h4, h5, h6⟩ hn hx
  unfold zA6.l3
  simp only [h1, h2, h3]
  refine Tot.ite (fun h => ?_) (fun h => hx _ ?_)
  · have hlt : i < l.length := by rw [pLt_d] at h; have := of_decide_eq_true h; omega
    obtain ⟨k1, k2⟩ := foldW_ok hC.1 l ho i h4
    obtain ⟨g1, g2, g3, g4, g5, g6⟩ := h6
    generalize hq : d.2.2.2.1 = q at g1 g2 g3 g4 g5 g6
    obtain ⟨o1, o2, o3⟩ := k1
    have hw := wG_rng l[i]
    rw [idx_lt hlt, bindO_s, bindO_s, impl_WidthOf_eq N hN, bindO_s]
    refine Tot.bind (P := fun r : Int × Int × Int × LayT × List Int × Unit => r.2.1 = (l.length : Int) ∧ r.2.2.1 = (i : Int) ∧ r.2.2.2.2.1 = l ∧ LayOk C (foldW C (l.take (i + 1)) rc) sp (k + (i + 1)) r.2.2.2.1) ?_ fun r ⟨r1, r2, r3, r4⟩ => ?_
    · rw [foldW_snoc C l i hlt]
      generalize foldW C (l.take i) rc = rc1 at *
      unfold stepW
      by_cases h0 : wG l[i] = 0
      · rw [pEq_t h0, ifB_t, if_pos h0]
        have same : Tot (fun r : Int × Int × Int × LayT × List Int × Unit => r.2.1 = (l.length : Int) ∧ r.2.2.1 = (i : Int) ∧ r.2.2.2.2.1 = l ∧ LayOk C rc1 sp (k + (i + 1)) r.2.2.2.1) (some (d.1, (l.length : Int), (i : Int), q, l, ())) := Tot.ret ⟨rfl, rfl, rfl, g1, g2, g3, g4, by show q.2.2.2.1.length ≤ k + (i + 1); omega, g6⟩
        refine Tot.ite (fun hin => ?_) (fun _ => same)
        have hpos := g4 hin
        have el : pSub .i64 (pLen q.2.2.2.1) 1 = ((q.2.2.2.1.length - 1 : Nat) : Int) := by rw [pLen_d, pSub_i (by omega) (by omega)]; omega
        rw [el]
        obtain ⟨cell, hc, _⟩ := idxT q.2.2.2.1 ((q.2.2.2.1.length - 1 : Nat) : Int) (by omega) (by omega)
        simp only [hc, bindO_s]
        refine Tot.ite (fun h4' => ?_) (fun _ => same)
        have hf : cell.1.1.length < 4 := by rw [pLt_d, pLen_d] at h4'; have := of_decide_eq_true h4'; omega
        rw [pFit_t (by simp; omega), ifB_t, pEq_t rfl, ifB_t]
        exact Tot.ret ⟨rfl, rfl, rfl, g1, g2, g3, fun _ => by show 0 < (pSet q.2.2.2.1 _ _).length; simp [pSet]; omega, by show (pSet q.2.2.2.1 _ _).length ≤ _; simp [pSet]; omega, g6⟩
      · rw [pEq_f h0, ifB_f, if_neg h0]
        have es : pSub .i64 q.1 q.2.2.1 = C - rc1.2 := by rw [g1, g3, pSub_i (by omega) (by omega)]
        rw [es]
        by_cases hl2 : C - rc1.2 < wG l[i]
        · rw [pLt_t hl2, ifB_t, if_pos hl2]
          unfold zAY
          rw [bindO_s]
          simp only []
          rw [pFit_t (by simp; omega), ifB_t]
          have ea : pAdd .i64 q.2.1 1 = rc1.1 + 1 := by rw [g2, pAdd_i (by omega) (by omega)]
          have eb : pAdd .i64 0 (wG l[i]) = wG l[i] := by rw [pAdd_i (by omega) (by omega)]; omega
          rw [ea, eb]
          exact Tot.ret ⟨rfl, rfl, rfl, g1, rfl, rfl, fun _ => by show 0 < (pApp _ _).length; simp [pApp], by show (pApp _ _).length ≤ _; simp [pApp]; omega, g6⟩
        · rw [pLt_f (by omega), ifB_f, if_neg hl2, pFit_t (by simp; omega), ifB_t]
          have eb : pAdd .i64 q.2.2.1 (wG l[i]) = rc1.2 + wG l[i] := by rw [g3, pAdd_i (by omega) (by omega)]
          rw [eb]
          exact Tot.ret ⟨rfl, rfl, rfl, g1, g2, rfl, fun _ => by show 0 < (pApp _ _).length; simp [pApp], by show (pApp _ _).length ≤ _; simp [pApp]; omega, g6⟩
    · exact hn (m - 1) _ (by omega) ⟨i + 1, r1, by show pAdd .i64 r.2.2.1 1 = _; rw [r2, pAdd_i (by omega) (by omega)]; rfl, r3, by omega, by omega, r4⟩
  · have : i = l.length := by rw [pLt_d] at h; have := of_decide_eq_false h; omega
    subst this
    rw [List.take_length] at h6
    obtain ⟨g1, g2, g3, g4, g5, g6⟩ := h6
    exact ⟨g1, g2, g3, g4, by show d.2.2.2.1.2.2.2.1.length ≤ k + 2; omega, g6⟩
theorem lay_spot_eq (N : Nat) {C : Int} (hC : 2 ≤ C ∧ C ≤ 80) {rc : Int × Int} (ho : rcOk C rc) (hr : rc.1 ≤ 100000) {sp k} {s : LayT} (hs : LayOk C rc sp k s) : zAS N s = some (spotM C rc) := by
  obtain ⟨h1, h2, h3, _⟩ := hs
  obtain ⟨o1, o2, o3⟩ := ho
  unfold zAS spotM
  rw [h1, h2, h3]
  by_cases h : rc.2 = C
  · rw [pEq_t h, ifB_t, if_pos h, pAdd_i (by omega) (by omega)]
  · rw [pEq_f h, ifB_f, if_neg h]
end Go.AE.F
namespace Go.AE.F
open Go.AE
theorem impl_lay_tot (N : Nat) (hN : 2000 < N) {C : Int} (hC : 2 ≤ C ∧ C ≤ 80) (pr : List Int) (hp : pr.length ≤ 400) (b : BufT) (hb : b.1.length ≤ 300) (reg : Bool) :
    Tot (LayOk C (layM C b.1 (layM C pr (0, 0))) (spotsM C b.1 (layM C pr (0, 0)) (b.1.length + 1)) 2000) (zAG N pr b reg C) := by
  have ho0 : rcOk C (0, 0) := ⟨by show (0 : Int) ≤ 0; omega, by show (0 : Int) ≤ 0; omega, by show (0 : Int) ≤ C; omega⟩
  unfold zAG
  obtain ⟨q1, q2⟩ := layM_ok hC.1 pr ho0 pr.length (Nat.le_refl _)
  rw [List.take_length] at q1 q2
  have q2 : (layM C pr (0, 0)).1 ≤ 0 + 2 * (pr.length : Int) := q2
  have hinit : LayOk C (0, 0) [] 0 (C, (0, (0, ([], (false, ([], ())))))) := ⟨rfl, rfl, rfl, (fun h => by cases h), by simp, rfl⟩
  rw [pLen_d]
  refine loop_tot (fun m (d : Bool × List Int × Int × Int × BufT × LayT × Unit) => ∃ i : Nat, d.2.1 = pr ∧ d.2.2.1 = (pr.length : Int) ∧ d.2.2.2.1 = (i : Int) ∧ d.2.2.2.2.1 = b ∧ i ≤ pr.length ∧ pr.length ≤ m + i ∧ LayOk C (layM C (pr.take i) (0, 0)) [] (2 * i) d.2.2.2.2.2.1) (fun (e : Bool × BufT × LayT × Unit) => e.2.1 = b ∧ LayOk C (layM C pr (0, 0)) [] (2 * pr.length) e.2.2.1) ?_ ?_ N pr.length _ (by omega) ⟨0, rfl, rfl, rfl, rfl, by omega, by omega, hinit⟩
  · intro e ⟨e1, e2⟩
    simp only [e1, pLen_d]
    unfold zB5
    rw [bindO_s]
    generalize layM C pr (0, 0) = rc at *
    refine loop_tot (fun m (d : Bool × Int × Int × List Int × Int × Int × LayT × Unit) => ∃ i : Nat, d.2.2.2.1 = b.1 ∧ d.2.2.2.2.1 = (b.1.length : Int) ∧ d.2.2.2.2.2.1 = (i : Int) ∧ i ≤ b.1.length ∧ b.1.length ≤ m + i ∧ LayOk C (layM C (b.1.take i) rc) (spotsM C b.1 rc i) (2 * pr.length + 2 * i) d.2.2.2.2.2.2.1) (fun (e : LayT × Unit) => LayOk C (layM C b.1 rc) (spotsM C b.1 rc b.1.length) (2 * pr.length + 2 * b.1.length) e.1) ?_ ?_ N b.1.length _ (by omega) ⟨0, rfl, rfl, rfl, by omega, by omega, e2⟩
    · intro e3 he3
      obtain ⟨k1, k2⟩ := layM_ok hC.1 b.1 q1 b.1.length (Nat.le_refl _)
      rw [List.take_length] at k1 k2
      rw [lay_spot_eq N hC k1 (by omega) he3, bindO_s]
      obtain ⟨g1, g2, g3, g4, g5, g6⟩ := he3
      refine Tot.fit (by rw [g6, spots_len]; simp; omega) (Tot.ret ⟨g1, g2, g3, g4, by show e3.1.2.2.2.1.length ≤ 2000; omega, ?_⟩)
      show pApp e3.1.2.2.2.2.2.1 [_] = _
      rw [g6, spots_snoc, List.take_length]; rfl
    · intro m d kn kx ⟨i, h1, h2, h3, h4, h5, h6⟩ hn hx
      unfold zAG.l9
      simp only [h1, h2, h3]
      refine Tot.ite (fun h => ?_) (fun h => hx _ ?_)
      · have hlt : i < b.1.length := by rw [pLt_d] at h; have := of_decide_eq_true h; omega
        obtain ⟨k1, k2⟩ := layM_ok hC.1 b.1 q1 i h4
        rw [idx_lt hlt, bindO_s, lay_spot_eq N hC k1 (by omega) h6, bindO_s]
        obtain ⟨g1, g2, g3, g4, g5, g6⟩ := h6
        generalize d.2.2.2.2.2.2.1 = q at g1 g2 g3 g4 g5 g6
        have hq : LayOk C (layM C (b.1.take i) rc) (spotsM C b.1 rc (i + 1)) (2 * pr.length + 2 * i) (q.1, (q.2.1, (q.2.2.1, (q.2.2.2.1, (q.2.2.2.2.1, ((pApp q.2.2.2.2.2.1 [spotM C (layM C (b.1.take i) rc)]), q.2.2.2.2.2.2)))))) := ⟨g1, g2, g3, g4, g5, by show pApp q.2.2.2.2.2.1 [_] = _; rw [g6, spots_snoc]; rfl⟩
        refine Tot.bind (P := fun r : Bool × Int × Int × List Int × Int × Int × LayT × Unit => r.2.2.2.1 = b.1 ∧ r.2.2.2.2.1 = (b.1.length : Int) ∧ r.2.2.2.2.2.1 = (i : Int) ∧ LayOk C (layM C (b.1.take (i + 1)) rc) (spotsM C b.1 rc (i + 1)) (2 * pr.length + 2 * (i + 1)) r.2.2.2.2.2.2.1) ?_ fun r ⟨r1, r2, r3, r4⟩ => ?_
        · refine Tot.fit (by rw [g6, spots_len]; simp; omega) ?_
          have one := fun attr : Int => lay_point_tot N (by omega) hC k1 (by omega) (by omega) hq b.1[i] attr
          rw [← layM_snoc C b.1 i hlt] at one
          refine Tot.bind (P := TT) (Tot.both ?_ (Tot.ret trivial)) fun y85 _ => ?_
          · rw [impl_within_eq, bindO_s]; exact Tot.ret trivial
          · exact Tot.both (Tot.bind (one 1) fun z hz => Tot.ret ⟨rfl, rfl, rfl, hz⟩) (Tot.bind (one 0) fun z hz => Tot.ret ⟨rfl, rfl, rfl, hz⟩)
        · exact hn (m - 1) _ (by omega) ⟨i + 1, r1, r2, by show pAdd .i64 r.2.2.2.2.2.1 1 = _; rw [r3, pAdd_i (by omega) (by omega)]; rfl, by omega, by omega, r4⟩
      · have : i = b.1.length := by rw [pLt_d] at h; have := of_decide_eq_false h; omega
        subst this
        rw [List.take_length] at h6
        exact h6
  · intro m d kn kx ⟨i, h1, h2, h3, h4, h5, h6, h7⟩ hn hx
    unfold zAG.l3
    simp only [h1, h2, h3, h4]
    refine Tot.ite (fun h => ?_) (fun h => hx _ ⟨rfl, ?_⟩)
    · have hlt : i < pr.length := by rw [pLt_d] at h; have := of_decide_eq_true h; omega
      obtain ⟨k1, k2⟩ := layM_ok hC.1 pr ho0 i h5
      have k2 : (layM C (pr.take i) (0, 0)).1 ≤ 0 + 2 * (i : Int) := k2
      rw [idx_lt hlt, bindO_s]
      refine Tot.bind (lay_point_tot N (by omega) hC k1 (by omega) (by omega) h7 pr[i] 0) fun q hq => ?_
      exact hn (m - 1) _ (by omega) ⟨i + 1, rfl, rfl, by show pAdd .i64 (i : Int) 1 = _; rw [pAdd_i (by omega) (by omega)]; rfl, rfl, by omega, by omega, by rw [layM_snoc C pr i hlt]; exact hq⟩
    · have : i = pr.length := by rw [pLt_d] at h; have := of_decide_eq_false h; omega
      subst this
      rw [List.take_length] at h7
      exact h7
end Go.AE.F
