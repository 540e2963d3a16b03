/- Plain laws of those functions. -/
import Derived.Test.YtjdehlkgnbcedaaLSpotsP4
namespace Go.AE.F
open Go.AE
theorem prompt_tot (N : Nat) (hN : 100001 < N) (s : SrcT) (hs : srcOk s) : Tot (fun r : List Int × SrcT => srcOk r.2 ∧ r.1.length ≤ 10) (spec_l01Src_l09Prompt N s) := by
  unfold spec_l01Src_l09Prompt
  refine Tot.bind (nT N s 5 hs (by omega)) fun q hq => ?_
  have h2 := hq.2.2.2 (by omega)
  refine Tot.bind (dpoints_tot N _ _ hq.1 hq.2.1 (by omega) hN) fun p hp => ?_
  have hpl := hp.2
  refine Tot.bind (oneT N _ 30 hp.1 (by omega)) fun o ho => ?_
  refine Tot.both (Tot.fit (by simp; omega) (Tot.ret ⟨ho, by simp [pApp]; omega⟩)) (Tot.ret ⟨ho, by show p.1.length ≤ 10; omega⟩)
theorem cols_tot (N : Nat) (s : SrcT) (hs : srcOk s) : Tot (fun r : Int × SrcT => srcOk r.2 ∧ 0 ≤ r.1 ∧ r.1 ≤ 100) (spec_l01Src_l09Cols N s) := by
  unfold spec_l01Src_l09Cols
  refine Tot.bind (oneT N s 15 hs (by omega)) fun o ho => ?_
  refine Tot.both ?_ ?_
  · refine Tot.bind (nT N _ 4 ho (by omega)) fun q hq => ?_
    have h2 := hq.2.2.2 (by omega)
    refine Tot.bind (idxT _ _ hq.2.1 (by simp; omega)) fun _ _ => ?_
    refine Tot.bind (idxT _ _ hq.2.1 (by simp; omega)) fun x hx => Tot.ret ⟨hq.1, ?_⟩
    simp only [List.mem_cons, List.not_mem_nil, or_false] at hx
    show 0 ≤ x ∧ x ≤ 100
    omega
  · refine Tot.bind (nT N _ 12 ho (by omega)) fun q hq => ?_
    have h2 := hq.2.2.2 (by omega)
    have h1 := hq.2.1
    rw [pAdd_i (by omega) (by omega)]
    exact Tot.ret ⟨hq.1, by show 0 ≤ 2 + q.1; omega, by show 2 + q.1 ≤ 100; omega⟩
theorem dvrows_tot (N : Nat) (hN : 100200 < N) (a : List Int) (ha : a.length ≤ 1048576) : Tot (fun r : List Int × BufT × Int => r.1.length ≤ 10 ∧ r.2.1.1.length ≤ 1000 ∧ 0 ≤ r.2.2 ∧ r.2.2 ≤ 100) (spec_DrawViewRows N a) := by
  unfold spec_DrawViewRows
  obtain ⟨s, h1, hs⟩ := source_ok N a ha (by omega)
  rw [h1, bindO_s]
  refine Tot.bind (prompt_tot N (by omega) s hs) fun p hp => ?_
  refine Tot.bind (dbuf_tot N (by omega) p.2 hp.1) fun b hb => ?_
  exact Tot.bind (cols_tot N b.2 hb.1) fun c hc => Tot.ret ⟨hp.2, hb.2, hc.2.1, hc.2.2⟩
def viewedG (p : List Int) (b : BufT) (C : Int) : Bool := (ptsG p && bufG b) && (decide (2 ≤ C) && decide (C ≤ 80))
theorem viewed_eq (N : Nat) (p : List Int) (b : BufT) (C : Int) (hp : p.length < N) (hp2 : p.length ≤ 100000) (hb : b.1.length < N) (hb2 : b.1.length ≤ 100000) : impl_isViewed N p b C = some (viewedG p b C) := by
  unfold impl_isViewed viewedG impl_isCols
  rw [impl_PointsRight_eq N p hp (by omega), bindO_s, impl_BufRight_eq N b hb (by omega), bindO_s, impl_within_eq, bindO_s, bindO_s, ifB_and, bindO_s, ifB_and, bindO_s]
theorem impl_ViewRows_eq (N : Nat) (hN : 2000 < N) (p : List Int) (b : BufT) (C : Int) (hp : p.length ≤ 400) (hb : b.1.length ≤ 1000) :
    impl_ViewRows N p b C = some (if viewedG p b C = true then (spotM C (layM C b.1 (layM C p (0, 0)))).1 + 1 else 0) := by
  unfold impl_ViewRows
  rw [viewed_eq N p b C (by omega) (by omega) (by omega) (by omega), bindO_s]
  cases hv : viewedG p b C with
  | false => rfl
  | true =>
    unfold viewedG at hv
    simp only [Bool.and_eq_true, decide_eq_true_eq] at hv
    have hbl := ptsG_len (bufG_iff.1 hv.1.2).1
    have hC := hv.2
    have ho0 : rcOk C (0, 0) := ⟨by show (0 : Int) ≤ 0; omega, by show (0 : Int) ≤ 0; omega, by show (0 : Int) ≤ C; omega⟩
    obtain ⟨q1, q2⟩ := layM_ok hC.1 p ho0 p.length (Nat.le_refl _)
    rw [List.take_length] at q1 q2
    have q2 : (layM C p (0, 0)).1 ≤ 0 + 2 * (p.length : Int) := q2
    obtain ⟨k1, k2⟩ := layM_ok hC.1 b.1 q1 b.1.length (Nat.le_refl _)
    rw [List.take_length] at k1 k2
    obtain ⟨l, l1, l2⟩ := impl_lay_tot N hN hC p hp b hbl false
    rw [show pNot true = false from rfl, ifB_f, l1, bindO_s, lay_spot_eq N hC k1 (by omega) l2, bindO_s, if_pos rfl]
    have : (spotM C (layM C b.1 (layM C p (0, 0)))).1 ≤ 10000 ∧ 0 ≤ (spotM C (layM C b.1 (layM C p (0, 0)))).1 := by
      unfold spotM; obtain ⟨w1, w2, w3⟩ := k1; split <;> simp only [] <;> omega
    rw [pAdd_i (by omega) (by omega)]
theorem spec_guard (N : Nat) (hN : 400 < N) (p : List Int) (b : BufT) (C : Int) (hp : p.length ≤ 400) {R : Type} (k : Bool → Option R) :
    (bindO (
    ifB (pGt (pLen p) 400) (
      some true) (
      bindO (spec_PointsRight N p) fun y10 =>
      some (pNot y10))) fun y9 =>
  bindO (
    ifB y9 (
      some true) (
      bindO (spec_BufRight N b) fun y12 =>
      some (pNot y12))) fun y11 =>
  bindO (
    ifB y11 (
      some true) (
      bindO (spec_l08Size N 1 C) fun y14 =>
      some (pNot y14))) fun y13 => k y13) = k (!viewedG p b C) := by
  have hsz : spec_l08Size N 1 C = some (decide (2 ≤ C) && decide (C ≤ 80)) := by
    unfold spec_l08Size
    rw [show pGe 1 1 = true from rfl, ifB_t, show pLe 1 24 = true from rfl, bindO_s, ifB_t, bindO_s, pGe_d, pLe_d, ifB_and, bindO_s]
  rw [pLen_d, pGt_f (by omega), ifB_f, spec_PointsRight_eq N p (by omega), bindO_s, bindO_s, spec_BufRight_eq N b (by omega), bindO_s, hsz, bindO_s, pNot_d, pNot_d, pNot_d, ifB_or, bindO_s, ifB_or, bindO_s]
  unfold viewedG
  congr 1
  cases ptsG p <;> cases bufG b <;> cases (decide (2 ≤ C) && decide (C ≤ 80)) <;> rfl
theorem spec_ViewRows_eq (N : Nat) (hN : 2000 < N) (p : List Int) (b : BufT) (C : Int) (hp : p.length ≤ 400) :
    spec_ViewRows N p b C = some (if viewedG p b C = true then (spotM C (layM C b.1 (layM C p (0, 0)))).1 + 1 else 0) := by
  unfold spec_ViewRows
  refine (spec_guard N (by omega) p b C hp _).trans ?_
  cases hv : viewedG p b C with
  | false => rfl
  | true =>
    unfold viewedG at hv
    simp only [Bool.and_eq_true, decide_eq_true_eq] at hv
    have hbl := ptsG_len (bufG_iff.1 hv.1.2).1
    have hC := hv.2
    have ho0 : rcOk C (0, 0) := ⟨by show (0 : Int) ≤ 0; omega, by show (0 : Int) ≤ 0; omega, by show (0 : Int) ≤ C; omega⟩
    obtain ⟨q1, q2⟩ := layM_ok hC.1 p ho0 p.length (Nat.le_refl _)
    rw [List.take_length] at q1 q2
    have q2 : (layM C p (0, 0)).1 ≤ 0 + 2 * (p.length : Int) := q2
    obtain ⟨k1, k2⟩ := layM_ok hC.1 b.1 q1 b.1.length (Nat.le_refl _)
    rw [List.take_length] at k1 k2
    obtain ⟨l, l1, l2⟩ := spec_lay_tot N hN hC p hp b hbl false
    show (bindO (spec_l09Lay N p b false C) fun y15 => bindO (idx y15.2 (pSub Go.IntKind.i64 (pLen y15.2) 1)) fun y17 => some (pAdd Go.IntKind.i64 y17.1 1)) = _
    rw [l1, bindO_s, l2, pLen_d, spots_len]
    have e : pSub .i64 ((b.1.length + 1 : Nat) : Int) 1 = ((b.1.length : Nat) : Int) := by rw [pSub_i (by omega) (by omega)]; omega
    rw [e, spots_at _ _ _ _ _ (by omega), bindO_s, List.take_length, if_pos rfl]
    have : (spotM C (layM C b.1 (layM C p (0, 0)))).1 ≤ 10000 ∧ 0 ≤ (spotM C (layM C b.1 (layM C p (0, 0)))).1 := by
      unfold spotM; obtain ⟨w1, w2, w3⟩ := k1; split <;> simp only [] <;> omega
    rw [pAdd_i (by omega) (by omega)]
theorem spots_both (N : Nat) (hN : 2000 < N) (p : List Int) (b : BufT) (C : Int) (hp : p.length ≤ 400) (hv : viewedG p b C = true) (i : Nat) (hi : i ≤ b.1.length) :
    impl_ViewSpot N p b (i : Int) C = some (spotM C (layM C (b.1.take i) (layM C p (0, 0)))) ∧ spec_ViewSpot N p b (i : Int) C = some (spotM C (layM C (b.1.take i) (layM C p (0, 0)))) := by
  have hv0 := hv
  unfold viewedG at hv
  simp only [Bool.and_eq_true, decide_eq_true_eq] at hv
  have hbl := ptsG_len (bufG_iff.1 hv.1.2).1
  have hC := hv.2
  constructor
  · unfold impl_ViewSpot
    obtain ⟨l, l1, l2⟩ := impl_lay_tot N hN hC p hp b hbl false
    rw [viewed_eq N p b C (by omega) (by omega) (by omega) (by omega), bindO_s, hv0, show pNot true = false from rfl, ifB_f, isPlace_eq N b _ hv.1.2, bindO_s, decide_eq_true (by omega : (0 : Int) ≤ (i : Int)), decide_eq_true (by omega : (i : Int) ≤ (b.1.length : Int)), show pNot (true && true) = false from rfl, bindO_s, ifB_f, l1, bindO_s, l2.2.2.2.2.2, spots_at _ _ _ _ _ (by omega), bindO_s]
  · unfold spec_ViewSpot
    obtain ⟨l, l1, l2⟩ := spec_lay_tot N hN hC p hp b hbl false
    refine (spec_guard N (by omega) p b C hp _).trans ?_
    rw [hv0, show (!true) = false from rfl, ifB_f, pLt_f (by omega), bindO_s, ifB_f, pLen_d, pGt_f (by omega), bindO_s, ifB_f, l1, bindO_s, l2, spots_at _ _ _ _ _ (by omega), bindO_s]
def spotLe (x y : Int × Int × Unit) : Prop := x.1 < y.1 ∨ (x.1 = y.1 ∧ x.2.1 ≤ y.2.1)
theorem spot_mono {C : Int} {rc rc' : Int × Int} (h : rcOk C rc) (h' : rcOk C rc') (hC : 2 ≤ C) (hl : rc.1 < rc'.1 ∨ (rc'.1 = rc.1 ∧ rc.2 ≤ rc'.2)) : spotLe (spotM C rc) (spotM C rc') := by
  obtain ⟨a1, a2, a3⟩ := h
  obtain ⟨b1, b2, b3⟩ := h'
  unfold spotLe spotM
  by_cases h1 : rc.2 = C
  · rw [if_pos h1]
    by_cases h2 : rc'.2 = C
    · rw [if_pos h2]; simp only []; omega
    · rw [if_neg h2]; simp only []; omega
  · rw [if_neg h1]
    by_cases h2 : rc'.2 = C
    · rw [if_pos h2]; simp only []; omega
    · rw [if_neg h2]; simp only []; omega
theorem spot_col {C : Int} {rc : Int × Int} (h : rcOk C rc) (hC : 2 ≤ C) : 0 ≤ (spotM C rc).1 ∧ 0 ≤ (spotM C rc).2.1 ∧ (spotM C rc).2.1 < C := by
  obtain ⟨a1, a2, a3⟩ := h
  unfold spotM
  split <;> simp only [] <;> omega
theorem spots_loop (N : Nat) (hN : 2000 < N) (p : List Int) (b : BufT) (C rows : Int) (hp : p.length ≤ 400) (hv : viewedG p b C = true) (hr : rows = (spotM C (layM C b.1 (layM C p (0, 0)))).1 + 1) :
    ∀ (m i n : Nat) (last : Int × Int × Unit), b.1.length + 1 - i = m → i ≤ b.1.length + 1 → m < n → spotLe last (spotM C (layM C (b.1.take i) (layM C p (0, 0)))) → (i = b.1.length + 1 → last = spotM C (layM C b.1 (layM C p (0, 0)))) →
    loopP (laws_FnSpots.l11 N) n (C, rows, (i : Int), p, b, last, ()) (
          onSum (fun d =>
            let x59 := d.1;
            let x60 := d.2.1;
            some (pEq x60.1 (pSub Go.IntKind.i64 x59 1))) (
          fun d =>
          let x61 := d.1;
          some x61)) = some true := by
  have hv0 := hv
  unfold viewedG at hv
  simp only [Bool.and_eq_true, decide_eq_true_eq] at hv
  have hbl := ptsG_len (bufG_iff.1 hv.1.2).1
  have hC := hv.2
  have ho0 : rcOk C (0, 0) := ⟨by show (0 : Int) ≤ 0; omega, by show (0 : Int) ≤ 0; omega, by show (0 : Int) ≤ C; omega⟩
  obtain ⟨q1, q2⟩ := layM_ok hC.1 p ho0 p.length (Nat.le_refl _)
  rw [List.take_length] at q1 q2
  have q2 : (layM C p (0, 0)).1 ≤ 0 + 2 * (p.length : Int) := q2
  intro m
  induction m with
  | zero =>
    intro i n last hm hi hn hle hlast
    obtain ⟨n, rfl⟩ := succ_of hn
    rw [loopP_s]; unfold laws_FnSpots.l11; simp only [pLen_d]
    rw [pLe_f (by omega), ifB_f]
    show some (pEq last.1 (pSub .i64 rows 1)) = some true
    have hl := hlast (by omega)
    obtain ⟨k1, k2⟩ := layM_ok hC.1 b.1 q1 b.1.length (Nat.le_refl _)
    rw [List.take_length] at k1 k2
    have : (spotM C (layM C b.1 (layM C p (0, 0)))).1 ≤ 10000 ∧ 0 ≤ (spotM C (layM C b.1 (layM C p (0, 0)))).1 := by
      unfold spotM; obtain ⟨w1, w2, w3⟩ := k1; split <;> simp only [] <;> omega
    rw [hl, hr, pSub_i (by omega) (by omega), pEq_t (by omega)]
  | succ m ih =>
    intro i n last hm hi hn hle hlast
    obtain ⟨n, rfl⟩ := succ_of hn
    have hi2 : i ≤ b.1.length := by omega
    obtain ⟨k1, k2⟩ := layM_ok hC.1 b.1 q1 i hi2
    obtain ⟨c1, c2, c3⟩ := spot_col k1 hC.1
    rw [loopP_s]; unfold laws_FnSpots.l11; simp only [pLen_d]
    obtain ⟨z1, z2⟩ := spots_both N hN p b C hp hv0 i hi2
    have next : spotLe (spotM C (layM C (b.1.take i) (layM C p (0, 0)))) (spotM C (layM C (b.1.take (i + 1)) (layM C p (0, 0)))) := by
      by_cases hlt : i < b.1.length
      · rw [layM_snoc C b.1 i hlt]
        obtain ⟨g1, g2, g3, g4⟩ := ptM_ok hC.1 b.1[i] k1
        exact spot_mono k1 g1 hC.1 g4
      · have e : b.1.take (i + 1) = b.1.take i := by rw [List.take_of_length_le (by omega), List.take_of_length_le (by omega)]
        rw [e]; exact .inr ⟨rfl, Int.le_refl _⟩
    have fin : i + 1 = b.1.length + 1 → spotM C (layM C (b.1.take i) (layM C p (0, 0))) = spotM C (layM C b.1 (layM C p (0, 0))) := fun e => by
      rw [List.take_of_length_le (by omega)]
    have key := ih (i + 1) n _ (by omega) (by omega) (by omega) next fin
    generalize spotM C (layM C (b.1.take i) (layM C p (0, 0))) = x at *
    have hself : pNot (pAnd2 (pEq x.1 x.1) (pAnd2 (pEq x.2.1 x.2.1) true)) = false := by rw [pEq_t rfl, pEq_t rfl]; rfl
    have hn1 : ¬ x.1 < last.1 := by rcases hle with h | h <;> omega
    have ei : pAdd .i64 (i : Int) 1 = ((i + 1 : Nat) : Int) := by rw [pAdd_i (by omega) (by omega)]; rfl
    rw [pLe_t (by omega), ifB_t, lwCopy_eq N p (by omega), bindO_s, z1, bindO_s, z2, bindO_s, hself, ifB_f, pLt_f (by omega), ifB_f]
    by_cases hq : x.1 = last.1
    · have hn2 : ¬ x.2.1 < last.2.1 := by rcases hle with h | h <;> omega
      rw [pEq_t hq, ifB_t, pLt_f (by omega), ifB_f, pGe_f (by omega), ifB_f]
      show loopP (laws_FnSpots.l11 N) n (C, rows, pAdd .i64 (i : Int) 1, p, b, x, ()) _ = _
      rw [ei]; exact key
    · rw [pEq_f hq, ifB_f, pGe_f (by omega), ifB_f]
      show loopP (laws_FnSpots.l11 N) n (C, rows, pAdd .i64 (i : Int) 1, p, b, x, ()) _ = _
      rw [ei]; exact key
theorem pure_FnSpots (a : List Int) (_h : a.length ≤ 9223372036854775807 ∧ ∀ x ∈ a, IntKind.u8.min ≤ x ∧ x ≤ IntKind.u8.max) : ∃ N, laws_FnSpots N a = some true := by
  refine ⟨1048700, ?_⟩
  unfold laws_FnSpots
  rw [pLen_d]
  by_cases ha : 1048576 < a.length
  · rw [pGt_t (by omega), ifB_t]
  rw [pGt_f (by omega), ifB_f]
  obtain ⟨⟨p, b, C⟩, hd, hp, hb, hc1, hc2⟩ := dvrows_tot 1048700 (by omega) a (by omega)
  simp only at hp hb hc1 hc2
  rw [hd, bindO_s]
  simp only []
  rw [lwCopy_eq _ p (by omega), bindO_s, impl_ViewRows_eq _ (by omega) p b C (by omega) hb, bindO_s, spec_ViewRows_eq _ (by omega) p b C (by omega), bindO_s, pNe_f rfl, ifB_f]
  cases hv : viewedG p b C with
  | false => rfl
  | true =>
    rw [if_pos rfl]
    have hv0 := hv
    unfold viewedG at hv0
    simp only [Bool.and_eq_true, decide_eq_true_eq] at hv0
    have hC := hv0.2
    have hbl := ptsG_len (bufG_iff.1 hv0.1.2).1
    have ho0 : rcOk C (0, 0) := ⟨by show (0 : Int) ≤ 0; omega, by show (0 : Int) ≤ 0; omega, by show (0 : Int) ≤ C; omega⟩
    obtain ⟨q1, _⟩ := layM_ok hC.1 p ho0 p.length (Nat.le_refl _)
    rw [List.take_length] at q1
    obtain ⟨k1, _⟩ := layM_ok hC.1 b.1 q1 b.1.length (Nat.le_refl _)
    rw [List.take_length] at k1
    obtain ⟨w1, w2, w3⟩ := spot_col k1 hC.1
    obtain ⟨v1, v2, v3⟩ := spot_col q1 hC.1
    rw [pEq_f (by omega), ifB_f]
    refine spots_loop 1048700 (by omega) p b C _ (by omega) hv rfl (b.1.length + 1) 0 1048700 (0, (0, ())) (by omega) (by omega) (by omega) ?_ (fun h => by omega)
    show spotLe (0, (0, ())) (spotM C (layM C p (0, 0)))
    unfold spotLe
    simp only []
    omega
end Go.AE.F
