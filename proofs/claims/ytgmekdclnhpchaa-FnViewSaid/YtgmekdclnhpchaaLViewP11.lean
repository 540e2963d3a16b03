/- Plain laws of those functions. -/
import Derived.Test.YtgmekdclnhpchaaLViewP10
namespace Go.AE.F
open Go.AE
theorem impl_view_loop (N : Nat) (hN : 10000 < N) (R C : Nat) (hC : 2 ≤ C ∧ C ≤ 80) (hR : R ≤ 24) (L : List SeenT) (hl : L.length ≤ 9000) (hok : ∀ s ∈ L, seenOk C s) (top : Nat) (ht : top ≤ 5000) (v : ViewT) (sp : Int × Int × Unit) {Q : Type} (k : _ → Option Q) :
    loopP (zAJ.l9 N) N ((R : Int), (C : Int), (top : Int), L, (L.length : Int), 0, v, gV R C (repE (R * C)) 0 0, sp, ()) k = k ((top : Int), v, gV R C (L.foldl (putV R C top) (repE (R * C))) 0 0, sp, ()) := by
  have hRC : R * C ≤ 24 * 80 := Nat.mul_le_mul hR hC.2
  refine run_loop (step := zAJ.l9 N) (fun i => ((R : Int), (C : Int), (top : Int), L, (L.length : Int), (i : Int), v, gV R C ((L.take i).foldl (putV R C top) (repE (R * C))) 0 0, sp, ())) L.length _ _ (fun i kn hi => ?_) (fun kn => ?_) N (by omega)
  · unfold zAJ.l9
    simp only []
    have hs := hok _ (List.getElem_mem hi)
    have hcl : ((L.take i).foldl (putV R C top) (repE (R * C))).length = R * C := by rw [fold_put_len]; simp
    have e3 : pAdd .i64 (i : Int) 1 = ((i + 1 : Nat) : Int) := pAdd_i (by omega) (by omega)
    rw [fold_take1 _ _ _ _ hi]
    generalize (L.take i).foldl (putV R C top) (repE (R * C)) = cells at *
    have hx : idx L (i : Int) = some L[i] := idx_lt hi
    rw [pLt_t (by omega), ifB_t, hx, bindO_s]
    generalize L[i] = s at *
    obtain ⟨s1, s2, s3, s4⟩ := hs
    have s5 : s.2.2.1 + 1 ≤ C := by split at s4 <;> omega
    have ehi : pSub .i64 (pAdd .i64 (top : Int) (R : Int)) 1 = (top : Int) + R - 1 := by rw [pAdd_i (by omega) (by omega), pSub_i (by omega) (by omega)]
    rw [impl_within_eq, bindO_s, ehi, pNot_d]
    unfold putV
    by_cases hin : (top : Int) ≤ s.2.1 ∧ s.2.1 ≤ (top : Int) + R - 1
    · rw [decide_eq_true hin.1, decide_eq_true hin.2, if_pos hin, Bool.and_self, Bool.not_true, ifB_f]
      obtain ⟨r, hr⟩ : ∃ r : Nat, s.2.1 = ((top + r : Nat) : Int) := ⟨(s.2.1 - top).toNat, by omega⟩
      obtain ⟨c, hc⟩ : ∃ c : Nat, s.2.2.1 = (c : Int) := ⟨s.2.2.1.toNat, by omega⟩
      have hrR : r < R := by omega
      have hb1 := Nat.mul_le_mul (Nat.succ_le_of_lt hrR) (Nat.le_refl C)
      rw [Nat.succ_mul] at hb1
      have er : (r : Int) * (C : Int) = ((r * C : Nat) : Int) := by simp
      have eat : pAdd .i64 (pMul .i64 (pSub .i64 s.2.1 (top : Int)) (C : Int)) s.2.2.1 = ((r * C + c : Nat) : Int) := by
        rw [hr, hc, pSub_i (by omega) (by omega), show ((top + r : Nat) : Int) - (top : Int) = (r : Int) by omega, pMul_i (by omega) (by omega), er, pAdd_i (by omega) (by omega)]; simp
      have eat2 : (s.2.1 - top) * C + s.2.2.1 = ((r * C + c : Nat) : Int) := by
        rw [hr, hc, show ((top + r : Nat) : Int) - (top : Int) = (r : Int) by omega, er]; simp
      have hlt : r * C + c < cells.length := by omega
      have g3 : (gV R C cells 0 0).2.2.1 = cells := rfl
      simp only [eat, eat2, g3]
      have hs1 : idx (pSet cells ((r * C + c : Nat) : Int) s.1) ((r * C + c : Nat) : Int) = some s.1 := by
        rw [idx_n]; unfold pSet; rw [Int.toNat_natCast, List.getElem?_set_self hlt]
      rw [idx_lt hlt, bindO_s, bindO_s, hs1, bindO_s, bindO_s, impl_isWide_eq N _ (by omega), bindO_s]
      cases hw : wideC s.1 with
      | false =>
        rw [ifB_f, bindO_s, if_neg (by simp)]
        simp only [e3]
        rfl
      | true =>
        rw [hw] at s4
        have s4 : s.2.2.1 + 2 ≤ C := s4
        have e4 : pAdd .i64 ((r * C + c : Nat) : Int) 1 = ((r * C + c + 1 : Nat) : Int) := pAdd_i (by omega) (by omega)
        have e5 : ((r * C + c : Nat) : Int) + 1 = ((r * C + c + 1 : Nat) : Int) := by omega
        rw [ifB_t, if_pos rfl, e4, e5, idx_lt (by simp [pSet]; omega), bindO_s, bindO_s, bindO_s]
        simp only [e3]
        rfl
    · have : (decide ((top : Int) ≤ s.2.1) && decide (s.2.1 ≤ (top : Int) + R - 1)) = false := by
        rw [← Bool.not_eq_true]; intro q; simp only [Bool.and_eq_true, decide_eq_true_eq] at q; exact hin q
      rw [this, Bool.not_false, ifB_t, bindO_s, if_neg hin]
      simp only [e3]
  · unfold zAJ.l9
    simp only []
    rw [pLt_f (by omega), ifB_f, List.take_length]
end Go.AE.F
namespace Go.AE.F
open Go.AE
theorem prompt_tot (N : Nat) (hN : 100001 < N) (s : SrcT) (hs : srcOk s) : Tot (fun r : List Int × SrcT => srcOk r.2 ∧ r.1.length ≤ 10) (zAN N s) := by
  unfold zAN
  refine Tot.bind (nT N s 5 hs (by omega)) fun q hq => ?_
  have h2 := hq.2.2.2 (by omega)
  refine Tot.bind (dpoints_tot N _ _ hq.1 hq.2.1 (by omega) hN) fun p hp => ?_
  have hpl := hp.2
  refine Tot.bind (oneT N _ 30 hp.1 (by omega)) fun o ho => ?_
  refine Tot.both (Tot.fit (by simp; omega) (Tot.ret ⟨ho, by simp [pApp]; omega⟩)) (Tot.ret ⟨ho, by show p.1.length ≤ 10; omega⟩)
theorem cols_tot (N : Nat) (s : SrcT) (hs : srcOk s) : Tot (fun r : Int × SrcT => srcOk r.2 ∧ 0 ≤ r.1 ∧ r.1 ≤ 100) (zAR N s) := by
  unfold zAR
  refine Tot.bind (oneT N s 15 hs (by omega)) fun o ho => ?_
  refine Tot.both ?_ ?_
  · refine Tot.bind (nT N _ 4 ho (by omega)) fun q hq => ?_
    have h2 := hq.2.2.2 (by omega)
    refine Tot.bind (idxT _ _ hq.2.1 (by simp; omega)) fun _ _ => ?_
    refine Tot.bind (idxT _ _ hq.2.1 (by simp; omega)) fun x hx => Tot.ret ⟨hq.1, ?_⟩
    simp only [List.mem_cons, List.not_mem_nil, or_false] at hx
    show 0 ≤ x ∧ x ≤ 100
    omega
  · refine Tot.bind (nT N _ 12 ho (by omega)) fun q hq => ?_
    have h2 := hq.2.2.2 (by omega)
    have h1 := hq.2.1
    rw [pAdd_i (by omega) (by omega)]
    exact Tot.ret ⟨hq.1, by show 0 ≤ 2 + q.1; omega, by show 2 + q.1 ≤ 100; omega⟩
def viewedG (p : List Int) (b : BufT) (C : Int) : Bool := (ptsG p && bufG b) && (decide (2 ≤ C) && decide (C ≤ 80))
theorem viewed_eq (N : Nat) (p : List Int) (b : BufT) (C : Int) (hp : p.length < N) (hp2 : p.length ≤ 100000) (hb : b.1.length < N) (hb2 : b.1.length ≤ 100000) : zB2 N p b C = some (viewedG p b C) := by
  unfold zB2 viewedG zBA
  rw [impl_PointsRight_eq N p hp (by omega), bindO_s, impl_BufRight_eq N b hb (by omega), bindO_s, impl_within_eq, bindO_s, bindO_s, ifB_and, bindO_s, ifB_and, bindO_s]
theorem impl_ViewRows_eq (N : Nat) (hN : 2000 < N) (p : List Int) (b : BufT) (C : Int) (hp : p.length ≤ 400) (hb : b.1.length ≤ 1000) :
    zBL N p b C = some (if viewedG p b C = true then (spotM C (layM C b.1 (layM C p (0, 0)))).1 + 1 else 0) := by
  unfold zBL
  rw [viewed_eq N p b C (by omega) (by omega) (by omega) (by omega), bindO_s]
  cases hv : viewedG p b C with
  | false => rfl
  | true =>
    unfold viewedG at hv
    simp only [Bool.and_eq_true, decide_eq_true_eq] at hv
    have hbl := ptsG_len (bufG_iff.1 hv.1.2).1
    have hC := hv.2
    have ho0 : rcOk C (0, 0) := ⟨by show (0 : Int) ≤ 0; omega, by show (0 : Int) ≤ 0; omega, by show (0 : Int) ≤ C; omega⟩
    obtain ⟨q1, q2⟩ := layM_ok hC.1 p ho0 p.length (Nat.le_refl _)
    rw [List.take_length] at q1 q2
    have q2 : (layM C p (0, 0)).1 ≤ 0 + 2 * (p.length : Int) := q2
    obtain ⟨k1, k2⟩ := layM_ok hC.1 b.1 q1 b.1.length (Nat.le_refl _)
    rw [List.take_length] at k1 k2
    obtain ⟨l, l1, l2⟩ := impl_lay_tot N hN hC p hp b hbl false
    rw [show pNot true = false from rfl, ifB_f, l1, bindO_s, lay_spot_eq N hC k1 (by omega) l2, bindO_s, if_pos rfl]
    have : (spotM C (layM C b.1 (layM C p (0, 0)))).1 ≤ 10000 ∧ 0 ≤ (spotM C (layM C b.1 (layM C p (0, 0)))).1 := by
      unfold spotM; obtain ⟨w1, w2, w3⟩ := k1; split <;> simp only [] <;> omega
    rw [pAdd_i (by omega) (by omega)]
theorem spec_guard (N : Nat) (hN : 400 < N) (p : List Int) (b : BufT) (C : Int) (hp : p.length ≤ 400) {R : Type} (k : Bool → Option R) :
    (bindO (
    ifB (pGt (pLen p) 400) (
      some true) (
      bindO (zA7 N p) fun y10 =>
      some (pNot y10))) fun y9 =>
  bindO (
    ifB y9 (
      some true) (
      bindO (zBC N b) fun y12 =>
      some (pNot y12))) fun y11 =>
  bindO (
    ifB y11 (
      some true) (
      bindO (zB4 N 1 C) fun y14 =>
      some (pNot y14))) fun y13 => k y13) = k (!viewedG p b C) := by
  have hsz : zB4 N 1 C = some (decide (2 ≤ C) && decide (C ≤ 80)) := by
    unfold zB4
    rw [show pGe 1 1 = true from rfl, ifB_t, show pLe 1 24 = true from rfl, bindO_s, ifB_t, bindO_s, pGe_d, pLe_d, ifB_and, bindO_s]
  rw [pLen_d, pGt_f (by omega), ifB_f, spec_PointsRight_eq N p (by omega), bindO_s, bindO_s, spec_BufRight_eq N b (by omega), bindO_s, hsz, bindO_s, pNot_d, pNot_d, pNot_d, ifB_or, bindO_s, ifB_or, bindO_s]
  unfold viewedG
  congr 1
  cases ptsG p <;> cases bufG b <;> cases (decide (2 ≤ C) && decide (C ≤ 80)) <;> rfl
theorem spots_both (N : Nat) (hN : 2000 < N) (p : List Int) (b : BufT) (C : Int) (hp : p.length ≤ 400) (hv : viewedG p b C = true) (i : Nat) (hi : i ≤ b.1.length) :
    zBF N p b (i : Int) C = some (spotM C (layM C (b.1.take i) (layM C p (0, 0)))) ∧ zBT N p b (i : Int) C = some (spotM C (layM C (b.1.take i) (layM C p (0, 0)))) := by
  have hv0 := hv
  unfold viewedG at hv
  simp only [Bool.and_eq_true, decide_eq_true_eq] at hv
  have hbl := ptsG_len (bufG_iff.1 hv.1.2).1
  have hC := hv.2
  constructor
  · unfold zBF
    obtain ⟨l, l1, l2⟩ := impl_lay_tot N hN hC p hp b hbl false
    rw [viewed_eq N p b C (by omega) (by omega) (by omega) (by omega), bindO_s, hv0, show pNot true = false from rfl, ifB_f, isPlace_eq N b _ hv.1.2, bindO_s, decide_eq_true (by omega : (0 : Int) ≤ (i : Int)), decide_eq_true (by omega : (i : Int) ≤ (b.1.length : Int)), show pNot (true && true) = false from rfl, bindO_s, ifB_f, l1, bindO_s, l2.2.2.2.2.2, spots_at _ _ _ _ _ (by omega), bindO_s]
  · unfold zBT
    obtain ⟨l, l1, l2⟩ := spec_lay_tot N hN hC p hp b hbl false
    refine (spec_guard N (by omega) p b C hp _).trans ?_
    rw [hv0, show (!true) = false from rfl, ifB_f, pLt_f (by omega), bindO_s, ifB_f, pLen_d, pGt_f (by omega), bindO_s, ifB_f, l1, bindO_s, l2, spots_at _ _ _ _ _ (by omega), bindO_s]
def spotLe (x y : Int × Int × Unit) : Prop := x.1 < y.1 ∨ (x.1 = y.1 ∧ x.2.1 ≤ y.2.1)
theorem spot_mono {C : Int} {rc rc' : Int × Int} (h : rcOk C rc) (h' : rcOk C rc') (hC : 2 ≤ C) (hl : rc.1 < rc'.1 ∨ (rc'.1 = rc.1 ∧ rc.2 ≤ rc'.2)) : spotLe (spotM C rc) (spotM C rc') := by
  obtain ⟨a1, a2, a3⟩ := h
  obtain ⟨b1, b2, b3⟩ := h'
  unfold spotLe spotM
  by_cases h1 : rc.2 = C
  · rw [if_pos h1]
    by_cases h2 : rc'.2 = C
    · rw [if_pos h2]; simp only []; omega
    · rw [if_neg h2]; simp only []; omega
  · rw [if_neg h1]
    by_cases h2 : rc'.2 = C
    · rw [if_pos h2]; simp only []; omega
    · rw [if_neg h2]; simp only []; omega
theorem spot_col {C : Int} {rc : Int × Int} (h : rcOk C rc) (hC : 2 ≤ C) : 0 ≤ (spotM C rc).1 ∧ 0 ≤ (spotM C rc).2.1 ∧ (spotM C rc).2.1 < C := by
  obtain ⟨a1, a2, a3⟩ := h
  unfold spotM
  split <;> simp only [] <;> omega
end Go.AE.F
