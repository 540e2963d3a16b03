/- Plain laws of those functions. -/
import Derived.Test.YtgmekdclnhpchaaLViewP7
namespace Go.AE.F
open Go.AE
def layN (C : Nat) (at' : Nat → Int) (l : List Int) (S : LaidT) : Nat → LaidT
  | 0 => S
  | i + 1 => pointU C (l.getD i 0) (at' i) (layN C at' l S i)
def posS (S : LaidT) : Int × Int := ((S.1.length : Int), (wR S.2 : Int))
theorem pos_addU (C : Nat) (s a : Int) (S : LaidT) (hS : LaidOk C S) : posS (addU C s a S) = stepW C (wG s) (posS S) := by
  have hw := wG_rng s
  obtain ⟨g1, g2, g3⟩ := hS
  unfold addU stepW posS
  by_cases h0 : wG s = 0
  · rw [if_pos h0, if_pos h0]
    simp only [wR_modLast s _ g3]
  rw [if_neg h0, if_neg h0]
  have e1 := uC_new s a h0
  by_cases hl : C - wR S.2 < (wG s).toNat
  · rw [if_pos hl, if_pos (by show (C : Int) - (wR S.2 : Int) < wG s; omega)]
    have : wR [([s], a)] = (wG s).toNat := by rw [← List.nil_append [([s], a)], wR_snoc, e1]; show 0 + _ = _; omega
    simp only [this, List.length_append, List.length_singleton]
    congr 1; omega
  · rw [if_neg hl, if_neg (by show ¬ (C : Int) - (wR S.2 : Int) < wG s; omega)]
    simp only [wR_snoc, e1]
    congr 1; omega
theorem pos_fold {C : Nat} (hC : 2 ≤ C) (a : Int) : ∀ (l : List Int) (S : LaidT), LaidOk C S → posS (l.foldl (fun S s => addU C s a S) S) = foldW C l (posS S)
  | [], _, _ => rfl
  | s :: l, S, hS => by
    rw [List.foldl_cons, pos_fold hC a l _ (addU_ok hC s a hS), pos_addU C s a S hS]; rfl
theorem pos_pointU {C : Nat} (hC : 2 ≤ C) (p a : Int) (S : LaidT) (hS : LaidOk C S) : posS (pointU C p a S) = ptM C p (posS S) := by
  unfold pointU ptM
  by_cases h : p = 10
  · rw [if_pos h, if_pos h]; unfold posS; simp [wR, rowUC]
  · rw [if_neg h, if_neg h, pos_fold hC a _ S hS]
theorem layN_ok {C : Nat} (hC : 2 ≤ C) (at' : Nat → Int) (l : List Int) {S : LaidT} (h : LaidOk C S) : ∀ i, LaidOk C (layN C at' l S i)
  | 0 => h
  | i + 1 => pointU_ok hC _ _ (layN_ok hC at' l h i)
theorem layN_pos {C : Nat} (hC : 2 ≤ C) (at' : Nat → Int) (l : List Int) {S : LaidT} (h : LaidOk C S) : ∀ i, i ≤ l.length → posS (layN C at' l S i) = layM C (l.take i) (posS S)
  | 0, _ => rfl
  | i + 1, hi => by
    rw [layM_snoc C l i (by omega), ← layN_pos hC at' l h i (by omega), layN, pos_pointU hC _ _ _ (layN_ok hC at' l h i), getD_lt (by omega)]
theorem layN_sz (C : Nat) (at' : Nat → Int) (l : List Int) (S : LaidT) : ∀ i, szS (layN C at' l S i) ≤ szS S + 4 * i
  | 0 => by show szS S ≤ _; omega
  | i + 1 => by
    have h1 := layN_sz C at' l S i
    have h2 := pointU_sz C (l.getD i 0) (at' i) (layN C at' l S i)
    rw [layN]; omega
theorem len_sz (S : LaidT) : S.1.length ≤ szS S := by unfold szS; omega
theorem layQ_spot (N C : Nat) (S : LaidT) (h : S.1.length ≤ 100000) (sp : List (Int × Int × Unit)) : zAS N (layQ C S sp) = some (spotM C (posS S)) := by
  unfold zAS layQ spotM posS
  simp only []
  by_cases hh : (wR S.2 : Int) = (C : Int)
  · rw [pEq_t hh, ifB_t, if_pos hh, pAdd_i (by omega) (by omega)]
  · rw [pEq_f hh, ifB_f, if_neg hh]
theorem penQ_spot (N C : Nat) (S : LaidT) (h : S.1.length ≤ 100000) (hS : wR S.2 ≤ C) : zAO N (penQ C S) = some (spotM C (posS S)) := by
  have el : pSub .i64 (pLen (penQ C S).2.1) 1 = (S.1.length : Int) := by
    show pSub .i64 (((S.1.map (rowPad C) ++ [rowPad C S.2]).length : Nat) : Int) 1 = _
    rw [pSub_i (by simp <;> omega) (by simp <;> omega)]; simp
  unfold zAO
  rw [el]
  unfold penQ spotM posS
  simp only []
  by_cases hh : (wR S.2 : Int) = (C : Int)
  · rw [pGe_t (by omega), ifB_t, if_pos hh, pAdd_i (by omega) (by omega)]
  · rw [pGe_f (by omega), ifB_f, if_neg hh]
def regA (b : BufT) (reg : Bool) (i : Nat) : Int := if (reg && (decide (pMin b.2.2.1 b.2.1 ≤ (i : Int)) && decide ((i : Int) < pMax b.2.2.1 b.2.1))) = true then 1 else 0
theorem regA_rng (b : BufT) (reg : Bool) (i : Nat) : regA b reg i = 0 ∨ regA b reg i = 1 := by unfold regA; split; exact .inr rfl; exact .inl rfl
def laidS (C : Nat) (pr : List Int) (b : BufT) (reg : Bool) : LaidT := layN C (regA b reg) b.1 (layN C (fun _ => 0) pr ([], []) pr.length) b.1.length
theorem nil_ok (C : Nat) : LaidOk C ([], []) := ⟨fun _ h => by (cases h), Nat.zero_le _, fun _ h => by (cases h)⟩
theorem impl_lay_eq (N : Nat) (hN : 2000 < N) (C : Nat) (hC : 2 ≤ C ∧ C ≤ 80) (pr : List Int) (hp : pr.length ≤ 400) (b : BufT) (hb : bufG b = true) (reg : Bool) :
    zAG N pr b reg C = some (layQ C (laidS C pr b reg) (spotsM C b.1 (layM C pr (0, 0)) (b.1.length + 1))) := by
  obtain ⟨hb0, hb1, hb2, hb3, hb4⟩ := bufG_iff.1 hb
  have hbl := ptsG_len hb0
  unfold zAG
  rw [pLen_d]
  have hs0 : szS (([], []) : LaidT) = 0 := rfl
  have z1 := layN_sz C (fun _ => 0) pr ([], [])
  have ok1 := layN_ok hC.1 (fun _ => 0) pr (nil_ok C)
  have e0 : layQ C ([], []) [] = ((C : Int), 0, 0, [], false, [], ()) := rfl
  refine (run_loop (step := zAG.l3 N) (fun i => (reg, pr, (pr.length : Int), (i : Int), b, layQ C (layN C (fun _ => 0) pr ([], []) i) [], ())) pr.length _ (reg, b, layQ C (layN C (fun _ => 0) pr ([], []) pr.length) [], ()) (fun i kn hi => ?_) (fun kn => ?_) N (by omega)).trans ?_
  · unfold zAG.l3
    simp only []
    have zi := z1 i
    rw [pLt_t (by omega), ifB_t, idx_lt hi, bindO_s, impl_point_eq N (by omega) C hC _ (ok1 i) (by omega), bindO_s, pAdd_i (by omega) (by omega)]
    rw [layN, getD_lt hi]; rfl
  · unfold zAG.l3
    simp only []
    rw [pLt_f (by omega), ifB_f]
  · simp only []
    unfold zB5
    rw [bindO_s, pLen_d]
    have z2 := z1 pr.length
    have o2 := ok1 pr.length
    have hpos : posS (layN C (fun _ => 0) pr ([], []) pr.length) = layM C pr (0, 0) := by
      rw [layN_pos hC.1 (fun _ => 0) pr (nil_ok C) pr.length (Nat.le_refl _), List.take_length]; rfl
    unfold laidS
    generalize layN C (fun _ => 0) pr ([], []) pr.length = S0 at *
    rw [← hpos]
    have z3 := layN_sz C (regA b reg) b.1 S0
    have ok3 := layN_ok hC.1 (regA b reg) b.1 o2
    refine (run_loop (step := zAG.l9 N) (fun i => (reg, pMin b.2.2.1 b.2.1, pMax b.2.2.1 b.2.1, b.1, (b.1.length : Int), (i : Int), layQ C (layN C (regA b reg) b.1 S0 i) (spotsM C b.1 (posS S0) i), ())) b.1.length _ (layQ C (layN C (regA b reg) b.1 S0 b.1.length) (spotsM C b.1 (posS S0) b.1.length), ()) (fun i kn hi => ?_) (fun kn => ?_) N (by omega)).trans ?_
    · unfold zAG.l9
      simp only []
      have zi := z3 i
      have hps := layN_pos hC.1 (regA b reg) b.1 o2 i (by omega)
      have hsp : (layQ C (layN C (regA b reg) b.1 S0 i) (spotsM C b.1 (posS S0) i)).2.2.2.2.2.1 = spotsM C b.1 (posS S0) i := rfl
      rw [pLt_t (by omega), ifB_t, idx_lt hi, bindO_s, layQ_spot N C _ (Nat.le_trans (len_sz _) (by omega)), bindO_s, hsp, pFit_t (by rw [spots_len]; simp; omega), ifB_t]
      have hq : ((layQ C (layN C (regA b reg) b.1 S0 i) (spotsM C b.1 (posS S0) i)).1, (layQ C (layN C (regA b reg) b.1 S0 i) (spotsM C b.1 (posS S0) i)).2.1, (layQ C (layN C (regA b reg) b.1 S0 i) (spotsM C b.1 (posS S0) i)).2.2.1, (layQ C (layN C (regA b reg) b.1 S0 i) (spotsM C b.1 (posS S0) i)).2.2.2.1, (layQ C (layN C (regA b reg) b.1 S0 i) (spotsM C b.1 (posS S0) i)).2.2.2.2.1, pApp (spotsM C b.1 (posS S0) i) [spotM C (posS (layN C (regA b reg) b.1 S0 i))], (layQ C (layN C (regA b reg) b.1 S0 i) (spotsM C b.1 (posS S0) i)).2.2.2.2.2.2) = layQ C (layN C (regA b reg) b.1 S0 i) (spotsM C b.1 (posS S0) (i + 1)) := by
        rw [spots_snoc, ← hps]; rfl
      rw [hq]
      have one := fun a : Int => impl_point_eq N (by omega) C hC _ (ok3 i) (by omega) (spotsM C b.1 (posS S0) (i + 1)) b.1[i] a
      have e2 : pAdd .i64 (i : Int) 1 = ((i + 1 : Nat) : Int) := pAdd_i (by omega) (by omega)
      have ehi : decide ((i : Int) ≤ pSub .i64 (pMax b.2.2.1 b.2.1) 1) = decide ((i : Int) < pMax b.2.2.1 b.2.1) := by
        have hm : 0 ≤ pMax b.2.2.1 b.2.1 ∧ pMax b.2.2.1 b.2.1 ≤ 300 := by unfold pMax; split <;> omega
        rw [pSub_i (by omega) (by omega)]
        by_cases h : (i : Int) < pMax b.2.2.1 b.2.1
        · rw [decide_eq_true h, decide_eq_true (by omega)]
        · rw [decide_eq_false h, decide_eq_false (by omega)]
      rw [impl_within_eq, bindO_s, ehi]
      simp only [one, bindO_s]
      rw [layN, getD_lt hi]
      unfold regA
      cases reg with
      | false => simp [ifB_f, bindO_s, e2]
      | true =>
        rw [ifB_t, bindO_s]
        cases (decide (pMin b.2.2.1 b.2.1 ≤ (i : Int)) && decide ((i : Int) < pMax b.2.2.1 b.2.1)) <;> simp [ifB_t, ifB_f, bindO_s, e2]
    · unfold zAG.l9
      simp only []
      rw [pLt_f (by omega), ifB_f]
    · simp only []
      have zi := z3 b.1.length
      have hps := layN_pos hC.1 (regA b reg) b.1 o2 b.1.length (Nat.le_refl _)
      have hsp : (layQ C (layN C (regA b reg) b.1 S0 b.1.length) (spotsM C b.1 (posS S0) b.1.length)).2.2.2.2.2.1 = spotsM C b.1 (posS S0) b.1.length := rfl
      rw [layQ_spot N C _ (Nat.le_trans (len_sz _) (by omega)), bindO_s, hsp, pFit_t (by rw [spots_len]; simp; omega), ifB_t, spots_snoc, ← hps]
      rfl
theorem spec_lay_eq (N : Nat) (hN : 2000 < N) (C : Nat) (hC : 2 ≤ C ∧ C ≤ 80) (pr : List Int) (hp : pr.length ≤ 400) (b : BufT) (hb : bufG b = true) (reg : Bool) :
    zA9 N pr b reg C = some (penQ C (laidS C pr b reg), spotsM C b.1 (layM C pr (0, 0)) (b.1.length + 1)) := by
  obtain ⟨hb0, hb1, hb2, hb3, hb4⟩ := bufG_iff.1 hb
  have hbl := ptsG_len hb0
  unfold zA9
  rw [pen_start N C hC, bindO_s]
  have z1 := layN_sz C (fun _ => 0) pr ([], [])
  have hs0 : szS (([], []) : LaidT) = 0 := rfl
  have ok1 := layN_ok hC.1 (fun _ => 0) pr (nil_ok C)
  refine (run_loop (step := zA9.l4 N) (fun i => (pr, reg, (i : Int), b, penQ C (layN C (fun _ => 0) pr ([], []) i), ())) pr.length _ (reg, b, penQ C (layN C (fun _ => 0) pr ([], []) pr.length), ()) (fun i kn hi => ?_) (fun kn => ?_) N (by omega)).trans ?_
  · unfold zA9.l4
    simp only [pLen_d]
    have zi := z1 i
    rw [pLt_t (by omega), ifB_t, idx_lt hi, bindO_s, pen_point_eq N (by omega) C hC _ (ok1 i) (by omega), bindO_s, pAdd_i (by omega) (by omega)]
    rw [layN, getD_lt hi]; rfl
  · unfold zA9.l4
    simp only [pLen_d]
    rw [pLt_f (by omega), ifB_f]
  · simp only []
    have z2 := z1 pr.length
    have o2 := ok1 pr.length
    have hpos : posS (layN C (fun _ => 0) pr ([], []) pr.length) = layM C pr (0, 0) := by
      rw [layN_pos hC.1 (fun _ => 0) pr (nil_ok C) pr.length (Nat.le_refl _), List.take_length]; rfl
    unfold laidS
    generalize layN C (fun _ => 0) pr ([], []) pr.length = S0 at *
    rw [← hpos, penQ_spot N C S0 (Nat.le_trans (len_sz _) (by omega)) o2.2.1, bindO_s]
    have emin : zBP N b.2.1 b.2.2.1 = some (pMin b.2.2.1 b.2.1) := by
      unfold zBP pMin
      by_cases h : b.2.1 < b.2.2.1
      · rw [pLt_t h, ifB_t, if_pos h]
      · rw [pLt_f (by omega), ifB_f, if_neg h]
    have emax : zBD N b.2.1 b.2.2.1 = some (pMax b.2.2.1 b.2.1) := by
      unfold zBD pMax
      by_cases h : b.2.2.1 < b.2.1
      · rw [pGt_t h, ifB_t, if_pos h]
      · rw [pGt_f (by omega), ifB_f, if_neg h]
    rw [emin, bindO_s, emax, bindO_s]
    have z3 := layN_sz C (regA b reg) b.1 S0
    have ok3 := layN_ok hC.1 (regA b reg) b.1 o2
    have sp0 : [spotM C (posS S0)] = spotsM C b.1 (posS S0) (0 + 1) := by rw [spots_snoc]; rfl
    rw [sp0]
    refine (run_loop (step := zA9.l11 N) (fun i => (reg, pMin b.2.2.1 b.2.1, pMax b.2.2.1 b.2.1, (i : Int), b, penQ C (layN C (regA b reg) b.1 S0 i), spotsM C b.1 (posS S0) (i + 1), ())) b.1.length _ (penQ C (layN C (regA b reg) b.1 S0 b.1.length), spotsM C b.1 (posS S0) (b.1.length + 1), ()) (fun i kn hi => ?_) (fun kn => ?_) N (by omega)).trans rfl
    · unfold zA9.l11
      simp only [pLen_d]
      have zi := z3 i
      have zi1 := z3 (i + 1)
      have hps := layN_pos hC.1 (regA b reg) b.1 o2 (i + 1) (by omega)
      have e2 : pAdd .i64 (i : Int) 1 = ((i + 1 : Nat) : Int) := pAdd_i (by omega) (by omega)
      have one : ∀ a : Int, a = regA b reg i → (bindO (idx b.1 (i : Int)) fun y95 =>
            bindO (zA4 N (penQ C (layN C (regA b reg) b.1 S0 i)) y95 a) fun y96 =>
            bindO (zAO N y96) fun y97 =>
            ifB (pFit (spotsM C b.1 (posS S0) (i + 1)) [y97]) (
              some (reg, pMin b.2.2.1 b.2.1, pMax b.2.2.1 b.2.1, (i : Int), b, y96, (pApp (spotsM C b.1 (posS S0) (i + 1)) [y97]), ())) (
              none)) = some (reg, pMin b.2.2.1 b.2.1, pMax b.2.2.1 b.2.1, (i : Int), b, penQ C (layN C (regA b reg) b.1 S0 (i + 1)), spotsM C b.1 (posS S0) (i + 1 + 1), ()) := fun a ha => by
        rw [idx_lt hi, bindO_s, pen_point_eq N (by omega) C hC _ (ok3 i) (by omega), bindO_s]
        have es : pointU C b.1[i] a (layN C (regA b reg) b.1 S0 i) = layN C (regA b reg) b.1 S0 (i + 1) := by rw [layN, getD_lt hi, ha]
        rw [es, penQ_spot N C _ (Nat.le_trans (len_sz _) (by omega)) (ok3 (i + 1)).2.1, bindO_s, pFit_t (by rw [spots_len]; simp; omega), ifB_t, spots_snoc C b.1 (posS S0) (i + 1), ← hps]
        rfl
      have r1 : ∀ x : Bool, ifB x (bindO (idx b.1 (i : Int)) fun y95 =>
            bindO (zA4 N (penQ C (layN C (regA b reg) b.1 S0 i)) y95 1) fun y96 =>
            bindO (zAO N y96) fun y97 =>
            ifB (pFit (spotsM C b.1 (posS S0) (i + 1)) [y97]) (
              some (reg, pMin b.2.2.1 b.2.1, pMax b.2.2.1 b.2.1, (i : Int), b, y96, (pApp (spotsM C b.1 (posS S0) (i + 1)) [y97]), ())) (
              none)) (bindO (idx b.1 (i : Int)) fun y95 =>
            bindO (zA4 N (penQ C (layN C (regA b reg) b.1 S0 i)) y95 0) fun y96 =>
            bindO (zAO N y96) fun y97 =>
            ifB (pFit (spotsM C b.1 (posS S0) (i + 1)) [y97]) (
              some (reg, pMin b.2.2.1 b.2.1, pMax b.2.2.1 b.2.1, (i : Int), b, y96, (pApp (spotsM C b.1 (posS S0) (i + 1)) [y97]), ())) (
              none)) = (if x = true then (bindO (idx b.1 (i : Int)) fun y95 =>
            bindO (zA4 N (penQ C (layN C (regA b reg) b.1 S0 i)) y95 1) fun y96 =>
            bindO (zAO N y96) fun y97 =>
            ifB (pFit (spotsM C b.1 (posS S0) (i + 1)) [y97]) (
              some (reg, pMin b.2.2.1 b.2.1, pMax b.2.2.1 b.2.1, (i : Int), b, y96, (pApp (spotsM C b.1 (posS S0) (i + 1)) [y97]), ())) (
              none)) else (bindO (idx b.1 (i : Int)) fun y95 =>
            bindO (zA4 N (penQ C (layN C (regA b reg) b.1 S0 i)) y95 0) fun y96 =>
            bindO (zAO N y96) fun y97 =>
            ifB (pFit (spotsM C b.1 (posS S0) (i + 1)) [y97]) (
              some (reg, pMin b.2.2.1 b.2.1, pMax b.2.2.1 b.2.1, (i : Int), b, y96, (pApp (spotsM C b.1 (posS S0) (i + 1)) [y97]), ())) (
              none))) := fun x => by cases x <;> rfl
      rw [pLt_t (by omega), ifB_t, ifB_and, bindO_s, ifB_and, bindO_s, r1, pGe_d, pLt_d]
      have hra : regA b reg i = if ((reg && decide ((i : Int) ≥ pMin b.2.2.1 b.2.1)) && decide ((i : Int) < pMax b.2.2.1 b.2.1)) = true then 1 else 0 := by
        unfold regA; rw [Bool.and_assoc]
      split
      · rename_i h
        rw [one 1 (by rw [hra, if_pos h]), bindO_s]
        simp only [e2]
      · rename_i h
        rw [one 0 (by rw [hra, if_neg h]), bindO_s]
        simp only [e2]
    · unfold zA9.l11
      simp only [pLen_d]
      rw [pLt_f (by omega), ifB_f]
end Go.AE.F
namespace Go.AE.F
open Go.AE
theorem fin_int {P : Int → Prop} {n : Nat} (h : ∀ i : Fin n, P ((i : Nat) : Int)) {x : Int} (h0 : 0 ≤ x) (h1 : x < n) : P x := by
  have := h ⟨x.toNat, by omega⟩
  simpa [Int.toNat_of_nonneg h0] using this
end Go.AE.F
namespace Go.AE.F
open Go.AE
def cellOk (c : CellT) : Prop := c.1.length ≤ 4 ∧ 0 ≤ c.2.1 ∧ c.2.1 ≤ 3 ∧ ∀ x ∈ c.1, ptG x = true
theorem cellG_ok {c : CellT} (h : cellG c = true) : cellOk c := by
  unfold cellG at h
  simp only [Bool.and_eq_true, decide_eq_true_eq, List.all_eq_true, List.mem_range] at h
  obtain ⟨⟨⟨h1, h2⟩, h3⟩, h4⟩ := h
  refine ⟨h1, h2, h3, fun x hx => ?_⟩
  obtain ⟨i, hi, e⟩ := List.mem_iff_getElem.1 hx
  have := h4 i hi
  rw [getD_lt hi, e] at this
  unfold okP at this
  simp only [Bool.and_eq_true] at this
  exact this.1.1
theorem flat_facts {g : GridT} (h : flatG g = true) : ∃ Rn C : Nat, g.1 = (Rn : Int) ∧ g.2.1 = (C : Int) ∧ 1 ≤ Rn ∧ Rn ≤ 24 ∧ 2 ≤ C ∧ C ≤ 80 ∧ g.2.2.1.length = Rn * C ∧ g.2.2.1.length ≤ 1920 ∧ (∀ c ∈ g.2.2.1, cellOk c) ∧ 0 ≤ g.2.2.2.1 ∧ g.2.2.2.1 ≤ g.1 - 1 ∧ 0 ≤ g.2.2.2.2.1 ∧ g.2.2.2.2.1 ≤ g.2.1 - 1 := by
  unfold flatG gridG at h
  simp only [Bool.and_eq_true] at h
  obtain ⟨⟨⟨⟨hh, ha⟩, _⟩, _⟩, _⟩ := h
  obtain ⟨b1, b2, b3, b4, b5, b6, b7, b8, b9, _⟩ := headG_iff.1 hh
  have hm := rc_small (a := g.1) (b := g.2.1) (by omega) (by omega) (by omega) (by omega)
  have eC : g.2.1 = ((g.2.1.toNat : Nat) : Int) := by omega
  have eR : g.1 = ((g.1.toNat : Nat) : Int) := by omega
  refine ⟨g.1.toNat, g.2.1.toNat, eR, eC, by omega, by omega, by omega, by omega, ?_, by omega, fun c hc => ?_, b6, b7, b8, b9⟩
  · have : ((g.1.toNat * g.2.1.toNat : Nat) : Int) = g.1 * g.2.1 := by push_cast; rw [← eC, ← eR]
    omega
  · obtain ⟨i, hi, e⟩ := List.mem_iff_getElem.1 hc
    rw [List.all_eq_true] at ha
    have := ha i (List.mem_range.2 hi)
    unfold nbrG at this
    rw [Bool.and_eq_true, cellD_lt hi, e] at this
    exact cellG_ok this.1
end Go.AE.F
