/- Plain laws of those functions. -/
import Derived.Test.YtgmekdclnhpchaaLViewP3
namespace Go.AE.F
open Go.AE
def cellD (g : GridT) (i : Nat) : CellT := g.2.2.1.getD i ([], 0, ())
def nbrG (g : GridT) (i : Nat) : Bool :=
  cellG (cellD g i) && (!wideC (cellD g i) || (!decide (((i + 1 : Nat) : Int) % g.2.1 = 0) && decide ((cellD g (i + 1)).1 = []) && decide ((cellD g (i + 1)).2.1 = (cellD g i).2.1)))
def headG (g : GridT) : Bool :=
  decide (1 ≤ g.1) && decide (g.1 ≤ 24) && decide (2 ≤ g.2.1) && decide (g.2.1 ≤ 80) && decide ((g.2.2.1.length : Int) = g.1 * g.2.1) && decide (0 ≤ g.2.2.2.1) && decide (g.2.2.2.1 ≤ g.1 - 1) && decide (0 ≤ g.2.2.2.2.1) && decide (g.2.2.2.2.1 ≤ g.2.1 - 1) &&
    (!g.2.2.2.2.2.1 || decide (g.2.2.2.2.1 = g.2.1 - 1)) && decide (0 ≤ g.2.2.2.2.2.2.1) && decide (g.2.2.2.2.2.2.1 ≤ 3)
def gridG (g : GridT) : Bool := headG g && (List.range g.2.2.1.length).all (nbrG g)
theorem headG_iff {g : GridT} : headG g = true ↔ 1 ≤ g.1 ∧ g.1 ≤ 24 ∧ 2 ≤ g.2.1 ∧ g.2.1 ≤ 80 ∧ (g.2.2.1.length : Int) = g.1 * g.2.1 ∧ 0 ≤ g.2.2.2.1 ∧ g.2.2.2.1 ≤ g.1 - 1 ∧ 0 ≤ g.2.2.2.2.1 ∧ g.2.2.2.2.1 ≤ g.2.1 - 1 ∧
    (g.2.2.2.2.2.1 = true → g.2.2.2.2.1 = g.2.1 - 1) ∧ 0 ≤ g.2.2.2.2.2.2.1 ∧ g.2.2.2.2.2.2.1 ≤ 3 := by
  unfold headG
  simp only [Bool.and_eq_true, decide_eq_true_eq, Bool.or_eq_true, Bool.not_eq_true', and_assoc]
  constructor
  · rintro ⟨h1, h2, h3, h4, h5, h6, h7, h8, h9, h10, h11⟩
    exact ⟨h1, h2, h3, h4, h5, h6, h7, h8, h9, fun q => h10.elim (fun z => by rw [z] at q; cases q) id, h11⟩
  · rintro ⟨h1, h2, h3, h4, h5, h6, h7, h8, h9, h10, h11⟩
    refine ⟨h1, h2, h3, h4, h5, h6, h7, h8, h9, ?_, h11⟩
    cases hb : g.2.2.2.2.2.1 with
    | false => exact .inl rfl
    | true => exact .inr (h10 hb)
theorem cellD_lt {g : GridT} {i : Nat} (h : i < g.2.2.1.length) : cellD g i = g.2.2.1[i] := by unfold cellD; simp [List.getD, h]
theorem pMul_i {a b : Int} (h1 : -9223372036854775808 ≤ a * b) (h2 : a * b ≤ 9223372036854775807) : pMul .i64 a b = a * b := wrap_i64 h1 h2
theorem pRem_n {a b : Int} (h : 0 ≤ a) : pRem a b = a % b := by
  unfold pRem; exact Int.tmod_eq_emod_of_nonneg h
theorem rc_small {a b : Int} (h1 : 0 ≤ a) (h2 : a ≤ 24) (h3 : 0 ≤ b) (h4 : b ≤ 80) : 0 ≤ a * b ∧ a * b ≤ 1920 :=
  ⟨Int.mul_nonneg h1 h3, by have := Int.mul_le_mul h2 h4 h3 (by omega); omega⟩
theorem row_end {R C : Int} {i n : Nat} (hC : 2 ≤ C) (hn : (n : Int) = R * C) (h : ¬ ((i + 1 : Nat) : Int) % C = 0) (hi : i < n) : i + 1 < n := by
  rcases Nat.lt_or_ge (i + 1) n with q | q
  · exact q
  · exfalso
    have : i + 1 = n := by omega
    rw [this, hn] at h
    exact h (Int.mul_emod_left R C)
theorem impl_grid_loop (N : Nat) (g : GridT) (hC : 2 ≤ g.2.1 ∧ g.2.1 ≤ 80) (hn : (g.2.2.1.length : Int) = g.1 * g.2.1) (hl : g.2.2.1.length ≤ 2000) (hc : ∀ x ∈ g.2.2.1, x.1.length ≤ 1048576 ∧ x.1.length + 20 < N) {R : Type} (k : Unit ⊕ (Bool × Unit) → Option R) (f : Nat) (hf : g.2.2.1.length < f) :
    loopP (zAA.l4 N) f (g.2.2.1, (g.2.2.1.length : Int), 0, g, ()) k = if (List.range g.2.2.1.length).all (nbrG g) = true then k (.inl ()) else k (.inr (false, ())) := by
  have := scan_loop (step := zAA.l4 N) (fun i => (g.2.2.1, (g.2.2.1.length : Int), (i : Int), g, ())) (nbrG g) g.2.2.1.length k (.inl ()) (.inr (false, ())) (fun i kn hi => by
      unfold zAA.l4 nbrG
      simp only []
      have hx : idx g.2.2.1 (i : Int) = some (cellD g i) := by rw [idx_lt hi, cellD_lt hi]
      have hm : cellD g i ∈ g.2.2.1 := by rw [cellD_lt hi]; exact List.getElem_mem hi
      have e2 : pAdd .i64 (i : Int) 1 = ((i + 1 : Nat) : Int) := pAdd_i (by omega) (by omega)
      rw [pLt_t (by omega), ifB_t, hx, bindO_s, impl_cellRight_eq N _ (hc _ hm).1 (hc _ hm).2, bindO_s, pNot_d, e2]
      cases hc1 : cellG (cellD g i) with
      | false => simp [ifB_t, bindO_s, onSum]
      | true =>
        simp only [Bool.not_true, ifB_f, impl_isWide_eq N _ (by have := (hc _ hm).2; omega), bindO_s, Bool.true_and, pNot_d]
        cases hw : wideC (cellD g i) with
        | false => simp [ifB_t, bindO_s, onSum, e2]
        | true =>
          simp only [Bool.not_true, ifB_f, Bool.false_or]
          rw [pEq_f (by omega), ifB_f, pRem_n (by omega), pEq_d]
          by_cases h1 : ((i + 1 : Nat) : Int) % g.2.1 = 0
          · rw [decide_eq_true h1, ifB_t, bindO_s]; simp [onSum]
          · have hi1 := row_end hC.1 hn h1 hi
            have hx1 : idx g.2.2.1 (((i + 1 : Nat) : Int)) = some (cellD g (i + 1)) := by rw [idx_lt hi1, cellD_lt hi1]
            rw [decide_eq_false h1, ifB_f, hx1, bindO_s, isEmpty_eq, bindO_s]
            cases he : decide ((cellD g (i + 1)).1 = []) with
            | false => simp [ifB_t, bindO_s, onSum]
            | true =>
              simp only [Bool.not_true, ifB_f, bindO_s, pNe_d]
              by_cases h2 : (cellD g (i + 1)).2.1 = (cellD g i).2.1
              · rw [decide_eq_true h2, Bool.not_true, ifB_f, bindO_s]; simp [onSum, e2]
              · rw [decide_eq_false h2, Bool.not_false, ifB_t, bindO_s]; simp [onSum]) (fun kn => by
      unfold zAA.l4
      simp only []
      rw [pLt_f (by omega), ifB_f]) _ 0 f rfl (by omega) hf
  refine Eq.trans this ?_
  rw [List.drop_zero]
theorem impl_GridRight_eq (N : Nat) (g : GridT) (hN : 2100 < N) (hl : g.2.2.1.length ≤ 1048576) (hc : ∀ x ∈ g.2.2.1, x.1.length ≤ 1048576 ∧ x.1.length + 20 < N) : zAA N g = some (gridG g) := by
  unfold zAA gridG
  have hr : zB9 N g.1 = some (decide (1 ≤ g.1) && decide (g.1 ≤ 24)) := by unfold zB9; rw [impl_within_eq, bindO_s]
  have hcl : zBA N g.2.1 = some (decide (2 ≤ g.2.1) && decide (g.2.1 ≤ 80)) := by unfold zBA; rw [impl_within_eq, bindO_s]
  have no : ∀ {b : Bool}, (headG g = true → b = true) → b = false → (headG g && (List.range g.2.2.1.length).all (nbrG g)) = false := fun {b} h1 h2 => by
    cases hq : headG g with
    | false => rfl
    | true => rw [h1 hq] at h2; cases h2
  rw [hr, bindO_s, pNot_d]
  cases k1 : (decide (1 ≤ g.1) && decide (g.1 ≤ 24)) with
  | false =>
    rw [Bool.not_false, ifB_t, no (fun q => by have := headG_iff.1 q; simp [this.1, this.2.1]) k1]
  | true =>
  rw [Bool.not_true, ifB_f, hcl, bindO_s, pNot_d]
  cases k2 : (decide (2 ≤ g.2.1) && decide (g.2.1 ≤ 80)) with
  | false =>
    rw [Bool.not_false, ifB_t, no (fun q => by have := headG_iff.1 q; simp [this.2.2.1, this.2.2.2.1]) k2]
  | true =>
  simp only [Bool.and_eq_true, decide_eq_true_eq] at k1 k2
  have hm := rc_small (a := g.1) (b := g.2.1) (by omega) (by omega) (by omega) (by omega)
  rw [Bool.not_true, ifB_f, show zAK N g.2.2.1 = some (pLen g.2.2.1) from rfl, bindO_s, pLen_d, pMul_i (by omega) (by omega), pNe_d]
  cases k3 : decide ((g.2.2.1.length : Int) = g.1 * g.2.1) with
  | false =>
    rw [Bool.not_false, ifB_t, no (fun q => by have := headG_iff.1 q; simp [this.2.2.2.2.1]) k3]
  | true =>
  have k3' := of_decide_eq_true k3
  rw [Bool.not_true, ifB_f, impl_within_eq, bindO_s, pNot_d, pSub_i (by omega) (by omega)]
  cases k4 : (decide (0 ≤ g.2.2.2.1) && decide (g.2.2.2.1 ≤ g.1 - 1)) with
  | false =>
    rw [Bool.not_false, ifB_t, no (fun q => by obtain ⟨_, _, _, _, _, b6, b7, _⟩ := headG_iff.1 q; simp [b6, b7]) k4]
  | true =>
  rw [Bool.not_true, ifB_f, impl_within_eq, bindO_s, pNot_d, pSub_i (by omega) (by omega)]
  cases k5 : (decide (0 ≤ g.2.2.2.2.1) && decide (g.2.2.2.2.1 ≤ g.2.1 - 1)) with
  | false =>
    rw [Bool.not_false, ifB_t, no (fun q => by obtain ⟨_, _, _, _, _, _, _, b8, b9, _⟩ := headG_iff.1 q; simp [b8, b9]) k5]
  | true =>
  rw [Bool.not_true, ifB_f]
  simp only [Bool.and_eq_true, decide_eq_true_eq] at k4 k5
  have rest : (bindO (zAI N g.2.2.2.2.2.2.1 0 3) fun y44 => ifB (pNot y44) (some false) (loopP (zAA.l4 N) N (g.2.2.1, (g.2.2.1.length : Int), 0, g, ()) (onSum (fun d => some true) (fun d => let x60 := d.1; some x60)))) =
      some ((decide (0 ≤ g.2.2.2.2.2.2.1) && decide (g.2.2.2.2.2.2.1 ≤ 3)) && (List.range g.2.2.1.length).all (nbrG g)) := by
    rw [impl_within_eq, bindO_s, pNot_d]
    cases k7 : (decide (0 ≤ g.2.2.2.2.2.2.1) && decide (g.2.2.2.2.2.2.1 ≤ 3)) with
    | false => rfl
    | true =>
      rw [Bool.not_true, ifB_f, impl_grid_loop N g k2 k3' (by omega) hc _ N (by omega), Bool.true_and]
      split
      · rename_i h; rw [h]; rfl
      · rename_i h; simp only [Bool.not_eq_true] at h; rw [h]; rfl
  cases k6 : g.2.2.2.2.2.1 with
  | true =>
    rw [ifB_t, pNe_d]
    cases k8 : decide (g.2.2.2.2.1 = g.2.1 - 1) with
    | false =>
      rw [Bool.not_false, ifB_t, no (fun q => by obtain ⟨_, _, _, _, _, _, _, _, _, b10, _⟩ := headG_iff.1 q; simp [b10 k6]) k8]
    | true =>
      rw [Bool.not_true, ifB_f]
      refine Eq.trans rest ?_
      congr 2
      cases hq : headG g with
      | true => obtain ⟨_, _, _, _, _, _, _, _, _, _, b11, b12⟩ := headG_iff.1 hq; simp [b11, b12]
      | false =>
        rw [← Bool.not_eq_true]
        intro z
        simp only [Bool.and_eq_true, decide_eq_true_eq] at z
        have : headG g = true := headG_iff.2 ⟨k1.1, k1.2, k2.1, k2.2, k3', k4.1, k4.2, k5.1, k5.2, fun _ => of_decide_eq_true k8, z.1, z.2⟩
        rw [this] at hq; cases hq
  | false =>
    rw [ifB_f]
    refine Eq.trans rest ?_
    congr 2
    cases hq : headG g with
    | true => obtain ⟨_, _, _, _, _, _, _, _, _, _, b11, b12⟩ := headG_iff.1 hq; simp [b11, b12]
    | false =>
      rw [← Bool.not_eq_true]
      intro z
      simp only [Bool.and_eq_true, decide_eq_true_eq] at z
      have : headG g = true := headG_iff.2 ⟨k1.1, k1.2, k2.1, k2.2, k3', k4.1, k4.2, k5.1, k5.2, (fun q => by rw [k6] at q; cases q), z.1, z.2⟩
      rw [this] at hq; cases hq
end Go.AE.F
namespace Go.AE.F
open Go.AE
def halfG (g : GridT) (i : Nat) : Bool := decide (0 < (i : Int) % g.2.1) && wideC (cellD g (i - 1))
def flG (g : GridT) (i : Nat) (ov : Bool) : Option Bool :=
  if halfG g i = true then some ov else if (cellD g i).1 = [] then (if (cellD g i).2.1 = 0 then some true else none) else if ov = true then none else some ov
def flatI (g : GridT) : Nat → Nat → Bool → Bool
  | 0, _, _ => true
  | m + 1, i, ov => match flG g i (if (i : Int) % g.2.1 = 0 then false else ov) with
    | none => false
    | some o => flatI g m (i + 1) o
def flatR (g : GridT) : Nat → Nat → Bool → Bool
  | 0, _, _ => true
  | m + 1, i, ov => match flG g i ov with
    | none => false
    | some o => flatR g m (i + 1) o
def rowsF (g : GridT) (C : Nat) : Nat → Nat → Bool
  | 0, _ => true
  | m + 1, r => flatR g C (r * C) false && rowsF g C m (r + 1)
theorem mod_row {r C c : Nat} (h : c < C) : ((r * C + c : Nat) : Int) % (C : Int) = (c : Int) := by
  rw [← Int.natCast_emod, Nat.add_comm, Nat.add_mul_mod_self_right, Nat.mod_eq_of_lt h]
theorem flatI_row (g : GridT) (C : Nat) (hC : g.2.1 = (C : Int)) (r rest : Nat) : ∀ (m c : Nat) (ov : Bool), c + m = C → 0 < c → flatI g (m + rest) (r * C + c) ov = (flatR g m (r * C + c) ov && flatI g rest ((r + 1) * C) true) := by
  have nxt : ∀ ov, flatI g rest ((r + 1) * C) ov = flatI g rest ((r + 1) * C) true := by
    intro ov
    cases rest with
    | zero => rfl
    | succ n =>
      have : (((r + 1) * C : Nat) : Int) % g.2.1 = 0 := by rw [hC, ← Int.natCast_emod, Nat.mul_mod_left]; rfl
      simp only [flatI, this, if_true]
  intro m
  induction m with
  | zero =>
    intro c ov h1 h2
    have : r * C + c = (r + 1) * C := by rw [Nat.succ_mul]; omega
    rw [this, Nat.zero_add, nxt]
    rfl
  | succ m ih =>
    intro c ov h1 h2
    have hm : ((r * C + c : Nat) : Int) % g.2.1 = (c : Int) := by rw [hC]; exact mod_row (by omega)
    rw [show m + 1 + rest = (m + rest) + 1 by omega]
    simp only [flatI, flatR, hm]
    rw [if_neg (by omega)]
    cases flG g (r * C + c) ov with
    | none => rfl
    | some o => exact ih (c + 1) o (by omega) (by omega)
theorem flatI_rows (g : GridT) (C : Nat) (hC : g.2.1 = (C : Int)) (h0 : 0 < C) : ∀ (m r : Nat) (ov : Bool), flatI g (m * C) (r * C) ov = rowsF g C m r := by
  intro m
  induction m with
  | zero => intro r ov; rw [Nat.zero_mul]; rfl
  | succ m ih =>
    intro r ov
    obtain ⟨c, rfl⟩ : ∃ c, C = c + 1 := ⟨C - 1, by omega⟩
    have hm : ((r * (c + 1) : Nat) : Int) % g.2.1 = 0 := by rw [hC, ← Int.natCast_emod, Nat.mul_mod_left]; rfl
    have e : (m + 1) * (c + 1) = (c + m * (c + 1)) + 1 := by rw [Nat.succ_mul]; omega
    rw [e]
    simp only [flatI, hm, if_true, rowsF, flatR]
    cases h : flG g (r * (c + 1)) false with
    | none => rfl
    | some o =>
      simp only []
      have := flatI_row g (c + 1) hC r (m * (c + 1)) c 1 o (by omega) (by omega)
      rw [this, ih (r + 1) true]
def flatG (g : GridT) : Bool := gridG g && !g.2.2.2.2.2.1 && decide (g.2.2.2.2.2.2.1 = 0) && flatI g g.2.2.1.length 0 false
theorem half_i (N : Nat) (hN : 10 < N) (g : GridT) (hC : 2 ≤ g.2.1) (i : Nat) (hi : i < g.2.2.1.length) (hl : g.2.2.1.length ≤ 2000) : zAM N g (i : Int) = some (halfG g i) := by
  unfold zAM halfG
  rw [pEq_f (by omega), ifB_f, pRem_n (by omega), pGt_d]
  by_cases h : (i : Int) % g.2.1 > 0
  · have h1 : 1 ≤ i := by
      rcases Nat.eq_zero_or_pos i with q | q
      · subst q; simp at h
      · exact q
    rw [decide_eq_true h, ifB_t, pSub_i (by omega) (by omega), show (i : Int) - 1 = ((i - 1 : Nat) : Int) by omega, idx_lt (by omega : i - 1 < g.2.2.1.length), bindO_s, impl_isWide_eq N _ hN, bindO_s, bindO_s, ← cellD_lt (by omega), Bool.true_and]
  · rw [decide_eq_false h, ifB_f, bindO_s, Bool.false_and]
theorem impl_flat_step (N : Nat) (hN : 10 < N) (g : GridT) (hC : 2 ≤ g.2.1 ∧ g.2.1 ≤ 80) (hl : g.2.2.1.length ≤ 2000) (i : Nat) (hlt : i < g.2.2.1.length) (ov : Bool) {R : Type} (kn : Bool × Int × Int × GridT × Unit → Option R) (kx : Unit ⊕ (Bool × Unit) → Option R) :
    zAC.l5 N (ov, (g.2.2.1.length : Int), (i : Int), g, ()) kn kx = match flG g i (if (i : Int) % g.2.1 = 0 then false else ov) with
      | none => kx (.inr (false, ()))
      | some o => kn (o, (g.2.2.1.length : Int), ((i + 1 : Nat) : Int), g, ()) := by
  have hx : idx g.2.2.1 (i : Int) = some (cellD g i) := by rw [idx_lt hlt, cellD_lt hlt]
  have e2 : pAdd .i64 (i : Int) 1 = ((i + 1 : Nat) : Int) := pAdd_i (by omega) (by omega)
  unfold zAC.l5; simp only []
  rw [pLt_t (by omega), ifB_t, pEq_f (by omega : ¬ g.2.1 = 0), ifB_f, pRem_n (by omega), pEq_d, hx, half_i N hN g hC.1 i hlt hl]
  simp only [bindO_s, isEmpty_eq, pNot_d, pNe_d, flG]
  by_cases h0 : (i : Int) % g.2.1 = 0
  · rw [decide_eq_true h0, ifB_t]
    simp only [h0, if_true]
    cases hh : halfG g i with
    | true => rw [ifB_t, bindO_s]; simp only [onSum, e2, if_true]
    | false =>
      rw [ifB_f]
      by_cases he : (cellD g i).1 = []
      · simp only [he, decide_true, Bool.not_true, ifB_f, Bool.false_eq_true, if_false, if_true]
        by_cases ha : (cellD g i).2.1 = 0
        · simp only [ha, decide_true, Bool.not_true, ifB_f, bindO_s, onSum, e2, if_true]
        · simp only [ha, decide_false, Bool.not_false, ifB_t, bindO_s, onSum, if_false]
      · simp only [he, decide_false, Bool.not_false, ifB_t, Bool.false_eq_true, if_false, bindO_s, onSum, e2]
  · rw [decide_eq_false h0, ifB_f]
    simp only [h0, if_false]
    cases hh : halfG g i with
    | true => rw [ifB_t, bindO_s]; simp only [onSum, e2, if_true]
    | false =>
      rw [ifB_f]
      by_cases he : (cellD g i).1 = []
      · simp only [he, decide_true, Bool.not_true, ifB_f, Bool.false_eq_true, if_false, if_true]
        by_cases ha : (cellD g i).2.1 = 0
        · simp only [ha, decide_true, Bool.not_true, ifB_f, bindO_s, onSum, e2, if_true]
        · simp only [ha, decide_false, Bool.not_false, ifB_t, bindO_s, onSum, if_false]
      · simp only [he, decide_false, Bool.not_false, ifB_t, Bool.false_eq_true, if_false]
        cases ov with
        | true => simp only [ifB_t, bindO_s, onSum, if_true]
        | false => simp only [ifB_f, bindO_s, onSum, e2, if_false, Bool.false_eq_true]
theorem impl_flat_loop (N : Nat) (hN : 10 < N) (g : GridT) (hC : 2 ≤ g.2.1 ∧ g.2.1 ≤ 80) (hl : g.2.2.1.length ≤ 2000) {R : Type} (k : Unit ⊕ (Bool × Unit) → Option R) : ∀ (m i f : Nat) (ov : Bool), g.2.2.1.length - i = m → i ≤ g.2.2.1.length → m < f →
    loopP (zAC.l5 N) f (ov, (g.2.2.1.length : Int), (i : Int), g, ()) k = if flatI g m i ov = true then k (.inl ()) else k (.inr (false, ())) := by
  intro m
  induction m with
  | zero =>
    intro i f ov hm hi hf
    obtain ⟨f, rfl⟩ := succ_of hf
    rw [loopP_s]; unfold zAC.l5; simp only []
    rw [pLt_f (by omega), ifB_f]; rfl
  | succ m ih =>
    intro i f ov hm hi hf
    obtain ⟨f, rfl⟩ := succ_of hf
    rw [loopP_s, impl_flat_step N hN g hC hl i (by omega), flatI]
    cases flG g i (if (i : Int) % g.2.1 = 0 then false else ov) with
    | none => simp
    | some o => exact ih (i + 1) f o (by omega) (by omega) (by omega)
theorem impl_FlatRight_eq (N : Nat) (g : GridT) (hN : 2100 < N) (hl : g.2.2.1.length ≤ 1048576) (hc : ∀ x ∈ g.2.2.1, x.1.length ≤ 1048576 ∧ x.1.length + 20 < N) : zAC N g = some (flatG g) := by
  unfold zAC flatG
  rw [impl_GridRight_eq N g hN hl hc]
  simp only [bindO_s, ifB_or, pNot_d, pNe_d]
  cases hg : gridG g with
  | false => simp [ifB_t]
  | true =>
    have hh : headG g = true := by unfold gridG at hg; rw [Bool.and_eq_true] at hg; exact hg.1
    obtain ⟨b1, b2, b3, b4, b5, _⟩ := headG_iff.1 hh
    have hm := rc_small (a := g.1) (b := g.2.1) (by omega) (by omega) (by omega) (by omega)
    simp only [Bool.not_true, Bool.false_or, Bool.true_and]
    cases h1 : g.2.2.2.2.2.1 with
    | true => simp [ifB_t]
    | false =>
      by_cases h2 : g.2.2.2.2.2.2.1 = 0
      · simp only [h2, decide_true, Bool.not_true, Bool.or_self, ifB_f, Bool.not_false, Bool.true_and]
        rw [show zAK N g.2.2.1 = some (pLen g.2.2.1) from rfl, bindO_s, pLen_d]
        refine Eq.trans (impl_flat_loop N (by omega) g ⟨b3, b4⟩ (by omega) _ _ 0 N false rfl (by omega) (by omega)) ?_
        rw [Nat.sub_zero]
        split
        · rename_i h; rw [h]; rfl
        · rename_i h; simp only [Bool.not_eq_true] at h; rw [h]; rfl
      · simp [h2, ifB_t]
end Go.AE.F
