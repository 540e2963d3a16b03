/- Plain laws of those functions. -/
import Derived.Test.YtmgdbchplfmifaaDoorXSendAllP8
namespace Go.AE.F
open Go.AE
theorem newG_len (r c : Int) : (newG r c).2.2.1.length ≤ 2000 ∧ ∀ x ∈ (newG r c).2.2.1, x.1 = [] := by
  unfold newG
  split
  · rename_i h
    simp only [Bool.and_eq_true, decide_eq_true_eq] at h
    have := rc_small (a := r) (b := c) (by omega) (by omega) (by omega) (by omega)
    refine ⟨by simp only [List.length_replicate]; omega, fun x hx => ?_⟩
    rw [(List.mem_replicate.1 hx).2]
  · exact ⟨by simp, fun x hx => by cases hx⟩
theorem impl_GridNew_eq (N : Nat) (r c : Int) : zBD N r c = some (newG r c) := by
  unfold zBD newG zB8 zB9
  simp only [impl_within_eq, bindO_s, pNot_d, ifB_or]
  have e : (!(decide (1 ≤ r) && decide (r ≤ 24)) || !(decide (2 ≤ c) && decide (c ≤ 80))) = !(decide (1 ≤ r) && decide (r ≤ 24) && decide (2 ≤ c) && decide (c ≤ 80)) := by
    cases decide (1 ≤ r) <;> cases decide (r ≤ 24) <;> cases decide (2 ≤ c) <;> cases decide (c ≤ 80) <;> rfl
  rw [e]
  cases h : (decide (1 ≤ r) && decide (r ≤ 24) && decide (2 ≤ c) && decide (c ≤ 80)) with
  | false => rw [Bool.not_false, ifB_t]; rfl
  | true =>
    simp only [Bool.and_eq_true, decide_eq_true_eq] at h
    have := rc_small (a := r) (b := c) (by omega) (by omega) (by omega) (by omega)
    rw [Bool.not_true, ifB_f, pEq_t rfl, ifB_t, pMul_i (by omega) (by omega), pLe_t (by omega), ifB_t, pLe_t (by omega), ifB_t, if_pos rfl]
    rfl
theorem spec_GridNew_eq (N : Nat) (r c : Int) : zBB N r c = some (newG r c) := by
  unfold zBB newG zB2
  simp only [ifB_and, bindO_s, pGe_d, pLe_d, pNot_d]
  simp only [ge_iff_le]
  cases h : (decide (1 ≤ r) && decide (r ≤ 24) && decide (2 ≤ c) && decide (c ≤ 80)) with
  | false => rw [Bool.not_false, ifB_t]; rfl
  | true =>
    simp only [Bool.and_eq_true, decide_eq_true_eq] at h
    have := rc_small (a := r) (b := c) (by omega) (by omega) (by omega) (by omega)
    rw [Bool.not_true, ifB_f, pEq_t rfl, ifB_t, pMul_i (by omega) (by omega)]
    simp only [decide_eq_true (by omega : (0 : Int) ≤ r * c), decide_eq_true (by omega : r * c ≤ 68719476736), ifB_t]
    rfl
theorem sendAll_both (N : Nat) (hN : 2100 < N) (g : GridT) (hl : g.2.2.1.length ≤ 1048576) (hcg : ∀ x ∈ g.2.2.1, x.1.length ≤ 1048576 ∧ x.1.length + 20 < N) :
    zBA N g = some (sendG (newG g.1 g.2.1) g) ∧ zBE N g = some (sendG (newG g.1 g.2.1) g) := by
  obtain ⟨n1, n2⟩ := newG_len g.1 g.2.1
  obtain ⟨k1, k2⟩ := send_both N hN (newG g.1 g.2.1) g hl (by omega) hcg (fun x hx => by rw [n2 x hx]; simp; omega)
  unfold zBA zBE
  rw [impl_GridNew_eq, bindO_s, k1, bindO_s, spec_FlatRight_eq N g hN hl, bindO_s, pNot_d, spec_GridNew_eq]
  refine ⟨rfl, ?_⟩
  cases hf : flatG g with
  | false =>
    rw [Bool.not_false, ifB_t]
    unfold sendG
    rw [hf]; simp
  | true => rw [Bool.not_true, ifB_f, bindO_s, k2, bindO_s]
abbrev GridWf (g : GridT) : Prop := (IntKind.i64.min ≤ g.1 ∧ g.1 ≤ IntKind.i64.max) ∧ (IntKind.i64.min ≤ g.2.1 ∧ g.2.1 ≤ IntKind.i64.max) ∧ (g.2.2.1.length ≤ 9223372036854775807 ∧ ∀ c ∈ g.2.2.1, (c.1.length ≤ 9223372036854775807 ∧ ∀ a ∈ c.1, IntKind.i64.min ≤ a ∧ a ≤ IntKind.i64.max) ∧ (IntKind.i64.min ≤ c.2.1 ∧ c.2.1 ≤ IntKind.i64.max) ∧ True) ∧
    (IntKind.i64.min ≤ g.2.2.2.1 ∧ g.2.2.2.1 ≤ IntKind.i64.max) ∧ (IntKind.i64.min ≤ g.2.2.2.2.1 ∧ g.2.2.2.2.1 ≤ IntKind.i64.max) ∧ True ∧ (IntKind.i64.min ≤ g.2.2.2.2.2.2.1 ∧ g.2.2.2.2.2.2.1 ≤ IntKind.i64.max) ∧ True
theorem pure_FnExactSendAll (g : GridT) (h : GridWf g) : ∃ N, zAV N g = some true := by
  refine ⟨1048700, ?_⟩
  unfold zAV
  rw [szGrid_eq _ g 1048576 (by omega) (by omega) h.2.2.1.1 (fun x hx => (h.2.2.1.2 x hx).1.1) (by omega), bindO_s]
  by_cases hs : (1048576 : Int) - g.2.2.1.length - sumC g.2.2.1 < 0
  · rw [if_pos hs, pLt_t (by omega), ifB_t]
  rw [if_neg hs, pLt_f (by omega), ifB_f]
  have hx : ∀ x ∈ g.2.2.1, x.1.length ≤ 1048576 := fun x hx => by have := mem_sumC hx; omega
  have ho : gridOk 1048700 g := ⟨by omega, by omega, fun x h => by have := hx x h; omega⟩
  obtain ⟨c1, c2⟩ := sendAll_both 1048700 (by omega) g (by omega) (fun x h => by have := hx x h; omega)
  simp only [toGrid_eq _ g ho, c1, c2, eqGrid_self _ g ho, bindO_s, pSEq_self, pNot_d, Bool.not_true, ifB_f]
end Go.AE.F
