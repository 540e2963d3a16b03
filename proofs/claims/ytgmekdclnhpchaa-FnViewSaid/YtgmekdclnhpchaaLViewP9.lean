/- Plain laws of those functions. -/
import Derived.Test.YtgmekdclnhpchaaLViewP8
namespace Go.AE.F
open Go.AE
theorem sameCell_eq (N : Nat) (a b : CellT) (h : a.1.length ≤ 1048576) (hN : a.1.length < N) : zB1 N a b = some (decide (a = b)) := by
  unfold zB1
  rw [slices_Equal_eq N _ _ (by omega) hN]
  simp only [bindO_s, ifB_and, pEq_d]
  congr 1
  obtain ⟨a1, a2, _⟩ := a
  obtain ⟨b1, b2, _⟩ := b
  by_cases h1 : a1 = b1 <;> by_cases h2 : a2 = b2 <;> simp [h1, h2]
theorem sameCells_eq (N : Nat) (xs ys : List CellT) (hl : xs.length ≤ 2000) (hN : xs.length < N) (hc : ∀ c ∈ xs, c.1.length ≤ 1048576 ∧ c.1.length < N) : zBB N xs ys = some (decide (xs = ys)) := by
  unfold zBB zA0
  simp only [pLen_d]
  by_cases h : xs.length = ys.length
  · rw [pNe_f (by omega), ifB_f]
    have key : ∀ (m i f : Nat), xs.length - i = m → i ≤ xs.length → m < f → ∀ (k : Unit ⊕ (Bool × Unit) → Option Bool), loopP (zA0.l4 N) f (ys, xs, (xs.length : Int), (i : Int), ()) k = if xs.drop i = ys.drop i then k (.inl ()) else k (.inr (false, ())) := by
      intro m
      induction m with
      | zero =>
        intro i f hm hi hf k
        obtain ⟨f, rfl⟩ := succ_of hf
        rw [loopP_s]; unfold zA0.l4; simp only []
        rw [pLt_f (by omega), ifB_f, List.drop_eq_nil_of_le (by omega), List.drop_eq_nil_of_le (by omega), if_pos rfl]
      | succ m ih =>
        intro i f hm hi hf k
        obtain ⟨f, rfl⟩ := succ_of hf
        have hlt : i < xs.length := by omega
        have hlt2 : i < ys.length := by omega
        have e2 : pAdd .i64 (i : Int) 1 = ((i + 1 : Nat) : Int) := pAdd_i (by omega) (by omega)
        have st : ∀ kn, zA0.l4 N (ys, xs, (xs.length : Int), (i : Int), ()) kn k = if xs[i] = ys[i] then kn (ys, xs, (xs.length : Int), ((i + 1 : Nat) : Int), ()) else k (.inr (false, ())) := fun kn => by
          unfold zA0.l4; simp only []
          rw [pLt_t (by omega), ifB_t, idx_lt hlt, bindO_s, idx_lt hlt2, bindO_s, sameCell_eq N _ _ (hc _ (List.getElem_mem hlt)).1 (hc _ (List.getElem_mem hlt)).2, bindO_s, pNot_d, e2]
          by_cases q : xs[i] = ys[i]
          · rw [decide_eq_true q, if_pos q, Bool.not_true, ifB_f]
          · rw [decide_eq_false q, if_neg q, Bool.not_false, ifB_t]
        rw [loopP_s, st, drop_c hlt, drop_c hlt2]
        by_cases q : xs[i] = ys[i]
        · rw [if_pos q, ih (i + 1) f (by omega) (by omega) (by omega) k]
          by_cases z : xs.drop (i + 1) = ys.drop (i + 1)
          · rw [if_pos z, if_pos (by rw [q, z])]
          · rw [if_neg z, if_neg (fun w => z (List.cons.inj w).2)]
        · rw [if_neg q, if_neg (fun z => q (List.cons.inj z).1)]
    refine Eq.trans (congrArg (fun z => bindO z _) (key _ 0 N rfl (by omega) (by omega) _)) ?_
    rw [List.drop_zero, List.drop_zero]
    by_cases q : xs = ys
    · rw [if_pos q, decide_eq_true q]; rfl
    · rw [if_neg q, decide_eq_false q]; rfl
  · rw [pNe_t (by omega), ifB_t, decide_eq_false (fun q => h (by rw [q]))]; rfl
def newG (r c : Int) : GridT := if (decide (1 ≤ r) && decide (r ≤ 24) && decide (2 ≤ c) && decide (c ≤ 80)) = true then (r, c, List.replicate (r * c).toNat ([], 0, ()), 0, 0, false, 0, ()) else (0, 0, [], 0, 0, false, 0, ())
theorem impl_GridNew_eq (N : Nat) (r c : Int) : zBM N r c = some (newG r c) := by
  unfold zBM newG zB9 zBA
  simp only [impl_within_eq, bindO_s, pNot_d, ifB_or]
  have e : (!(decide (1 ≤ r) && decide (r ≤ 24)) || !(decide (2 ≤ c) && decide (c ≤ 80))) = !(decide (1 ≤ r) && decide (r ≤ 24) && decide (2 ≤ c) && decide (c ≤ 80)) := by
    cases decide (1 ≤ r) <;> cases decide (r ≤ 24) <;> cases decide (2 ≤ c) <;> cases decide (c ≤ 80) <;> rfl
  rw [e]
  cases h : (decide (1 ≤ r) && decide (r ≤ 24) && decide (2 ≤ c) && decide (c ≤ 80)) with
  | false => rw [Bool.not_false, ifB_t]; rfl
  | true =>
    simp only [Bool.and_eq_true, decide_eq_true_eq] at h
    have := rc_small (a := r) (b := c) (by omega) (by omega) (by omega) (by omega)
    rw [Bool.not_true, ifB_f, pEq_t rfl, ifB_t, pMul_i (by omega) (by omega), pLe_t (by omega), ifB_t, pLe_t (by omega), ifB_t, if_pos rfl]
    rfl
theorem spec_GridNew_eq (N : Nat) (r c : Int) : zBN N r c = some (newG r c) := by
  unfold zBN newG zB4
  simp only [ifB_and, bindO_s, pGe_d, pLe_d, pNot_d]
  simp only [ge_iff_le]
  cases h : (decide (1 ≤ r) && decide (r ≤ 24) && decide (2 ≤ c) && decide (c ≤ 80)) with
  | false => rw [Bool.not_false, ifB_t]; rfl
  | true =>
    simp only [Bool.and_eq_true, decide_eq_true_eq] at h
    have := rc_small (a := r) (b := c) (by omega) (by omega) (by omega) (by omega)
    rw [Bool.not_true, ifB_f, pEq_t rfl, ifB_t, pMul_i (by omega) (by omega)]
    simp only [decide_eq_true (by omega : (0 : Int) ≤ r * c), decide_eq_true (by omega : r * c ≤ 68719476736), ifB_t]
    rfl
end Go.AE.F
