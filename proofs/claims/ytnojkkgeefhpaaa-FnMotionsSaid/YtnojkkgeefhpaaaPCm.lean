/- The exact law of the matching of candidates. -/
import Derived.Test.YtnojkkgeefhpaaaPComp
namespace Go.AE.F
open Go.AE

theorem matchG_len (l : List (List Int)) (p : List Int) : (matchG l p).length ≤ 400 := by
  unfold matchG
  cases ha : askG l p with
  | false => exact Nat.zero_le _
  | true =>
    rw [if_pos rfl]
    have hl : l.length ≤ 400 := by
      unfold askG at ha
      simp only [Bool.and_eq_true, decide_eq_true_eq] at ha
      exact ha.1.1.1
    have := idxG_len p l 0
    omega

theorem pNot_same {A : Type} [DecidableEq A] (a : A) : pNot (decide (a = a)) = false := by rw [decide_eq_true rfl]; rfl

theorem pure_FnExactCompMatch (l : List (List Int)) (h : l.length ≤ 9223372036854775807 ∧ ∀ x ∈ l, x.length ≤ 9223372036854775807 ∧ ∀ a ∈ x, IntKind.i64.min ≤ a ∧ a ≤ IntKind.i64.max) (p : List Int) (_h2 : p.length ≤ 9223372036854775807 ∧ ∀ a ∈ p, IntKind.i64.min ≤ a ∧ a ≤ IntKind.i64.max) : ∃ N, laws_FnExactCompMatch N l p = some true := by
  refine ⟨1048600, ?_⟩
  unfold laws_FnExactCompMatch
  rw [pLen_d]
  by_cases hp : p.length ≤ 1048576
  · rw [show pGt (p.length : Int) 1048576 = false from by rw [pGt_d]; exact decide_eq_false (by omega), ifB_f, szInt64SS_eq _ l 1048576 (by omega) (by omega) h.1 (fun x hx => (h.2 x hx).1) (by omega), bindO_s]
    by_cases hs : (1048576 : Int) - l.length - sumLen l < 0
    · rw [if_pos hs, pLt_t (by omega), ifB_t]
    · rw [if_neg hs, pLt_f (by omega), ifB_f]
      have hl : l.length ≤ 1048576 := by omega
      have hx : ∀ x ∈ l, x.length ≤ 1048576 := fun x hx => by have := mem_sum hx; omega
      have hx2 : ∀ x ∈ l, x.length ≤ 9223372036854775806 ∧ x.length < 1048600 := fun x h => by have := hx x h; omega
      have c1 : laws_toInt64SS 1048600 l = some l := toInt64SS_eq _ l (by omega) (fun x h => by have := hx x h; omega) (by omega) (fun x h => by have := hx x h; omega)
      have c2 : laws_toInt64S 1048600 p = some p := toInt64S_eq _ p (by omega) (by omega)
      have c3 : impl_CompMatch 1048600 l p = some (matchG l p) := impl_CompMatch_eq _ l p (by omega) (by omega) (by omega) (by omega) (fun x h => ⟨(hx2 x h).2, (hx2 x h).1⟩)
      have hg := matchG_len l p
      have c4 : laws_eqInt64S 1048600 (matchG l p) (matchG l p) = some (decide (matchG l p = matchG l p)) := eqInt64S_eq _ _ _ (by omega) (by omega)
      have c5 : laws_eqInt64S 1048600 p p = some (decide (p = p)) := eqInt64S_eq _ _ _ (by omega) (by omega)
      have c6 : laws_eqInt64SS 1048600 l l = some (decide (l = l)) := eqInt64SS_eq _ l l (by omega) (fun x h => (hx2 x h).1) (by omega) (fun x h => (hx2 x h).2)
      obtain ⟨l', c7⟩ := markInt64SS_eq 1048600 l 1 (by omega) (by omega) (by omega) (fun x h => (hx2 x h).2) (by omega) (by omega)
      have c8 : laws_markInt64S 1048600 p ((1 : Int) + sumLen l) = some ((1 : Int) + sumLen l + p.length, cnt (1 + sumLen l) p.length) := markInt64S_eq _ p _ (by omega) (by omega) (by omega)
      have c9 : laws_markInt64S 1048600 (matchG l p) 1 = some ((1 : Int) + (matchG l p).length, cnt 1 (matchG l p).length) := markInt64S_eq _ _ _ (by omega) (by omega) (by omega)
      have c10 : laws_heldInt64S 1048600 (cnt 1 (matchG l p).length) 1 = some ((1 : Int) + (matchG l p).length) := heldInt64S_eq _ _ _ (by omega) (by omega) (by omega)
      simp only [c1, c2, c3, c4, c5, c6, c7, c8, c9, c10, bindO_s, spec_CompMatch_eq 1048600 l p (by omega) hx2, pNot_same, ifB_f]
      have e : pNe (1 + ((matchG l p).length : Int)) (1 + ((matchG l p).length : Int)) = false := by rw [pNe_d, decide_eq_true rfl]; rfl
      have e2 : pLt (1 + ((matchG l p).length : Int)) 0 = false := pLt_f (by omega)
      have e3 : pNot (decide True) = false := by rw [decide_eq_true trivial]; rfl
      have e4 : pLt ((1 : Int) + sumLen l + p.length) 0 = false := pLt_f (by omega)
      simp only [e, e2, e3, e4, ifB_f, bindO_s]
  · rw [show pGt (p.length : Int) 1048576 = true from by rw [pGt_d]; exact decide_eq_true (by omega), ifB_t]

end Go.AE.F
