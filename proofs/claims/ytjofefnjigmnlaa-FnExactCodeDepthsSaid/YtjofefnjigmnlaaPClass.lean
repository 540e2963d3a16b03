/- The classes of points: the program and the reference tell the same. -/
import Derived.Test.YtjofefnjigmnlaaPL
import Derived.Test.YtjofefnjigmnlaaF1
namespace Go.AE.F
open Go.AE

/-- is it a point? -/
def ptG (a : Int) : Bool := decide (0 ≤ a) && decide (a ≤ 1114111) && !(decide (55296 ≤ a) && decide (a ≤ 57343))
/-- a point's class -/
def classG (a : Int) : Int :=
  if ptG a = true then (if a = 32 ∨ a = 9 ∨ a = 10 then 1 else if (97 ≤ a ∧ a ≤ 122) ∨ (65 ≤ a ∧ a ≤ 90) ∨ (48 ≤ a ∧ a ≤ 57) ∨ a = 95 ∨ 128 ≤ a then 2 else 3) else 0

theorem spec_l01Point_eq (N : Nat) (a : Int) : spec_l01Point N a = some (ptG a) := by
  unfold spec_l01Point ptG
  simp only [ifB_or, ifB_and, bindO_s, pNot_d, pGe_d, pLe_d]

theorem impl_within_eq (N : Nat) (a b c : Int) : impl_within N a b c = some (decide (b ≤ a) && decide (a ≤ c)) := by
  unfold impl_within
  simp only [ifB_and, bindO_s, pLe_d]

theorem impl_isPoint_eq (N : Nat) (a : Int) : impl_isPoint N a = some (ptG a) := by
  unfold impl_isPoint ptG
  simp only [impl_within_eq, ifB_and, bindO_s, pNot_d]

theorem if_b {A : Type} {b : Bool} {p : Prop} [Decidable p] (h : b = true ↔ p) (x y : A) : (if b = true then x else y) = if p then x else y := by
  by_cases hp : p
  · rw [if_pos hp, if_pos (h.2 hp)]
  · rw [if_neg hp, if_neg (fun q => hp (h.1 q))]

theorem spec_ClassOf_eq (N : Nat) (a : Int) : spec_ClassOf N a = some (classG a) := by
  unfold spec_ClassOf classG
  simp only [spec_l01Point_eq, ifB_or, ifB_and, ifB_some, bindO_s, pNot_d, pGe_d, pLe_d, pEq_d]
  congr 1
  cases hp : ptG a with
  | false => rfl
  | true =>
    simp only [Bool.not_true, Bool.false_eq_true, if_false, if_true]
    rw [if_b (p := a = 32 ∨ a = 9 ∨ a = 10) (by simp [or_assoc])]
    congr 1
    rw [if_b (p := (97 ≤ a ∧ a ≤ 122) ∨ (65 ≤ a ∧ a ≤ 90) ∨ (48 ≤ a ∧ a ≤ 57) ∨ a = 95 ∨ 128 ≤ a) (by simp [or_assoc])]

theorem impl_ClassOf_eq (N : Nat) (a : Int) : impl_ClassOf N a = some (classG a) := by
  unfold impl_ClassOf classG
  simp only [impl_isPoint_eq, impl_within_eq, ifB_or, ifB_and, ifB_some, bindO_s, pNot_d, pGe_d, pLe_d, pEq_d]
  congr 1
  cases hp : ptG a with
  | false => rfl
  | true =>
    simp only [Bool.not_true, Bool.false_eq_true, if_false, if_true]
    rw [if_b (p := a = 32 ∨ a = 9 ∨ a = 10) (by simp [or_assoc])]
    congr 1
    rw [if_b (p := (97 ≤ a ∧ a ≤ 122) ∨ (65 ≤ a ∧ a ≤ 90) ∨ (48 ≤ a ∧ a ≤ 57) ∨ a = 95 ∨ 128 ≤ a) (by simp; omega)]

end Go.AE.F
