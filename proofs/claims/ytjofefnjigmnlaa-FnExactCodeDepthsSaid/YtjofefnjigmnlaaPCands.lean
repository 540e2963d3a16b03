/- CandsRight: the program and the reference tell the same. -/
import Derived.Test.YtjofefnjigmnlaaPClass
import Derived.Test.YtjofefnjigmnlaaPLaw
namespace Go.AE.F
open Go.AE

/-- a candidate is right -/
def candG (x : List Int) : Bool := decide (1 ≤ x.length) && decide (x.length ≤ 40) && x.all fun a => decide (classG a = 2)
def candsG (l : List (List Int)) : Bool := decide (l.length ≤ 40) && l.all candG

/-! ### the program -/
theorem impl_c1_c1_eq (N : Nat) (a : Int) : impl_CandsRight_c1_c1 N a = some (!decide (classG a = 2)) := by
  unfold impl_CandsRight_c1_c1
  rw [impl_ClassOf_eq, bindO_s, pNe_d]

theorem contains_c1_c1 (N : Nat) (l : List Int) (hl : l.length < N) (hb : l.length ≤ 9223372036854775806) : slices_ContainsFunc_Sint64_int64__impl_CandsRight_c1_c1 N l = some (l.any fun a => !decide (classG a = 2)) := by
  unfold slices_ContainsFunc_Sint64_int64__impl_CandsRight_c1_c1 slices_IndexFunc_Sint64_int64__impl_CandsRight_c1_c1
  have := find_loop (R := Int) (P := impl_CandsRight_c1_c1 N) (p := fun a => !decide (classG a = 2)) (xs := l) hb (step := slices_IndexFunc_Sint64_int64__impl_CandsRight_c1_c1.l2 N) (fun i kn kx => rfl) (fun x _ => impl_c1_c1_eq N x)
    (onSum (fun d => some (-1)) (fun d => let x43 := d.1; some x43)) _ 0 N rfl (by omega) (by omega)
  rw [List.drop_zero] at this
  rw [pLen_d, show (0 : Int) = ((0 : Nat) : Int) from rfl, this]
  have h := find_any (p := fun a => !decide (classG a = 2)) (xs := l)
  cases hf : l.findIdx? (fun a => !decide (classG a = 2)) with
  | none =>
    rw [hf] at h
    show some (pGe (-1) 0) = _
    rw [pGe_f (by omega)]
    congr 1
    cases ha : l.any (fun a => !decide (classG a = 2)) with
    | false => rfl
    | true => have := h.2 ha; simp at this
  | some j =>
    rw [hf] at h
    show some (pGe (((0 + j : Nat) : Int)) 0) = _
    rw [pGe_t (by omega)]
    congr 1
    exact (h.1 (by simp)).symm

theorem not_any {A : Type} {p : A → Bool} : ∀ {l : List A}, (!l.any fun a => !p a) = l.all p
  | [] => rfl
  | a :: l => by rw [List.any_cons, List.all_cons, ← not_any]; cases p a <;> simp

theorem impl_c1_eq (N : Nat) (l : List Int) (hl : l.length < N) (hb : l.length ≤ 9223372036854775806) : impl_CandsRight_c1 N l = some (!candG l) := by
  unfold impl_CandsRight_c1 impl_size_Sint64
  rw [contains_c1_c1 N l hl hb, bindO_s, impl_within_eq, bindO_s, bindO_s, ifB_or, bindO_s, pNot_d]
  congr 1
  unfold candG
  rw [← not_any (p := fun a => decide (classG a = 2)), pLen_d]
  rw [show decide ((1 : Int) ≤ (l.length : Int)) = decide (1 ≤ l.length) from by congr 1; simp; omega, show decide ((l.length : Int) ≤ (40 : Int)) = decide (l.length ≤ 40) from by congr 1; simp; omega]
  cases decide (1 ≤ l.length) <;> cases decide (l.length ≤ 40) <;> simp

theorem impl_CandsRight_eq (N : Nat) (l : List (List Int)) (hl : l.length < N) (hb : l.length ≤ 9223372036854775806) (hx : ∀ x ∈ l, x.length < N ∧ x.length ≤ 9223372036854775806) : impl_CandsRight N l = some (candsG l) := by
  unfold impl_CandsRight slices_ContainsFunc_S_Sint64__Sint64__impl_CandsRight_c1 slices_IndexFunc_S_Sint64__Sint64__impl_CandsRight_c1
  have := find_loop (R := Int) (P := impl_CandsRight_c1 N) (p := fun a => !candG a) (xs := l) hb (step := slices_IndexFunc_S_Sint64__Sint64__impl_CandsRight_c1.l2 N) (fun i kn kx => rfl) (fun x h => impl_c1_eq N x (hx x h).1 (hx x h).2)
    (onSum (fun d => some (-1)) (fun d => let x43 := d.1; some x43)) _ 0 N rfl (by omega) (by omega)
  rw [List.drop_zero] at this
  rw [pLen_d, show (0 : Int) = ((0 : Nat) : Int) from rfl, this]
  have h := find_any (p := fun a => !candG a) (xs := l)
  unfold candsG
  rw [← not_any (p := candG)]
  have e40 : pLe (l.length : Int) 40 = decide (l.length ≤ 40) := by rw [pLe_d]; congr 1; simp; omega
  rw [e40]
  cases hf : l.findIdx? (fun a => !candG a) with
  | none =>
    rw [hf] at h
    have ha : l.any (fun a => !candG a) = false := by
      cases ha : l.any (fun a => !candG a) with
      | false => rfl
      | true => have := h.2 ha; simp at this
    rw [ha]
    cases decide (l.length ≤ 40) <;> rfl
  | some j =>
    rw [hf] at h
    have ha : l.any (fun a => !candG a) = true := h.1 (by simp)
    rw [ha]
    show (bindO (ifB (decide (l.length ≤ 40)) (bindO (bindO (some ((0 + j : Nat) : Int)) fun y1 => some (pGe y1 0)) fun y3 => some (pNot y3)) (some false)) fun y2 => some y2) = _
    rw [bindO_s, pGe_t (by omega)]
    cases decide (l.length ≤ 40) <;> rfl

/-! ### the reference -/
theorem spec_in_loop {N : Nat} {R : Type} (l : List (List Int)) (i : Nat) (hi : i < l.length) (hb : l[i].length ≤ 40) (k : (List (List Int) × Int × Unit) ⊕ (Bool × Unit) → Option R) :
    ∀ (m j n : Nat), l[i].length - j = m → j ≤ l[i].length → m < n →
    loopP (spec_CandsRight.l9 N) n (l, (i : Int), (j : Int), ()) k = if (l[i].drop j).all (fun a => decide (classG a = 2)) = true then k (.inl (l, (i : Int), ())) else k (.inr (false, ())) := by
  intro m
  induction m with
  | zero =>
    intro j n hm hj hn
    obtain ⟨n, rfl⟩ := succ_of hn
    simp only [loopP_s, spec_CandsRight.l9, pLen_d]
    rw [idx_lt hi, bindO_s, pLt_f (by omega), ifB_f, List.drop_eq_nil_of_le (by omega)]
    rfl
  | succ m ih =>
    intro j n hm hj hn
    obtain ⟨n, rfl⟩ := succ_of hn
    have hlt : j < l[i].length := by omega
    simp only [loopP_s, spec_CandsRight.l9, pLen_d]
    rw [idx_lt hi, bindO_s, pLt_t (by omega), ifB_t, bindO_s, idx_lt hlt, bindO_s, spec_ClassOf_eq, bindO_s, drop_c hlt, List.all_cons]
    by_cases hc : classG l[i][j] = 2
    · rw [pNe_f hc, ifB_f, pAdd_i (by omega) (by omega), decide_eq_true hc, Bool.true_and]
      exact ih (j + 1) n (by omega) (by omega) (by omega)
    · rw [pNe_t hc, ifB_t, decide_eq_false hc, Bool.false_and]
      simp

theorem spec_out_loop {N : Nat} {R : Type} (l : List (List Int)) (hl : l.length ≤ 40) (hN : 41 < N) (k : Unit ⊕ (Bool × Unit) → Option R) :
    ∀ (m i n : Nat), l.length - i = m → i ≤ l.length → m < n →
    loopP (spec_CandsRight.l4 N) n (l, (i : Int), ()) k = if (l.drop i).all candG = true then k (.inl ()) else k (.inr (false, ())) := by
  intro m
  induction m with
  | zero =>
    intro i n hm hi hn
    obtain ⟨n, rfl⟩ := succ_of hn
    simp only [loopP_s, spec_CandsRight.l4, pLen_d]
    rw [pLt_f (by omega), ifB_f, List.drop_eq_nil_of_le (by omega)]
    rfl
  | succ m ih =>
    intro i n hm hi hn
    obtain ⟨n, rfl⟩ := succ_of hn
    have hlt : i < l.length := by omega
    simp only [loopP_s, spec_CandsRight.l4, pLen_d]
    rw [pLt_t (by omega), ifB_t, idx_lt hlt, bindO_s, bindO_s, ifB_or, bindO_s, drop_c hlt, List.all_cons]
    by_cases h1 : l[i].length < 1
    · rw [pLt_t (by omega), Bool.true_or, ifB_t]
      have : candG l[i] = false := by unfold candG; rw [decide_eq_false (by omega)]; rfl
      rw [this]; simp
    · by_cases h2 : 40 < l[i].length
      · rw [pGt_t (by omega), Bool.or_true, ifB_t]
        have : candG l[i] = false := by unfold candG; rw [decide_eq_false (p := l[i].length ≤ 40) (by omega)]; simp
        rw [this]; simp
      · rw [pLt_f (by omega), pGt_f (by omega), Bool.or_self, ifB_f]
        have hin := spec_in_loop (N := N) l i hlt (by omega) (onSum (fun d => let x442 := d.1; let x443 := d.2.1; loopP (spec_CandsRight.l4 N) n (x442, pAdd .i64 x443 1, ()) k) (fun d => let x444 := d.1; k (.inr (x444, ())))) _ 0 N rfl (by omega) (by omega)
        rw [List.drop_zero] at hin
        refine Eq.trans hin ?_
        have hc : candG l[i] = l[i].all fun a => decide (classG a = 2) := by unfold candG; rw [decide_eq_true (by omega), decide_eq_true (by omega)]; rfl
        rw [hc]
        cases ha : l[i].all fun a => decide (classG a = 2) with
        | false => simp [onSum]
        | true =>
          simp only [if_true, onSum, Bool.true_and]
          rw [pAdd_i (by omega) (by omega)]
          exact ih (i + 1) n (by omega) (by omega) (by omega)

theorem spec_CandsRight_eq (N : Nat) (l : List (List Int)) (hN : 41 < N) : spec_CandsRight N l = some (candsG l) := by
  unfold spec_CandsRight candsG
  rw [pLen_d]
  by_cases h : l.length ≤ 40
  · rw [pGt_f (by omega), ifB_f, decide_eq_true h, Bool.true_and]
    have := spec_out_loop (N := N) l h hN (onSum (fun d => some true) (fun d => let x445 := d.1; some x445)) _ 0 N rfl (by omega) (by omega)
    rw [List.drop_zero] at this
    refine Eq.trans this ?_
    cases l.all candG <;> rfl
  · rw [pGt_t (by omega), ifB_t, decide_eq_false h]; rfl

theorem pure_FnExactCandsRight (l : List (List Int)) (h : l.length ≤ 9223372036854775807 ∧ ∀ x ∈ l, x.length ≤ 9223372036854775807 ∧ ∀ a ∈ x, IntKind.i64.min ≤ a ∧ a ≤ IntKind.i64.max) : ∃ N, laws_FnExactCandsRight N l = some true := by
  refine ⟨1048600, ?_⟩
  unfold laws_FnExactCandsRight
  rw [szInt64SS_eq _ l 1048576 (by omega) (by omega) h.1 (fun x hx => (h.2 x hx).1) (by omega), bindO_s]
  by_cases hs : (1048576 : Int) - l.length - sumLen l < 0
  · rw [if_pos hs, pLt_t (by omega), ifB_t]
  · rw [if_neg hs, pLt_f (by omega), ifB_f]
    have hl : l.length ≤ 1048576 := by omega
    have hx : ∀ x ∈ l, x.length ≤ 1048576 := fun x hx => by have := mem_sum hx; omega
    rw [toInt64SS_eq _ l (by omega) (fun x h => by have := hx x h; omega) (by omega) (fun x h => by have := hx x h; omega), bindO_s, spec_CandsRight_eq _ _ (by omega), bindO_s, bindO_s,
      impl_CandsRight_eq _ l (by omega) (by omega) (fun x h => by have := hx x h; omega), bindO_s]
    have e : pNot (pBeq (candsG l) (candsG l)) = false := by cases candsG l <;> rfl
    rw [e, ifB_f, bindO_s, eqInt64SS_eq _ l l (by omega) (fun x h => by have := hx x h; omega) (by omega) (fun x h => by have := hx x h; omega), bindO_s, decide_eq_true rfl]
    rfl

end Go.AE.F
