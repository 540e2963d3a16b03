/- Right code, and the ops that are reached: the exact laws. -/
import Derived.Test.YtjofefnjigmnlaaPWalk
namespace Go.AE.F
open Go.AE

theorem right_both (N : Nat) (l : List OpT) (hN : 2000 < N) : ∃ b, spec_CodeRight N l = some b ∧ impl_CodeRight N l = some b := by
  obtain ⟨h1, h2⟩ := spec_right_ops N l hN
  unfold impl_CodeRight
  by_cases h : l.length ≤ 1500 ∧ opsG l = true
  · obtain ⟨o, o', b, hs, hi, _⟩ := depths_ok N hN l h.1 h.2
    exact ⟨b, by rw [h1 h, hs, bindO_s], by rw [hi, bindO_s]⟩
  · exact ⟨false, h2 h, by rw [depths_no N hN l h, bindO_s]⟩

theorem depths_both (N : Nat) (l : List OpT) (hN : 2000 < N) : ∃ o, spec_CodeDepths N l = some o ∧ impl_CodeDepths N l = some o ∧ o.length ≤ 1500 := by
  obtain ⟨h1, h2⟩ := spec_right_ops N l hN
  unfold spec_CodeDepths impl_CodeDepths
  by_cases h : l.length ≤ 1500 ∧ opsG l = true
  · obtain ⟨o, o', b, hs, hi, hb⟩ := depths_ok N hN l h.1 h.2
    rw [h1 h, hs, bindO_s, bindO_s, hi, bindO_s]
    simp only []
    cases b with
    | false => exact ⟨[], rfl, rfl, by simp⟩
    | true =>
      obtain ⟨e, he⟩ := hb rfl
      subst e
      simp only [show pNot true = false from rfl, ifB_f, bindO_s, pLen_d]
      rw [pLe_t (by omega), ifB_t, pLe_t (by omega), ifB_t, pLe_t (by omega), ifB_t]
      exact ⟨_, rfl, rfl, by unfold sub; simp; omega⟩
  · rw [h2 h, depths_no N hN l h, bindO_s, bindO_s]
    exact ⟨[], rfl, rfl, by simp⟩

/-! ### the helpers of the laws -/
theorem szOpS_eq (N : Nat) (l : List OpT) (a : Int) (h0 : 0 ≤ a) (ha : a ≤ 9223372036854775807) (hl : l.length ≤ 9223372036854775807) :
    laws_szOpS N l a = some (if a - l.length < 0 then -1 else a - l.length) := by
  unfold laws_szOpS
  rw [pLen_d, pSub_i (by omega) (by omega)]
  by_cases h : a - (l.length : Int) < 0
  · rw [pLt_t h, ifB_t, if_pos h]
  · rw [pLt_f (by omega), ifB_f, if_neg h]

theorem toOpS_eq (N : Nat) (l : List OpT) (hl : l.length ≤ 68719476736) (hN : l.length < N) : laws_toOpS N l = some l := by
  unfold laws_toOpS
  rw [pLen_d, pEq_t rfl, ifB_t, pLe_t (by omega), ifB_t, pLe_t (by omega), ifB_t]
  have := copy_loop (R := List OpT) (P := laws_toOp N) (f := id) (xs := l) (by omega) (step := laws_toOpS.l3 N) (fun i out kn kx => by simp only [laws_toOpS.l3, bindO_s, pLen_d]) (fun _ _ => rfl) (fun d => let x55 := d.1; some x55) _ 0 N (pRepl (l.length : Int) (0, (0, ()))) rfl (by omega) (by omega) (repl_len _ _) (by simp)
  refine Eq.trans this ?_
  simp

theorem eqOpS_self (N : Nat) (l : List OpT) (hl : l.length ≤ 9223372036854775806) (hN : l.length < N) : laws_eqOpS N l l = some true := by
  unfold laws_eqOpS
  simp only [pLen_d]
  rw [pNe_f rfl, ifB_f]
  obtain ⟨h1, _⟩ := eq_loop (R := Bool) (P := fun x y => bindO (laws_eqOp N x y) fun b => some (pNot b)) (xs := l) (ys := l) hl rfl (step := laws_eqOpS.l4 N) (fun i kn kx => by
      simp only [laws_eqOpS.l4, pLen_d]
      congr 1; congr 1; funext x; congr 1; funext y
      cases laws_eqOp N x y <;> rfl)
    (fun x _ y _ => by
      unfold laws_eqOp
      by_cases e1 : x.1 = y.1
      · by_cases e2 : x.2.1 = y.2.1
        · refine ⟨false, by rw [pNe_f e1, ifB_f, pNe_f e2, ifB_f]; rfl, ?_⟩
          have : x = y := by
            obtain ⟨a, b, c⟩ := x
            obtain ⟨a', b', c'⟩ := y
            simp only at e1 e2
            subst e1 e2
            rfl
          simp [this]
        · refine ⟨true, by rw [pNe_f e1, ifB_f, pNe_t e2, ifB_t]; rfl, ?_⟩
          simp only [true_iff]
          intro q; exact e2 (by rw [q])
      · refine ⟨true, by rw [pNe_t e1, ifB_t]; rfl, ?_⟩
        simp only [true_iff]
        intro q; exact e1 (by rw [q])) (onSum (fun _ => some true) (fun d => let x55 := d.1; some x55)) _ 0 N rfl (by omega) (by omega)
  exact h1 rfl

theorem pBeq_self (b : Bool) : pBeq b b = true := by cases b <;> rfl

theorem pure_FnExactCodeRight (l : List OpT) (h : l.length ≤ 9223372036854775807 ∧ ∀ a ∈ l, (IntKind.i64.min ≤ a.1 ∧ a.1 ≤ IntKind.i64.max) ∧ (IntKind.i64.min ≤ a.2.1 ∧ a.2.1 ≤ IntKind.i64.max) ∧ True) : ∃ N, laws_FnExactCodeRight N l = some true := by
  refine ⟨1048600, ?_⟩
  unfold laws_FnExactCodeRight
  rw [szOpS_eq _ l 1048576 (by omega) (by omega) h.1, bindO_s]
  by_cases hs : (1048576 : Int) - l.length < 0
  · rw [if_pos hs, pLt_t (by omega), ifB_t]
  · rw [if_neg hs, pLt_f (by omega), ifB_f]
    have hl : l.length ≤ 1048576 := by omega
    obtain ⟨b, c2, c3⟩ := right_both 1048600 l (by omega)
    have c1 : laws_toOpS 1048600 l = some l := toOpS_eq _ l (by omega) (by omega)
    have c5 : laws_eqOpS 1048600 l l = some true := eqOpS_self _ l (by omega) (by omega)
    have e1 : pNot true = false := rfl
    simp only [c1, c2, c3, c5, bindO_s, pBeq_self, ifB_f, e1]

/-! ### how many are reached -/
def usedG (l : List Int) : Nat := (l.filter fun d => decide (0 ≤ d)).length
theorem usedG_le (l : List Int) : usedG l ≤ l.length := List.length_filter_le _ _

theorem spec_used {N : Nat} {R : Type} (l : List Int) (hl : l.length ≤ 1500) (k : Int × Unit → Option R) : ∀ (m i n a : Nat), l.length - i = m → i ≤ l.length → m < n → a ≤ i →
    loopP (spec_OpsUsed.l4 N) n ((a : Int), (i : Int), l, ()) k = k (((a + usedG (l.drop i) : Nat) : Int), ()) := by
  intro m
  induction m with
  | zero =>
    intro i n a hm hi hn ha
    obtain ⟨n, rfl⟩ := succ_of hn
    rw [loopP_s]; unfold spec_OpsUsed.l4; simp only [pLen_d]
    rw [pLt_f (by omega), ifB_f, List.drop_eq_nil_of_le (by omega)]
    rfl
  | succ m ih =>
    intro i n a hm hi hn ha
    obtain ⟨n, rfl⟩ := succ_of hn
    have hlt : i < l.length := by omega
    rw [loopP_s]; unfold spec_OpsUsed.l4; simp only [pLen_d]
    rw [pLt_t (by omega), ifB_t, idx_lt hlt, bindO_s, bindO_s, drop_c hlt]
    unfold usedG
    rw [List.filter_cons]
    by_cases h : 0 ≤ l[i]
    · rw [pGe_t h, ifB_t, bindO_s, decide_eq_true h, if_pos rfl]
      simp only []
      rw [pAdd_i (by omega) (by omega), pAdd_i (by omega) (by omega)]
      refine (ih (i + 1) n (a + 1) (by omega) (by omega) (by omega) (by omega)).trans ?_
      unfold usedG
      rw [List.length_cons]
      congr 2; omega
    · rw [pGe_f (by omega), ifB_f, bindO_s, decide_eq_false h]
      simp only []
      rw [pAdd_i (by omega) (by omega)]
      exact ih (i + 1) n a (by omega) (by omega) (by omega) (by omega)

theorem impl_used {N : Nat} {R : Type} (l : List Int) (hl : l.length ≤ 1500) (k : Int × Unit → Option R) : ∀ (m i n a : Nat), l.length - i = m → i ≤ l.length → m < n → a ≤ i →
    loopP (impl_OpsUsed.l3 N) n ((a : Int), l, (l.length : Int), (i : Int), ()) k = k (((a + usedG (l.drop i) : Nat) : Int), ()) := by
  intro m
  induction m with
  | zero =>
    intro i n a hm hi hn ha
    obtain ⟨n, rfl⟩ := succ_of hn
    rw [loopP_s]; unfold impl_OpsUsed.l3; simp only []
    rw [pLt_f (by omega), ifB_f, List.drop_eq_nil_of_le (by omega)]
    rfl
  | succ m ih =>
    intro i n a hm hi hn ha
    obtain ⟨n, rfl⟩ := succ_of hn
    have hlt : i < l.length := by omega
    rw [loopP_s]; unfold impl_OpsUsed.l3; simp only []
    rw [pLt_t (by omega), ifB_t, idx_lt hlt, bindO_s, drop_c hlt]
    unfold usedG
    rw [List.filter_cons]
    by_cases h : 0 ≤ l[i]
    · rw [pGe_t h, ifB_t, bindO_s, decide_eq_true h, if_pos rfl]
      simp only []
      rw [pAdd_i (by omega) (by omega), pAdd_i (by omega) (by omega)]
      refine (ih (i + 1) n (a + 1) (by omega) (by omega) (by omega) (by omega)).trans ?_
      unfold usedG
      rw [List.length_cons]
      congr 2; omega
    · rw [pGe_f (by omega), ifB_f, bindO_s, decide_eq_false h]
      simp only []
      rw [pAdd_i (by omega) (by omega)]
      exact ih (i + 1) n a (by omega) (by omega) (by omega) (by omega)

theorem used_both (N : Nat) (l : List OpT) (hN : 2000 < N) : ∃ v, spec_OpsUsed N l = some v ∧ impl_OpsUsed N l = some v := by
  obtain ⟨o, h1, h2, h3⟩ := depths_both N l hN
  refine ⟨((0 + usedG (o.drop 0) : Nat) : Int), ?_, ?_⟩
  · unfold spec_OpsUsed
    rw [h1, bindO_s]
    exact spec_used o h3 _ _ 0 N 0 rfl (by omega) (by omega) (by omega)
  · unfold impl_OpsUsed
    rw [h2, bindO_s, pLen_d]
    exact impl_used o h3 _ _ 0 N 0 rfl (by omega) (by omega) (by omega)

theorem pure_FnExactOpsUsed (l : List OpT) (h : l.length ≤ 9223372036854775807 ∧ ∀ a ∈ l, (IntKind.i64.min ≤ a.1 ∧ a.1 ≤ IntKind.i64.max) ∧ (IntKind.i64.min ≤ a.2.1 ∧ a.2.1 ≤ IntKind.i64.max) ∧ True) : ∃ N, laws_FnExactOpsUsed N l = some true := by
  refine ⟨1048600, ?_⟩
  unfold laws_FnExactOpsUsed
  rw [szOpS_eq _ l 1048576 (by omega) (by omega) h.1, bindO_s]
  by_cases hs : (1048576 : Int) - l.length < 0
  · rw [if_pos hs, pLt_t (by omega), ifB_t]
  · rw [if_neg hs, pLt_f (by omega), ifB_f]
    have hl : l.length ≤ 1048576 := by omega
    obtain ⟨v, c2, c3⟩ := used_both 1048600 l (by omega)
    have c1 : laws_toOpS 1048600 l = some l := toOpS_eq _ l (by omega) (by omega)
    have c5 : laws_eqOpS 1048600 l l = some true := eqOpS_self _ l (by omega) (by omega)
    have e1 : pNot true = false := rfl
    have e2 : pNe v v = false := pNe_f rfl
    simp only [c1, c2, c3, c5, bindO_s, ifB_f, e1, e2]

end Go.AE.F
