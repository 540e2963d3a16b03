/- Plain laws of those functions. -/
import Derived.Test.YthiefncabaphpaaXMachineStepsP3
namespace Go.AE.F
open Go.AE
theorem start_inv (n : Nat) : DInv n ((List.replicate (n + 1) (-1 : Int)).set 0 0, [0]) ∧ JInv n ((List.replicate (n + 1) (-1 : Int)).set 0 0, [0]) ∧ meas ((List.replicate (n + 1) (-1 : Int)).set 0 0, [0]) ≤ n + 2 := by
  refine ⟨⟨by simp, ?_, ?_⟩, ?_, ?_⟩
  · intro v hv
    rcases List.mem_or_eq_of_mem_set hv with h | h
    · have := (List.mem_replicate.1 h).2
      omega
    · omega
  · intro k hk
    simp only [List.mem_singleton] at hk
    subst hk
    exact ⟨by omega, by omega, 0, by simp, by omega⟩
  · intro v hv h0
    exfalso
    have hv' : ((List.replicate (n + 1) (-1 : Int)).set 0 0)[n]? = some v := hv
    have hm := List.mem_of_getElem? hv'
    rcases List.mem_or_eq_of_mem_set hm with h | h
    · have := (List.mem_replicate.1 h).2
      omega
    · omega
  · unfold meas
    have := List.count_le_length (a := (-1 : Int)) (l := (List.replicate (n + 1) (-1 : Int)).set 0 0)
    simp only [List.length_set, List.length_replicate] at this
    simp only [List.length_singleton]
    omega
theorem spec_fill {N : Nat} {R : Type} (ops : List OpT) (L : Nat) (hL : L ≤ 1500) (k : List OpT × Int × List Int × Unit → Option R) : ∀ (m i n : Nat), L + 1 - i = m → i ≤ L + 1 → m < n →
    loopP (spec_l13Depths.l4 N) n (ops, (L : Int), (i : Int), List.replicate i (-1), ()) k = k (ops, (L : Int), List.replicate (L + 1) (-1), ()) := by
  intro m
  induction m with
  | zero =>
    intro i n hm hi hn
    obtain ⟨n, rfl⟩ := succ_of hn
    rw [loopP_s]; unfold spec_l13Depths.l4; simp only []
    rw [pLe_f (by omega), ifB_f, show i = L + 1 by omega]
  | succ m ih =>
    intro i n hm hi hn
    obtain ⟨n, rfl⟩ := succ_of hn
    rw [loopP_s]; unfold spec_l13Depths.l4; simp only []
    rw [pLe_t (by omega), ifB_t, pFit_t (by simp; omega), ifB_t, pAdd_i (by omega) (by omega)]
    have e : pApp (List.replicate i (-1 : Int)) [-1] = List.replicate (i + 1) (-1) := by
      unfold pApp
      rw [List.replicate_succ']
    rw [e]
    exact ih (i + 1) n (by omega) (by omega) (by omega)
theorem depths_ok (N : Nat) (hN : 2000 < N) (l : List OpT) (hl : l.length ≤ 1500) (hop : opsG l = true) :
    ∃ o o' b, spec_l13Depths N l = some (o', b) ∧ impl_depths N l = some (o, b) ∧ (b = true → o = o' ∧ o.length = l.length + 1) := by
  obtain ⟨h1, h2, h3⟩ := start_inv l.length
  obtain ⟨o, o', b, hs, hi, hb⟩ := walk_eq (N := N) (by omega) l hl hop _ N N _ _ rfl (by omega) (by omega) (by omega) h1 h2
  refine ⟨o, o', b, ?_, ?_, hb⟩
  · unfold spec_l13Depths
    have := spec_fill (N := N) (R := List Int × Bool) l l.length hl (fun d =>
    let x153 := d.1;
    let x154 := d.2.1;
    let x155 := d.2.2.1;
    bindO (idx x155 0) fun y156 =>
    bindO (idx x155 0) fun y157 =>
    loopP (spec_l13Depths.l9 N) N (x153, x154, (pSet x155 0 0), [0], ()) specEnd) _ 0 N rfl (by omega) (by omega)
    refine Eq.trans this ?_
    simp only []
    have h0 : idx (List.replicate (l.length + 1) (-1 : Int)) ((0 : Nat) : Int) = some (-1) := by rw [idx_lt (by simp)]; simp
    rw [show ((0 : Nat) : Int) = 0 from rfl] at h0
    rw [h0, bindO_s, bindO_s]
    exact hs
  · unfold impl_depths impl_size_Simpl_Op
    rw [bindO_s, pLen_d, pGt_f (by omega), ifB_f, impl_ops N l (by omega) (by omega), bindO_s, bindO_s, hop, Bool.not_true, ifB_f, pAdd_i (by omega) (by omega),
      show (l.length : Int) + 1 = ((l.length + 1 : Nat) : Int) from rfl, repeat_eq N (-1) (l.length + 1) (by omega) (by omega) (by omega), bindO_s]
    have h0 : idx (List.replicate (l.length + 1) (-1 : Int)) ((0 : Nat) : Int) = some (-1) := by rw [idx_lt (by simp)]; simp
    rw [show ((0 : Nat) : Int) = 0 from rfl] at h0
    rw [h0, bindO_s, bindO_s]
    exact hi
theorem depths_no (N : Nat) (hN : 2000 < N) (l : List OpT) (h : ¬ (l.length ≤ 1500 ∧ opsG l = true)) : impl_depths N l = some ([], false) := by
  unfold impl_depths impl_size_Simpl_Op
  rw [bindO_s, pLen_d]
  by_cases hl : l.length ≤ 1500
  · have hop : opsG l = false := by
      cases ho : opsG l with
      | false => rfl
      | true => exact absurd ⟨hl, ho⟩ h
    rw [pGt_f (by omega), ifB_f, impl_ops N l (by omega) (by omega), bindO_s, bindO_s, hop, Bool.not_false, ifB_t]
  · rw [pGt_t (by omega), ifB_t, bindO_s, ifB_t]
theorem all_loop' {N : Nat} {R : Type} (l : List OpT) (hl : l.length ≤ 1500) (k : (List OpT × Unit) ⊕ (Bool × Unit) → Option R) : ∀ (m i n : Nat), l.length - i = m → i ≤ l.length → m < n →
    loopP (spec_CodeRight.l4 N) n (l, (i : Int), ()) k = if ((l.drop i).all fun o => opG o l.length) = true then k (.inl (l, ())) else k (.inr (false, ())) := by
  intro m
  induction m with
  | zero =>
    intro i n hm hi hn
    obtain ⟨n, rfl⟩ := succ_of hn
    rw [loopP_s]; unfold spec_CodeRight.l4; simp only [pLen_d]
    rw [pLt_f (by omega), ifB_f, List.drop_eq_nil_of_le (by omega)]
    rfl
  | succ m ih =>
    intro i n hm hi hn
    obtain ⟨n, rfl⟩ := succ_of hn
    have hlt : i < l.length := by omega
    rw [loopP_s]; unfold spec_CodeRight.l4; simp only [pLen_d]
    rw [pLt_t (by omega), ifB_t, idx_lt hlt, bindO_s, spec_op, bindO_s, drop_c hlt, List.all_cons]
    cases hp : opG l[i] l.length with
    | false => simp [pNot_d, ifB_t]
    | true =>
      rw [pNot_d, Bool.not_true, ifB_f, pAdd_i (by omega) (by omega), Bool.true_and]
      exact ih (i + 1) n (by omega) (by omega) (by omega)
theorem spec_right_ops (N : Nat) (l : List OpT) (hN : 2000 < N) : (l.length ≤ 1500 ∧ opsG l = true → spec_CodeRight N l = bindO (spec_l13Depths N l) fun y => some y.2) ∧ (¬ (l.length ≤ 1500 ∧ opsG l = true) → spec_CodeRight N l = some false) := by
  unfold spec_CodeRight
  rw [pLen_d]
  by_cases hl : l.length ≤ 1500
  · rw [pGt_f (by omega), ifB_f]
    have := all_loop' (N := N) l hl (onSum (fun d =>
        let x17 := d.1;
        bindO (spec_l13Depths N x17) fun y18 =>
        some y18.2) (
      fun d =>
      let x19 := d.1;
      some x19)) _ 0 N rfl (by omega) (by omega)
    rw [List.drop_zero] at this
    constructor
    · intro h
      refine Eq.trans this ?_
      have h2 : (l.all fun o => opG o l.length) = true := h.2
      rw [if_pos h2]; rfl
    · intro h
      refine Eq.trans this ?_
      have h2 : ¬ (l.all fun o => opG o l.length) = true := fun q => h ⟨hl, q⟩
      rw [if_neg h2]; rfl
  · rw [pGt_t (by omega), ifB_t]
    exact ⟨fun h => absurd h.1 hl, fun _ => rfl⟩
end Go.AE.F
namespace Go.AE.F
open Go.AE
theorem right_both (N : Nat) (l : List OpT) (hN : 2000 < N) : ∃ b, spec_CodeRight N l = some b ∧ impl_CodeRight N l = some b := by
  obtain ⟨h1, h2⟩ := spec_right_ops N l hN
  unfold impl_CodeRight
  by_cases h : l.length ≤ 1500 ∧ opsG l = true
  · obtain ⟨o, o', b, hs, hi, _⟩ := depths_ok N hN l h.1 h.2
    exact ⟨b, by rw [h1 h, hs, bindO_s], by rw [hi, bindO_s]⟩
  · exact ⟨false, h2 h, by rw [depths_no N hN l h, bindO_s]⟩
theorem szOpS_eq (N : Nat) (l : List OpT) (a : Int) (h0 : 0 ≤ a) (ha : a ≤ 9223372036854775807) (hl : l.length ≤ 9223372036854775807) :
    laws_szOpS N l a = some (if a - l.length < 0 then -1 else a - l.length) := by
  unfold laws_szOpS
  rw [pLen_d, pSub_i (by omega) (by omega)]
  by_cases h : a - (l.length : Int) < 0
  · rw [pLt_t h, ifB_t, if_pos h]
  · rw [pLt_f (by omega), ifB_f, if_neg h]
theorem toOpS_eq (N : Nat) (l : List OpT) (hl : l.length ≤ 68719476736) (hN : l.length < N) : laws_toOpS N l = some l := by
  unfold laws_toOpS
  rw [pLen_d, pEq_t rfl, ifB_t, pLe_t (by omega), ifB_t, pLe_t (by omega), ifB_t]
  have := copy_loop (R := List OpT) (P := laws_toOp N) (f := id) (xs := l) (by omega) (step := laws_toOpS.l3 N) (fun i out kn kx => by simp only [laws_toOpS.l3, bindO_s, pLen_d]) (fun _ _ => rfl) (fun d => let x55 := d.1; some x55) _ 0 N (pRepl (l.length : Int) (0, (0, ()))) rfl (by omega) (by omega) (repl_len _ _) (by simp)
  refine Eq.trans this ?_
  simp
theorem eqOpS_self (N : Nat) (l : List OpT) (hl : l.length ≤ 9223372036854775806) (hN : l.length < N) : laws_eqOpS N l l = some true := by
  unfold laws_eqOpS
  simp only [pLen_d]
  rw [pNe_f rfl, ifB_f]
  obtain ⟨h1, _⟩ := eq_loop (R := Bool) (P := fun x y => bindO (laws_eqOp N x y) fun b => some (pNot b)) (xs := l) (ys := l) hl rfl (step := laws_eqOpS.l4 N) (fun i kn kx => by
      simp only [laws_eqOpS.l4, pLen_d]
      congr 1; congr 1; funext x; congr 1; funext y
      cases laws_eqOp N x y <;> rfl)
    (fun x _ y _ => by
      unfold laws_eqOp
      by_cases e1 : x.1 = y.1
      · by_cases e2 : x.2.1 = y.2.1
        · refine ⟨false, by rw [pNe_f e1, ifB_f, pNe_f e2, ifB_f]; rfl, ?_⟩
          have : x = y := by
            obtain ⟨a, b, c⟩ := x
            obtain ⟨a', b', c'⟩ := y
            simp only at e1 e2
            subst e1 e2
            rfl
          simp [this]
        · refine ⟨true, by rw [pNe_f e1, ifB_f, pNe_t e2, ifB_t]; rfl, ?_⟩
          simp only [true_iff]
          intro q; exact e2 (by rw [q])
      · refine ⟨true, by rw [pNe_t e1, ifB_t]; rfl, ?_⟩
        simp only [true_iff]
        intro q; exact e1 (by rw [q])) (onSum (fun _ => some true) (fun d => let x55 := d.1; some x55)) _ 0 N rfl (by omega) (by omega)
  exact h1 rfl
end Go.AE.F
