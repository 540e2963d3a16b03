/- Plain laws of those functions. -/
import Derived.Test.YteoociojgeokmaaDoorXSendP1
namespace Go.AE.F
open Go.AE
abbrev GridT := Int × Int × List CellT × Int × Int × Bool × Int × Unit
def sumC (l : List CellT) : Nat := (l.map fun c => c.1.length).sum
theorem mem_sumC {l : List CellT} {x : CellT} (h : x ∈ l) : x.1.length ≤ sumC l := by
  induction l with
  | nil => cases h
  | cons a l ih =>
    have es : sumC (a :: l) = a.1.length + sumC l := rfl
    rw [es]
    cases h with
    | head => omega
    | tail _ h => have := ih h; omega
theorem szCell_eq (N : Nat) (c : CellT) (a : Int) (h0 : 0 ≤ a) (ha : a ≤ 9223372036854775807) (hl : c.1.length ≤ 9223372036854775807) : laws_szCell N c a = some (if a - c.1.length < 0 then -1 else a - c.1.length) := by
  unfold laws_szCell
  rw [szInt64S_eq N _ a h0 ha hl, bindO_s]
  by_cases h : a - (c.1.length : Int) < 0
  · rw [if_pos h, pLt_t (by omega), ifB_t]
  · rw [if_neg h, pLt_f (by omega), ifB_f]
theorem szCellS_loop {N : Nat} {R : Type} (l : List CellT) (hl : l.length ≤ 9223372036854775806) (hb : ∀ x ∈ l, x.1.length ≤ 9223372036854775807) (k : (Int × Unit) ⊕ (Int × Unit) → Option R) :
    ∀ (m i n : Nat) (a : Int), l.length - i = m → i ≤ l.length → m < n → 0 ≤ a → a ≤ 9223372036854775807 →
    loopP (laws_szCellS.l5 N) n (l, a, (i : Int), ()) k = if a - sumC (l.drop i) < 0 then k (.inr (-1, ())) else k (.inl (a - sumC (l.drop i), ())) := by
  intro m
  induction m with
  | zero =>
    intro i n a hm hi hn h0 ha
    obtain ⟨n, rfl⟩ := succ_of hn
    simp only [loopP_s, laws_szCellS.l5, pLen_d]
    rw [pLt_f (by omega), ifB_f, List.drop_eq_nil_of_le (by omega)]
    simp only [sumC, List.map_nil, List.sum_nil]
    rw [if_neg (by omega)]; simp
  | succ m ih =>
    intro i n a hm hi hn h0 ha
    obtain ⟨n, rfl⟩ := succ_of hn
    have hlt : i < l.length := by omega
    simp only [loopP_s, laws_szCellS.l5, pLen_d]
    rw [pLt_t (by omega), ifB_t, idx_lt hlt, bindO_s, szCell_eq N _ _ h0 ha (hb _ (List.getElem_mem hlt)), bindO_s, drop_c hlt]
    have es : sumC (l[i] :: l.drop (i + 1)) = l[i].1.length + sumC (l.drop (i + 1)) := rfl
    rw [es]
    by_cases h : a - (l[i].1.length : Int) < 0
    · rw [if_pos h, pLt_t (by omega), ifB_t, if_pos (by omega)]
    · rw [if_neg h, pLt_f (by omega), ifB_f, pAdd_i (by omega) (by omega)]
      have := ih (i + 1) n (a - l[i].1.length) (by omega) (by omega) (by omega) (by omega) (by omega)
      refine Eq.trans this ?_
      by_cases h2 : a - (l[i].1.length : Int) - sumC (l.drop (i + 1)) < 0
      · rw [if_pos h2, if_pos (by omega)]
      · rw [if_neg h2, if_neg (by omega)]
        congr 3; omega
theorem szGrid_eq (N : Nat) (g : GridT) (a : Int) (h0 : 0 ≤ a) (ha : a ≤ 1048576) (hl : g.2.2.1.length ≤ 9223372036854775807) (hb : ∀ x ∈ g.2.2.1, x.1.length ≤ 9223372036854775807) (hN : 1048578 ≤ N) :
    laws_szGrid N g a = some (if a - g.2.2.1.length - sumC g.2.2.1 < 0 then -1 else a - g.2.2.1.length - sumC g.2.2.1) := by
  unfold laws_szGrid laws_szCellS
  rw [pLen_d, pSub_i (by omega) (by omega)]
  by_cases h : a - (g.2.2.1.length : Int) < 0
  · rw [pLt_t h, ifB_t, if_pos (by omega)]; rfl
  · rw [pLt_f (by omega), ifB_f]
    have := szCellS_loop (N := N) g.2.2.1 (by omega) hb (onSum (fun d => let x44 := d.1; some x44) (fun d => let x45 := d.1; some x45)) _ 0 N (a - g.2.2.1.length) rfl (by omega) (by omega) (by omega) (by omega)
    refine Eq.trans (congrArg (fun z => bindO z _) this) ?_
    rw [List.drop_zero]
    by_cases h2 : a - (g.2.2.1.length : Int) - sumC g.2.2.1 < 0
    · rw [if_pos h2, if_pos h2]; rfl
    · rw [if_neg h2, if_neg h2]
      show ifB (pLt _ 0) _ _ = _
      rw [pLt_f (by omega), ifB_f]
def gridOk (N : Nat) (g : GridT) : Prop := g.2.2.1.length ≤ 1048576 ∧ g.2.2.1.length < N ∧ ∀ x ∈ g.2.2.1, x.1.length ≤ 1048576 ∧ x.1.length < N
theorem toCell_eq (N : Nat) (c : CellT) (h : c.1.length ≤ 1048576 ∧ c.1.length < N) : laws_toCell N c = some c := by
  unfold laws_toCell
  rw [toInt64S_eq N _ (by omega) h.2, bindO_s]
theorem toGrid_eq (N : Nat) (g : GridT) (h : gridOk N g) : laws_toGrid N g = some g := by
  unfold laws_toGrid laws_toCellS
  rw [pLen_d, pEq_t rfl, ifB_t, pLe_t (by omega), ifB_t, pLe_t (by have := h.1; omega), ifB_t]
  have := copy_loop (R := List CellT) (P := laws_toCell N) (f := id) (xs := g.2.2.1) (by have := h.1; omega) (step := laws_toCellS.l3 N) (fun i out kn kx => by simp only [laws_toCellS.l3, pLen_d]) (fun x hx => toCell_eq N x (h.2.2 x hx)) (fun d => let x67 := d.1; some x67) _ 0 N (pRepl (g.2.2.1.length : Int) ([], (0, ()))) rfl (by omega) (by have := h.2.1; omega) (repl_len _ _) (by simp)
  refine Eq.trans (congrArg (fun z => bindO z _) this) ?_
  rw [List.map_id, bindO_s]
theorem eqCell_self (N : Nat) (c : CellT) (h : c.1.length ≤ 1048576 ∧ c.1.length < N) : laws_eqCell N c c = some true := by
  unfold laws_eqCell
  rw [eqInt64S_self N _ (by omega) h.2, bindO_s, pNot_d, Bool.not_true, ifB_f, pNe_f rfl, ifB_f]
theorem eqGrid_self (N : Nat) (g : GridT) (h : gridOk N g) : laws_eqGrid N g g = some true := by
  unfold laws_eqGrid laws_eqCellS
  rw [pNe_f rfl, ifB_f, pNe_f rfl, ifB_f, pLen_d, pNe_f rfl, ifB_f]
  have key : ∀ (m i n : Nat), g.2.2.1.length - i = m → i ≤ g.2.2.1.length → m < n → ∀ (k : Unit ⊕ (Bool × Unit) → Option Bool), loopP (laws_eqCellS.l4 N) n (g.2.2.1, g.2.2.1, (i : Int), ()) k = k (.inl ()) := by
    intro m
    induction m with
    | zero =>
      intro i n hm hi hn k
      obtain ⟨n, rfl⟩ := succ_of hn
      simp only [loopP_s, laws_eqCellS.l4, pLen_d]
      rw [pLt_f (by omega), ifB_f]
    | succ m ih =>
      intro i n hm hi hn k
      obtain ⟨n, rfl⟩ := succ_of hn
      have hlt : i < g.2.2.1.length := by omega
      simp only [loopP_s, laws_eqCellS.l4, pLen_d]
      rw [pLt_t (by omega), ifB_t, idx_lt hlt, bindO_s, bindO_s, eqCell_self N _ (h.2.2 _ (List.getElem_mem hlt)), bindO_s, pNot_d, Bool.not_true, ifB_f, pAdd_i (by omega) (by have := h.1; omega)]
      exact ih (i + 1) n (by omega) (by omega) (by omega) k
  refine Eq.trans (congrArg (fun z => bindO z _) (key _ 0 N rfl (by omega) (by have := h.2.1; omega) _)) ?_
  simp only [onSum, bindO_s]
  have hb : pBeq g.2.2.2.2.2.1 g.2.2.2.2.2.1 = true := by unfold pBeq; simp
  rw [pNot_d, Bool.not_true, ifB_f, pNe_f rfl, ifB_f, pNe_f rfl, ifB_f, hb, pNot_d, Bool.not_true, ifB_f, pNe_f rfl, ifB_f]
def okP (i : Nat) (p : Int) : Bool := ptG p && !ctlG p && ((decide (i = 0)) != decide (wG p = 0))
def wideC (c : CellT) : Bool := match c.1 with | [] => false | p :: _ => decide (wG p = 2)
def cellG (c : CellT) : Bool := decide (c.1.length ≤ 4) && decide (0 ≤ c.2.1) && decide (c.2.1 ≤ 3) && (List.range c.1.length).all fun i => okP i (c.1.getD i 0)
theorem scan_loop {D E R : Type} {step : D → (D → Option R) → (E → Option R) → Option R} (mk : Nat → D) (p : Nat → Bool) (n : Nat) (k : E → Option R) (xe xb : E)
    (hs : ∀ i kn, i < n → step (mk i) kn k = if p i = true then kn (mk (i + 1)) else k xb) (he : ∀ kn, step (mk n) kn k = k xe) :
    ∀ (m i f : Nat), n - i = m → i ≤ n → m < f → loopP step f (mk i) k = if ((List.range n).drop i).all p = true then k xe else k xb := by
  intro m
  induction m with
  | zero =>
    intro i f hm hi hf
    obtain ⟨f, rfl⟩ := succ_of hf
    have : i = n := by omega
    subst this
    rw [loopP_s, he, List.drop_eq_nil_of_le (by simp)]
    rfl
  | succ m ih =>
    intro i f hm hi hf
    obtain ⟨f, rfl⟩ := succ_of hf
    rw [loopP_s, hs i _ (by omega), drop_c (by simp; omega : i < (List.range n).length), List.all_cons, List.getElem_range]
    cases hp : p i with
    | false => simp
    | true =>
      simp only [if_true, Bool.true_and]
      exact ih (i + 1) f (by omega) (by omega) (by omega)
theorem getD_lt {l : List Int} {i : Nat} (h : i < l.length) : l.getD i 0 = l[i] := by simp [List.getD, h]
theorem bool_ne (a b : Bool) : (a != b) = !(a == b) := by cases a <;> cases b <;> rfl
theorem spec_l08Cell_eq (N : Nat) (c : CellT) (hN : 10 < N) : spec_l08Cell N c = some (cellG c) := by
  unfold spec_l08Cell cellG
  simp only [pLen_d, ifB_or, bindO_s, pGt_d, pLt_d]
  by_cases h1 : ((decide ((c.1.length : Int) > 4) || decide (c.2.1 < 0)) || decide (c.2.1 > 3)) = true
  · rw [h1, ifB_t]
    simp only [Bool.or_eq_true, decide_eq_true_eq] at h1
    rcases h1 with (h1 | h1) | h1
    · rw [decide_eq_false (by omega : ¬ c.1.length ≤ 4)]; simp
    · rw [decide_eq_false (by omega : ¬ 0 ≤ c.2.1)]; simp
    · rw [decide_eq_false (by omega : ¬ c.2.1 ≤ 3)]; simp
  · have h1' := h1
    simp only [Bool.not_eq_true] at h1
    rw [h1, ifB_f]
    simp only [Bool.or_eq_true, decide_eq_true_eq, not_or] at h1'
    obtain ⟨⟨a1, a2⟩, a3⟩ := h1'
    rw [decide_eq_true (by omega : c.1.length ≤ 4), decide_eq_true (by omega : 0 ≤ c.2.1), decide_eq_true (by omega : c.2.1 ≤ 3)]
    simp only [Bool.true_and]
    have := scan_loop (step := spec_l08Cell.l4 N) (fun i => ((i : Int), c, ())) (fun i => okP i (c.1.getD i 0)) c.1.length (onSum (fun d => some true) (fun d => let x35 := d.1; some x35)) (.inl ()) (.inr (false, ())) (fun i kn hi => by
        unfold spec_l08Cell.l4
        simp only [pLen_d]
        rw [pLt_t (by omega), ifB_t, idx_lt hi, bindO_s, spec_l01Point_eq, bindO_s, getD_lt hi]
        simp only [spec_WidthOf_eq, bindO_s, ifB_or, pNot_d, pBeq, pEq_d, pLt_d]
        have e : ((i : Int) = 0) = (i = 0) := by simp
        have e2 : pAdd .i64 (i : Int) 1 = ((i + 1 : Nat) : Int) := pAdd_i (by omega) (by omega)
        rw [e2]
        unfold okP ctlG
        rw [bool_ne]
        simp only [e]
        cases ptG c.1[i] <;> cases (decide (i = 0) == decide (wG c.1[i] = 0)) <;> cases decide (c.1[i] < 32) <;> cases decide (c.1[i] = 127) <;> rfl) (fun kn => by
        unfold spec_l08Cell.l4
        simp only [pLen_d]
        rw [pLt_f (by omega), ifB_f]) _ 0 N rfl (by omega) (by omega)
    refine Eq.trans this ?_
    rw [List.drop_zero]
    split
    · rename_i h; rw [h]; rfl
    · rename_i h; simp only [Bool.not_eq_true] at h; rw [h]; rfl
theorem impl_cellRight_eq (N : Nat) (c : CellT) (hl : c.1.length ≤ 1048576) (hN : c.1.length + 20 < N) : impl_cellRight N c = some (cellG c) := by
  unfold impl_cellRight cellG
  simp only [pLen_d]
  have := scan_loop (step := impl_cellRight.l2 N) (fun i => (c.1, (c.1.length : Int), (i : Int), c, ())) (fun i => okP i (c.1.getD i 0)) c.1.length (onSum (fun d => let x40 := d.1; bindO (ifB (pLe (pLen x40.1) 4) (bindO (impl_within N x40.2.1 0 3) fun y42 => some y42) (some false)) fun y41 => some y41) (fun d => let x43 := d.1; some x43)) (.inl (c, ())) (.inr (false, ())) (fun i kn hi => by
      unfold impl_cellRight.l2
      simp only []
      rw [pLt_t (by omega), ifB_t, idx_lt hi, bindO_s, impl_isPoint_eq, bindO_s, getD_lt hi]
      simp only [impl_isControl_eq, impl_WidthOf_eq N (by omega), bindO_s, ifB_or, pNot_d, pBeq, pEq_d, pGt_d]
      have e : ((i : Int) = 0) = (i = 0) := by simp
      have e2 : pAdd .i64 (i : Int) 1 = ((i + 1 : Nat) : Int) := pAdd_i (by omega) (by omega)
      have hw := wG_rng c.1[i]
      have e3 : decide (wG c.1[i] > 0) = !decide (wG c.1[i] = 0) := by
        by_cases hz : wG c.1[i] = 0
        · rw [decide_eq_true hz, decide_eq_false (by omega)]; rfl
        · rw [decide_eq_false hz, decide_eq_true (by omega)]; rfl
      rw [e2, e3]
      unfold okP
      rw [bool_ne]
      simp only [e]
      cases ptG c.1[i] <;> cases decide (i = 0) <;> cases decide (wG c.1[i] = 0) <;> cases ctlG c.1[i] <;> rfl) (fun kn => by
      unfold impl_cellRight.l2
      simp only []
      rw [pLt_f (by omega), ifB_f]) _ 0 N rfl (by omega) (by omega)
  refine Eq.trans this ?_
  rw [List.drop_zero]
  split
  · rename_i h
    rw [h]
    show (bindO (ifB (pLe (pLen c.1) 4) (bindO (impl_within N c.2.1 0 3) fun y42 => some y42) (some false)) fun y41 => some y41) = _
    simp only [impl_within_eq, bindO_s, ifB_and, pLe_d, pLen_d, Bool.and_true]
    have : decide ((c.1.length : Int) ≤ 4) = decide (c.1.length ≤ 4) := by
      by_cases q : c.1.length ≤ 4
      · rw [decide_eq_true q, decide_eq_true (by omega)]
      · rw [decide_eq_false q, decide_eq_false (by omega)]
    rw [this, Bool.and_assoc]
  · rename_i h; simp only [Bool.not_eq_true] at h; rw [h]; simp; rfl
theorem spec_l08Wide_eq (N : Nat) (c : CellT) : spec_l08Wide N c = some (wideC c) := by
  unfold spec_l08Wide wideC
  obtain ⟨l, a, u⟩ := c
  cases l with
  | nil => rfl
  | cons p l =>
    simp only [pLen_d]
    rw [pGt_t (by simp only [List.length_cons]; omega), ifB_t, show idx (p :: l) 0 = some p from rfl, bindO_s, spec_WidthOf_eq, bindO_s, bindO_s, pEq_d]
theorem impl_isWide_eq (N : Nat) (c : CellT) (hN : 10 < N) : impl_Cell_isWide N c = some (wideC c) := by
  unfold impl_Cell_isWide wideC
  obtain ⟨l, a, u⟩ := c
  cases l with
  | nil => rfl
  | cons p l =>
    simp only [pLen_d]
    rw [pGt_t (by simp only [List.length_cons]; omega), ifB_t, show idx (p :: l) 0 = some p from rfl, bindO_s, impl_WidthOf_eq N hN, bindO_s, bindO_s, pEq_d]
theorem isEmpty_eq (N : Nat) (c : CellT) : impl_Cell_isEmpty N c = some (decide (c.1 = [])) := by
  unfold impl_Cell_isEmpty
  rw [pEq_d, pLen_d]
  obtain ⟨l, a, u⟩ := c
  cases l with
  | nil => rfl
  | cons p l => simp; omega
end Go.AE.F
