/- Plain laws of those functions. -/
import Derived.Test.YtafnggbmcbpffaaXRingPushP1
namespace Go.AE.F
open Go.AE
def cnt (k : Int) (n : Nat) : List Int := (List.range n).map fun i : Nat => k + (i : Int)
theorem cnt_len (k : Int) (n : Nat) : (cnt k n).length = n := by simp [cnt]
theorem cnt_get (k : Int) (n i : Nat) (h : i < n) : (cnt k n)[i]'(by rw [cnt_len]; exact h) = k + (i : Int) := by simp [cnt]
theorem mark_loop {N : Nat} {R : Type} (k0 : Int) (L : Nat) (hk : 0 ≤ k0) (hL : k0 + L ≤ 4611686018427387904) (kk : Int × List Int × Unit → Option R) : ∀ (m i n : Nat) (l : List Int), L - i = m → i ≤ L → m < n → l.length = L → l.take i = (cnt k0 L).take i →
    loopP (laws_markInt64S.l2 N) n (k0 + i, (i : Int), l, ()) kk = kk (k0 + L, cnt k0 L, ()) := by
  intro m
  induction m with
  | zero =>
    intro i n l hm hi hn hl ht
    obtain ⟨n, rfl⟩ := succ_of hn
    have hiL : i = L := by omega
    have e : l = cnt k0 L := by
      rw [List.take_of_length_le (by omega), List.take_of_length_le (by rw [cnt_len]; omega)] at ht
      exact ht
    simp only [loopP_s, laws_markInt64S.l2, pLen_d]
    rw [pLt_f (by omega), ifB_f, e, hiL]
  | succ m ih =>
    intro i n l hm hi hn hl ht
    obtain ⟨n, rfl⟩ := succ_of hn
    have hlt : i < l.length := by omega
    simp only [loopP_s, laws_markInt64S.l2, pLen_d]
    rw [pLt_t (by omega), ifB_t, idx_lt hlt, bindO_s, bindO_s, pAdd_i (by omega) (by omega), pAdd_i (by omega) (by omega)]
    have := ih (i + 1) n (pSet l (i : Int) (k0 + i)) (by omega) (by omega) (by omega) (by simp [pSet, hl]) (by
      rw [List.take_succ_eq_append_getElem (by simp [pSet]; omega), List.take_succ_eq_append_getElem (by rw [cnt_len]; omega)]
      congr 1
      · rw [← ht]; simp [pSet, List.take_set_of_le]
      · rw [cnt_get k0 L i (by omega)]; simp [pSet])
    refine Eq.trans ?_ this
    congr 2
    omega
theorem markInt64S_eq (N : Nat) (l : List Int) (k : Int) (hk : 0 ≤ k) (hL : k + l.length ≤ 4611686018427387904) (hN : l.length < N) : laws_markInt64S N l k = some (k + l.length, cnt k l.length) := by
  unfold laws_markInt64S
  have := mark_loop (N := N) k l.length hk hL (fun d => let x44 := d.1; let x45 := d.2.1; some (x44, x45)) _ 0 N l rfl (by omega) (by omega) rfl (by simp)
  rw [show k + ((0 : Nat) : Int) = k from by omega] at this
  exact this
theorem held_loop {N : Nat} {R : Type} (k0 : Int) (L : Nat) (hk : 0 ≤ k0) (hL : k0 + L ≤ 4611686018427387904) (kk : (Int × Unit) ⊕ (Int × Unit) → Option R) : ∀ (m i n : Nat), L - i = m → i ≤ L → m < n →
    loopP (laws_heldInt64S.l2 N) n (cnt k0 L, k0 + i, (i : Int), ()) kk = kk (.inl (k0 + L, ())) := by
  intro m
  induction m with
  | zero =>
    intro i n hm hi hn
    obtain ⟨n, rfl⟩ := succ_of hn
    have hiL : i = L := by omega
    simp only [loopP_s, laws_heldInt64S.l2, pLen_d]
    rw [pLt_f (by rw [cnt_len]; omega), ifB_f, hiL]
  | succ m ih =>
    intro i n hm hi hn
    obtain ⟨n, rfl⟩ := succ_of hn
    have hlt : i < (cnt k0 L).length := by rw [cnt_len]; omega
    simp only [loopP_s, laws_heldInt64S.l2, pLen_d]
    rw [pLt_t (by rw [cnt_len]; omega), ifB_t, idx_lt hlt, bindO_s, cnt_get k0 L i (by omega), pNe_f rfl, ifB_f, pAdd_i (by omega) (by omega), pAdd_i (by omega) (by omega)]
    have := ih (i + 1) n (by omega) (by omega) (by omega)
    refine Eq.trans ?_ this
    congr 3
    omega
theorem heldInt64S_eq (N : Nat) (L : Nat) (k : Int) (hk : 0 ≤ k) (hL : k + L ≤ 4611686018427387904) (hN : L < N) : laws_heldInt64S N (cnt k L) k = some (k + L) := by
  unfold laws_heldInt64S
  have := held_loop (N := N) k L hk hL (onSum (fun d => let x32 := d.1; some x32) (fun d => let x33 := d.1; some x33)) _ 0 N rfl (by omega) (by omega)
  rw [show k + ((0 : Nat) : Int) = k from by omega] at this
  exact this
end Go.AE.F
namespace Go.AE.F
open Go.AE
def ptsG (l : List Int) : Bool := decide (l.length ≤ 300) && l.all ptG
theorem spec_PointsRight_eq (N : Nat) (l : List Int) (hN : 301 < N) : spec_PointsRight N l = some (ptsG l) := by
  unfold spec_PointsRight ptsG
  rw [pLen_d]
  by_cases h : l.length ≤ 300
  · rw [pGt_f (by omega), ifB_f, decide_eq_true h, Bool.true_and]
    have := all_loop (R := Bool) (P := spec_l01Point N) (p := ptG) (xs := l) (by omega) (step := spec_PointsRight.l4 N) (fun i kn kx => by simp only [spec_PointsRight.l4, pLen_d]) (fun x _ => spec_l01Point_eq N x)
      (onSum (fun d => some true) (fun d => let x37 := d.1; some x37)) _ 0 N rfl (by omega) (by omega)
    rw [List.drop_zero] at this
    refine Eq.trans this ?_
    cases l.all ptG <;> rfl
  · rw [pGt_t (by omega), ifB_t, decide_eq_false h]; rfl
theorem contains_all {A : Type} {N : Nat} {P : A → Option Bool} {p : A → Bool} {l : List A} (hl : l.length < N) (hb : l.length ≤ 9223372036854775806) {step : {R : Type} → List A × Int × Int × Unit → (List A × Int × Int × Unit → Option R) → (Unit ⊕ (Int × Unit) → Option R) → Option R}
    (hs : ∀ i kn kx, step (R := Int) (l, (l.length : Int), i, ()) kn kx = ifB (pLt i l.length) (bindO (idx l i) fun y => bindO (P y) fun b => ifB b (kx (.inr (i, ()))) (kn (l, (l.length : Int), pAdd .i64 i 1, ()))) (kx (.inl ())))
    (hP : ∀ x ∈ l, P x = some (!p x)) :
    (bindO (loopP (R := Int) step N (l, (l.length : Int), (0 : Int), ()) (onSum (fun _ => some (-1)) (fun d => let x43 := d.1; some x43))) fun y1 => some (pGe y1 0)) = some (!l.all p) := by
  have := find_loop (R := Int) (P := P) (p := fun a => !p a) (xs := l) hb (step := step) hs hP (onSum (fun _ => some (-1)) (fun d => let x43 := d.1; some x43)) _ 0 N rfl (by omega) (by omega)
  rw [List.drop_zero] at this
  rw [show (0 : Int) = ((0 : Nat) : Int) from rfl, this]
  have h := find_any (p := fun a => !p a) (xs := l)
  rw [← not_any (p := p)]
  cases hf : l.findIdx? (fun a => !p a) with
  | none =>
    rw [hf] at h
    have ha : l.any (fun a => !p a) = false := by
      cases ha : l.any (fun a => !p a) with
      | false => rfl
      | true => have := h.2 ha; simp at this
    rw [ha]; rfl
  | some j =>
    rw [hf] at h
    have ha : l.any (fun a => !p a) = true := h.1 (by simp)
    rw [ha]
    show (bindO (some ((0 + j : Nat) : Int)) fun y1 => some (pGe y1 0)) = _
    rw [bindO_s, pGe_t (by omega)]; rfl
theorem impl_PointsRight_eq (N : Nat) (l : List Int) (hl : l.length < N) (hb : l.length ≤ 9223372036854775806) : impl_PointsRight N l = some (ptsG l) := by
  unfold impl_PointsRight slices_ContainsFunc_Sint64_int64__impl_PointsRight_c1 slices_IndexFunc_Sint64_int64__impl_PointsRight_c1 ptsG
  rw [pLen_d, contains_all (P := impl_PointsRight_c1 N) (p := ptG) (step := fun {R} => slices_IndexFunc_Sint64_int64__impl_PointsRight_c1.l2 (R := R) N) hl hb (fun i kn kx => rfl) (fun x _ => by unfold impl_PointsRight_c1; rw [impl_isPoint_eq, bindO_s, pNot_d]), bindO_s]
  have e : pLe (l.length : Int) 300 = decide (l.length ≤ 300) := by rw [pLe_d]; congr 1; simp; omega
  rw [e, ifB_and, bindO_s, pNot_d]
  simp
end Go.AE.F
namespace Go.AE.F
open Go.AE
theorem same_self {R : Type} (a : Option R) : same a a = a := if_pos rfl
theorem clone_eq (N : Nat) (a : List Int) (h : a.length ≤ 68719476736) : slices_Clone_Sint64_int64 N a = some a := by
  unfold slices_Clone_Sint64_int64 slices_Clone_Sint64_int64.g
  rw [pFit_t (by simp; exact h), pLen_d]
  simp only [ifB_t]
  cases a with
  | nil =>
    rw [pEq_t (by simp), ifB_t]
    exact same_self _
  | cons x l =>
    rw [pEq_f (by simp; omega), ifB_f]
    rfl
theorem copy_eq (N : Nat) (a : List Int) (h : a.length ≤ 68719476736) : spec_l01Copy N a = some a := by
  unfold spec_l01Copy
  rw [pFit_t (by simp; exact h), ifB_t]
  rfl
end Go.AE.F
namespace Go.AE.F
open Go.AE
set_option maxRecDepth 100000
def itemG (x : List Int) : Bool := decide (0 < x.length) && ptsG x
theorem items_loop {N : Nat} {R : Type} (hN : 301 < N) (l : List (List Int)) (hl : l.length ≤ 30) (k : Unit ⊕ (Bool × Unit) → Option R) : ∀ (m i n : Nat), l.length - i = m → i ≤ l.length → m < n →
    loopP (spec_l04Items.l4 N) n (l, (i : Int), ()) k = if (l.drop i).all itemG = true then k (.inl ()) else k (.inr (false, ())) := by
  intro m
  induction m with
  | zero =>
    intro i n hm hi hn
    obtain ⟨n, rfl⟩ := succ_of hn
    rw [loopP_s]; unfold spec_l04Items.l4; simp only [pLen_d]
    rw [pLt_f (by omega), ifB_f, List.drop_eq_nil_of_le (by omega)]
    rfl
  | succ m ih =>
    intro i n hm hi hn
    obtain ⟨n, rfl⟩ := succ_of hn
    have hlt : i < l.length := by omega
    rw [loopP_s]; unfold spec_l04Items.l4; simp only [pLen_d]
    rw [pLt_t (by omega), ifB_t]
    rw [idx_lt hlt, bindO_s, bindO_s, spec_PointsRight_eq N l[i] hN, bindO_s, ifB_or, bindO_s, drop_c hlt, List.all_cons]
    have e : (pEq (l[i].length : Int) 0 || pNot (ptsG l[i])) = !itemG l[i] := by
      unfold itemG
      rw [pNot_d, pEq_d]
      by_cases h : l[i].length = 0
      · rw [decide_eq_true (show (l[i].length : Int) = 0 by omega), decide_eq_false (show ¬ 0 < l[i].length by omega)]; rfl
      · rw [decide_eq_false (show ¬ (l[i].length : Int) = 0 by omega), decide_eq_true (show 0 < l[i].length by omega)]; simp
    rw [e]
    cases hp : itemG l[i] with
    | false => simp [ifB_t]
    | true =>
      rw [Bool.not_true, ifB_f, pAdd_i (by omega) (by omega), Bool.true_and]
      exact ih (i + 1) n (by omega) (by omega) (by omega)
theorem impl_items (N : Nat) (l : List (List Int)) (hl : l.length < N) (hb : l.length ≤ 9223372036854775806) (hx : ∀ x ∈ l, x.length < N ∧ x.length ≤ 9223372036854775806) : impl_areItems N l = some (l.all itemG) := by
  unfold impl_areItems slices_ContainsFunc_S_Sint64__Sint64__impl_areItems_c1 slices_IndexFunc_S_Sint64__Sint64__impl_areItems_c1
  rw [pLen_d, contains_all (P := impl_areItems_c1 N) (p := itemG) (step := fun {R} => slices_IndexFunc_S_Sint64__Sint64__impl_areItems_c1.l2 (R := R) N) hl hb (fun i kn kx => rfl) (fun x h => by
    unfold impl_areItems_c1 impl_isItem
    rw [impl_PointsRight_eq N x (hx x h).1 (hx x h).2, bindO_s, ifB_and, bindO_s, bindO_s, pNot_d]
    have : pGt (pLen x) 0 = decide (0 < x.length) := by rw [pLen_d, pGt_d]; congr 1; simp
    rw [this]
    rfl), bindO_s]
  simp only [pNot_d, Bool.not_not]
theorem own_loop {N : Nat} {R : Type} (l : List (List Int)) (hl : l.length ≤ 1048576) (hx : ∀ x ∈ l, x.length ≤ 68719476736) (k : List (List Int) × Unit → Option R) : ∀ (m i n : Nat), l.length - i = m → i ≤ l.length → m < n →
    loopP (impl_ownLists.l3 N) n (l, (l.length : Int), (i : Int), l.take i, ()) k = k (l, ()) := by
  intro m
  induction m with
  | zero =>
    intro i n hm hi hn
    obtain ⟨n, rfl⟩ := succ_of hn
    rw [loopP_s]; unfold impl_ownLists.l3; simp only []
    rw [pLt_f (by omega), ifB_f, List.take_of_length_le (by omega)]
  | succ m ih =>
    intro i n hm hi hn
    obtain ⟨n, rfl⟩ := succ_of hn
    have hlt : i < l.length := by omega
    rw [loopP_s]; unfold impl_ownLists.l3; simp only []
    rw [pLt_t (by omega), ifB_t, idx_lt hlt, bindO_s, clone_eq N _ (hx _ (List.getElem_mem hlt)), bindO_s, pFit_t (by simp; omega), ifB_t, pAdd_i (by omega) (by omega)]
    have e : pApp (l.take i) [l[i]] = l.take (i + 1) := by rw [List.take_succ_eq_append_getElem hlt]; rfl
    rw [e]
    exact ih (i + 1) n (by omega) (by omega) (by omega)
end Go.AE.F
namespace Go.AE.F
open Go.AE
abbrev RingT := List (List Int) × Int × Unit
def ringG (r : RingT) : Bool := decide (r.1.length ≤ 10) && r.1.all itemG && decide (0 ≤ r.2.1) && (decide (r.2.1 < r.1.length) || (decide (r.2.1 = 0) && decide (r.1.length = 0)))
theorem spec_items_n (N : Nat) (hN : 301 < N) (l : List (List Int)) (m : Nat) (hm : m ≤ 30) : spec_l04Items N l (m : Int) = some (decide (l.length ≤ m) && l.all itemG) := by
  unfold spec_l04Items
  rw [pLen_d]
  by_cases hl : l.length ≤ m
  · rw [pGt_f (by omega), ifB_f, decide_eq_true hl, Bool.true_and]
    have := items_loop (N := N) hN l (by omega) (onSum (fun d => some true) (fun d => let x23 := d.1; some x23)) _ 0 N rfl (by omega) (by omega)
    rw [List.drop_zero] at this
    refine Eq.trans this ?_
    cases l.all itemG <;> rfl
  · rw [pGt_t (by omega), ifB_t, decide_eq_false hl]; rfl
theorem spec_RingRight_eq (N : Nat) (hN : 301 < N) (r : RingT) : spec_RingRight N r = some (ringG r) := by
  unfold spec_RingRight ringG
  rw [show (10 : Int) = ((10 : Nat) : Int) from rfl, spec_items_n N hN r.1 10 (by omega)]
  simp only [bindO_s, ifB_and, ifB_or, pGe_d, pLt_d, pEq_d, pLen_d, ge_iff_le]
  congr 3
  simp
theorem impl_RingRight_eq (N : Nat) (r : RingT) (hl : r.1.length < N) (hb : r.1.length ≤ 1048576) (hx : ∀ x ∈ r.1, x.length < N ∧ x.length ≤ 9223372036854775806) : impl_RingRight N r = some (ringG r) := by
  unfold impl_RingRight ringG impl_size_SSint64
  rw [impl_items N r.1 hl (by omega) hx]
  simp only [bindO_s, impl_within_eq, pLen_d]
  have e1 : pLe (r.1.length : Int) 10 = decide (r.1.length ≤ 10) := by rw [pLe_d]; congr 1; simp; omega
  rw [e1, pSub_i (by omega) (by omega)]
  have e2 : (decide (0 ≤ r.2.1) && decide (r.2.1 ≤ pMax ((r.1.length : Int) - 1) 0)) = (decide (0 ≤ r.2.1) && (decide (r.2.1 < r.1.length) || (decide (r.2.1 = 0) && decide (r.1.length = 0)))) := by
    unfold pMax
    by_cases h0 : 0 ≤ r.2.1
    · rw [decide_eq_true h0, Bool.true_and, Bool.true_and]
      by_cases h1 : (r.1.length : Int) - 1 < 0
      · rw [if_pos h1]
        have hz : r.1.length = 0 := by omega
        rw [decide_eq_false (show ¬ r.2.1 < (r.1.length : Int) by omega), decide_eq_true hz, Bool.false_or, Bool.and_true]
        congr 1; simp; omega
      · rw [if_neg h1, decide_eq_false (show ¬ r.1.length = 0 by omega), Bool.and_false, Bool.or_false]
        congr 1; simp; omega
    · rw [decide_eq_false h0]; rfl
  rw [e2]
  cases decide (r.1.length ≤ 10) <;> cases r.1.all itemG <;> rfl
theorem ringG_iff {r : RingT} : ringG r = true ↔ r.1.length ≤ 10 ∧ (∀ x ∈ r.1, itemG x = true) ∧ 0 ≤ r.2.1 ∧ (r.2.1 < r.1.length ∨ (r.2.1 = 0 ∧ r.1.length = 0)) := by
  unfold ringG
  simp only [Bool.and_eq_true, Bool.or_eq_true, decide_eq_true_eq, List.all_eq_true, and_assoc]
theorem copyAll_loop {N : Nat} {R : Type} (l : List (List Int)) (hl : l.length ≤ 1048576) (hx : ∀ x ∈ l, x.length ≤ 68719476736) (k : List (List Int) × Unit → Option R) : ∀ (m i n : Nat), l.length - i = m → i ≤ l.length → m < n →
    loopP (spec_l04CopyAll.l3 N) n (l, (i : Int), l.take i, ()) k = k (l, ()) := by
  intro m
  induction m with
  | zero =>
    intro i n hm hi hn
    obtain ⟨n, rfl⟩ := succ_of hn
    rw [loopP_s]; unfold spec_l04CopyAll.l3; simp only [pLen_d]
    rw [pLt_f (by omega), ifB_f, List.take_of_length_le (by omega)]
  | succ m ih =>
    intro i n hm hi hn
    obtain ⟨n, rfl⟩ := succ_of hn
    have hlt : i < l.length := by omega
    rw [loopP_s]; unfold spec_l04CopyAll.l3; simp only [pLen_d]
    rw [pLt_t (by omega), ifB_t, idx_lt hlt, bindO_s, copy_eq N _ (hx _ (List.getElem_mem hlt)), bindO_s, pFit_t (by simp; omega), ifB_t, pAdd_i (by omega) (by omega)]
    have e : pApp (l.take i) [l[i]] = l.take (i + 1) := by rw [List.take_succ_eq_append_getElem hlt]; rfl
    rw [e]
    exact ih (i + 1) n (by omega) (by omega) (by omega)
theorem copyAll_eq (N : Nat) (l : List (List Int)) (hl : l.length ≤ 1048576) (hN : l.length < N) (hx : ∀ x ∈ l, x.length ≤ 68719476736) : spec_l04CopyAll N l = some l := by
  unfold spec_l04CopyAll
  exact copyAll_loop l hl hx _ _ 0 N rfl (by omega) (by omega)
theorem ownLists_eq (N : Nat) (l : List (List Int)) (hl : l.length ≤ 1048576) (hN : l.length < N) (hx : ∀ x ∈ l, x.length ≤ 68719476736) : impl_ownLists N l = some l := by
  unfold impl_ownLists
  rw [pLen_d]
  exact own_loop l hl hx _ _ 0 N rfl (by omega) (by omega)
end Go.AE.F
