/- Candidates that match a prefix. -/
import Derived.Test.YtnojkkgeefhpaaaPCands
import Derived.Test.YtnojkkgeefhpaaaPMark
import Derived.Test.YtnojkkgeefhpaaaF2
namespace Go.AE.F
open Go.AE

/-! ### points -/
def ptsG (l : List Int) : Bool := decide (l.length ≤ 300) && l.all ptG

theorem spec_PointsRight_eq (N : Nat) (l : List Int) (hN : 301 < N) : spec_PointsRight N l = some (ptsG l) := by
  unfold spec_PointsRight ptsG
  rw [pLen_d]
  by_cases h : l.length ≤ 300
  · rw [pGt_f (by omega), ifB_f, decide_eq_true h, Bool.true_and]
    have := all_loop (R := Bool) (P := spec_l01Point N) (p := ptG) (xs := l) (by omega) (step := spec_PointsRight.l4 N) (fun i kn kx => by simp only [spec_PointsRight.l4, pLen_d]) (fun x _ => spec_l01Point_eq N x)
      (onSum (fun d => some true) (fun d => let x37 := d.1; some x37)) _ 0 N rfl (by omega) (by omega)
    rw [List.drop_zero] at this
    refine Eq.trans this ?_
    cases l.all ptG <;> rfl
  · rw [pGt_t (by omega), ifB_t, decide_eq_false h]; rfl

/-- a search for what fails, over any kind -/
theorem contains_all {A : Type} {N : Nat} {P : A → Option Bool} {p : A → Bool} {l : List A} (hl : l.length < N) (hb : l.length ≤ 9223372036854775806) {step : {R : Type} → List A × Int × Int × Unit → (List A × Int × Int × Unit → Option R) → (Unit ⊕ (Int × Unit) → Option R) → Option R}
    (hs : ∀ i kn kx, step (R := Int) (l, (l.length : Int), i, ()) kn kx = ifB (pLt i l.length) (bindO (idx l i) fun y => bindO (P y) fun b => ifB b (kx (.inr (i, ()))) (kn (l, (l.length : Int), pAdd .i64 i 1, ()))) (kx (.inl ())))
    (hP : ∀ x ∈ l, P x = some (!p x)) :
    (bindO (loopP (R := Int) step N (l, (l.length : Int), (0 : Int), ()) (onSum (fun _ => some (-1)) (fun d => let x43 := d.1; some x43))) fun y1 => some (pGe y1 0)) = some (!l.all p) := by
  have := find_loop (R := Int) (P := P) (p := fun a => !p a) (xs := l) hb (step := step) hs hP (onSum (fun _ => some (-1)) (fun d => let x43 := d.1; some x43)) _ 0 N rfl (by omega) (by omega)
  rw [List.drop_zero] at this
  rw [show (0 : Int) = ((0 : Nat) : Int) from rfl, this]
  have h := find_any (p := fun a => !p a) (xs := l)
  rw [← not_any (p := p)]
  cases hf : l.findIdx? (fun a => !p a) with
  | none =>
    rw [hf] at h
    have ha : l.any (fun a => !p a) = false := by
      cases ha : l.any (fun a => !p a) with
      | false => rfl
      | true => have := h.2 ha; simp at this
    rw [ha]; rfl
  | some j =>
    rw [hf] at h
    have ha : l.any (fun a => !p a) = true := h.1 (by simp)
    rw [ha]
    show (bindO (some ((0 + j : Nat) : Int)) fun y1 => some (pGe y1 0)) = _
    rw [bindO_s, pGe_t (by omega)]; rfl

theorem impl_PointsRight_eq (N : Nat) (l : List Int) (hl : l.length < N) (hb : l.length ≤ 9223372036854775806) : impl_PointsRight N l = some (ptsG l) := by
  unfold impl_PointsRight slices_ContainsFunc_Sint64_int64__impl_PointsRight_c1 slices_IndexFunc_Sint64_int64__impl_PointsRight_c1 ptsG
  rw [pLen_d, contains_all (P := impl_PointsRight_c1 N) (p := ptG) (step := fun {R} => slices_IndexFunc_Sint64_int64__impl_PointsRight_c1.l2 (R := R) N) hl hb (fun i kn kx => rfl) (fun x _ => by unfold impl_PointsRight_c1; rw [impl_isPoint_eq, bindO_s, pNot_d]), bindO_s]
  have e : pLe (l.length : Int) 300 = decide (l.length ≤ 300) := by rw [pLe_d]; congr 1; simp; omega
  rw [e, ifB_and, bindO_s, pNot_d]
  simp

/-! ### beginnings -/
theorem spec_l01Same_eq (N : Nat) (a b : List Int) (ha : a.length ≤ 9223372036854775806) (hN : a.length < N) : spec_l01Same N a b = some (decide (a = b)) := by
  unfold spec_l01Same
  simp only [pLen_d]
  by_cases hl : a.length = b.length
  · rw [pNe_f (by omega), ifB_f]
    obtain ⟨h1, h2⟩ := eq_loop (R := Bool) (P := fun x y => some (pNe x y)) (xs := a) (ys := b) ha hl (step := spec_l01Same.l4 N) (fun i kn kx => by simp only [spec_l01Same.l4, bindO_s, pLen_d])
      (fun x _ y _ => ⟨_, rfl, by rw [pNe_d]; simp⟩) (onSum (fun _ => some true) (fun d => let x43 := d.1; some x43)) _ 0 N rfl (by omega) (by omega)
    rw [List.drop_zero, List.drop_zero] at h1 h2
    by_cases he : a = b
    · rw [decide_eq_true he]; exact h1 he
    · rw [decide_eq_false he]; exact h2 he
  · rw [pNe_t (by omega), ifB_t, decide_eq_false (fun h => hl (by rw [h]))]

theorem slEq_loop {N : Nat} {R : Type} (a b : List Int) (ha : a.length ≤ 9223372036854775806) (hl : a.length = b.length) (k : Unit ⊕ (Bool × Unit) → Option R) : ∀ (m i n : Nat), a.length - i = m → i ≤ a.length → m < n →
    loopP (slices_Equal_Sint64_int64.l4 N) n (a, b, (a.length : Int), (i : Int), ()) k = if a.drop i = b.drop i then k (.inl ()) else k (.inr (false, ())) := by
  intro m
  induction m with
  | zero =>
    intro i n hm hi hn
    obtain ⟨n, rfl⟩ := succ_of hn
    simp only [loopP_s, slices_Equal_Sint64_int64.l4]
    rw [pLt_f (by omega), ifB_f, List.drop_eq_nil_of_le (by omega), List.drop_eq_nil_of_le (by omega), if_pos rfl]
  | succ m ih =>
    intro i n hm hi hn
    obtain ⟨n, rfl⟩ := succ_of hn
    have h1 : i < a.length := by omega
    have h2 : i < b.length := by omega
    simp only [loopP_s, slices_Equal_Sint64_int64.l4]
    rw [pLt_t (by omega), ifB_t, idx_lt h1, bindO_s, idx_lt h2, bindO_s, drop_c h1, drop_c h2]
    by_cases he : a[i] = b[i]
    · rw [pNe_f he, ifB_f, pAdd_i (by omega) (by omega)]
      refine Eq.trans (ih (i + 1) n (by omega) (by omega) (by omega)) ?_
      by_cases hd : a.drop (i + 1) = b.drop (i + 1)
      · rw [if_pos hd, if_pos (by rw [he, hd])]
      · rw [if_neg hd, if_neg (fun q => hd (List.cons.inj q).2)]
    · rw [pNe_t he, ifB_t, if_neg (fun q => he (List.cons.inj q).1)]

theorem slices_Equal_eq (N : Nat) (a b : List Int) (ha : a.length ≤ 9223372036854775806) (hN : a.length < N) : slices_Equal_Sint64_int64 N a b = some (decide (a = b)) := by
  unfold slices_Equal_Sint64_int64
  simp only [pLen_d]
  by_cases hl : a.length = b.length
  · rw [pNe_f (by omega), ifB_f]
    have := slEq_loop (N := N) a b ha hl (onSum (fun _ => some true) (fun d => let x49 := d.1; some x49)) _ 0 N rfl (by omega) (by omega)
    rw [List.drop_zero, List.drop_zero] at this
    refine Eq.trans this ?_
    by_cases he : a = b
    · rw [decide_eq_true he, if_pos he]; rfl
    · rw [decide_eq_false he, if_neg he]; rfl
  · rw [pNe_t (by omega), ifB_t, decide_eq_false (fun h => hl (by rw [h]))]

def begG (x p : List Int) : Bool := decide (p.length ≤ x.length) && decide (x.take p.length = p)

theorem sub_take {A : Type} (x : List A) (n : Nat) : sub x 0 (n : Int) = x.take n := by simp [sub]

theorem spec_l06Begins_eq (N : Nat) (x p : List Int) (hx : x.length ≤ 9223372036854775806) (hN : x.length < N) : spec_l06Begins N x p = some (begG x p) := by
  unfold spec_l06Begins begG
  simp only [pLen_d]
  by_cases h : p.length ≤ x.length
  · rw [pGe_t (by omega), ifB_t, pLe_t (by omega), ifB_t, pLe_t (by omega), ifB_t, pLe_t (by omega), ifB_t, sub_take, spec_l01Same_eq N _ p (by simp; omega) (by simp; omega), decide_eq_true h]
    rfl
  · rw [pGe_f (by omega), ifB_f, decide_eq_false h]; rfl

theorem impl_begins_eq (N : Nat) (x p : List Int) (hx : x.length ≤ 9223372036854775806) (hN : x.length < N) : impl_begins N x p = some (begG x p) := by
  unfold impl_begins begG
  simp only [pLen_d]
  by_cases h : p.length ≤ x.length
  · rw [pGe_t (by omega), ifB_t, pLe_t (by omega), ifB_t, pLe_t (by omega), ifB_t, pLe_t (by omega), ifB_t, sub_take, slices_Equal_eq N _ p (by simp; omega) (by simp; omega), decide_eq_true h]
    rfl
  · rw [pGe_f (by omega), ifB_f, decide_eq_false h]; rfl

/-! ### the places of the candidates that match -/
def idxG (p : List Int) : Int → List (List Int) → List Int
  | _, [] => []
  | i, x :: l => if begG x p = true then i :: idxG p (i + 1) l else idxG p (i + 1) l
def matG (p : List Int) (l : List (List Int)) : List (List Int) := l.filter fun x => begG x p

theorem idxG_len (p : List Int) : ∀ (l : List (List Int)) (i : Int), (idxG p i l).length ≤ l.length
  | [], i => by simp [idxG]
  | x :: l, i => by
    have := idxG_len p l (i + 1)
    simp only [idxG]
    split <;> simp <;> omega

theorem specMatch_loop {N : Nat} {R : Type} (l : List (List Int)) (p : List Int) (hl : l.length ≤ 400) (hx : ∀ x ∈ l, x.length ≤ 9223372036854775806 ∧ x.length < N) (k : List Int × Unit → Option R) :
    ∀ (m i n : Nat) (out : List Int), l.length - i = m → i ≤ l.length → m < n → out.length ≤ i →
    loopP (spec_CompMatch.l5 N) n (l, p, (i : Int), out, ()) k = k (out ++ idxG p i (l.drop i), ()) := by
  intro m
  induction m with
  | zero =>
    intro i n out hm hi hn ho
    obtain ⟨n, rfl⟩ := succ_of hn
    simp only [loopP_s, spec_CompMatch.l5, pLen_d]
    rw [pLt_f (by omega), ifB_f, List.drop_eq_nil_of_le (by omega)]
    simp [idxG]
  | succ m ih =>
    intro i n out hm hi hn ho
    obtain ⟨n, rfl⟩ := succ_of hn
    have hlt : i < l.length := by omega
    have hxi := hx _ (List.getElem_mem hlt)
    simp only [loopP_s, spec_CompMatch.l5, pLen_d]
    rw [pLt_t (by omega), ifB_t, idx_lt hlt, bindO_s, spec_l06Begins_eq N _ _ hxi.1 hxi.2, bindO_s, drop_c hlt]
    cases hb : begG l[i] p with
    | true =>
      rw [ifB_t, pFit_t (by simp; omega), ifB_t, bindO_s]
      simp only []
      rw [pAdd_i (by omega) (by omega)]
      refine Eq.trans (ih (i + 1) n _ (by omega) (by omega) (by omega) (by simp [pApp]; omega)) ?_
      simp only [idxG, hb, if_true, pApp, List.append_assoc, List.singleton_append]
      rfl
    | false =>
      rw [ifB_f, bindO_s]
      simp only []
      rw [pAdd_i (by omega) (by omega)]
      refine Eq.trans (ih (i + 1) n _ (by omega) (by omega) (by omega) (by omega)) ?_
      simp only [idxG, hb, Bool.false_eq_true, if_false]
      rfl

theorem implMatch_loop {N : Nat} {R : Type} (l : List (List Int)) (p : List Int) (hl : l.length ≤ 400) (hx : ∀ x ∈ l, x.length ≤ 9223372036854775806 ∧ x.length < N) (k : List (List Int) × List Int × Unit → Option R) :
    ∀ (m i n : Nat) (o1 : List (List Int)) (o2 : List Int), l.length - i = m → i ≤ l.length → m < n → o1.length ≤ i → o2.length ≤ i →
    loopP (impl_matches.l3 N) n (p, l, (l.length : Int), (i : Int), o1, o2, ()) k = k (o1 ++ matG p (l.drop i), o2 ++ idxG p i (l.drop i), ()) := by
  intro m
  induction m with
  | zero =>
    intro i n o1 o2 hm hi hn h1 h2
    obtain ⟨n, rfl⟩ := succ_of hn
    simp only [loopP_s, impl_matches.l3]
    rw [pLt_f (by omega), ifB_f, List.drop_eq_nil_of_le (by omega)]
    simp [idxG, matG]
  | succ m ih =>
    intro i n o1 o2 hm hi hn h1 h2
    obtain ⟨n, rfl⟩ := succ_of hn
    have hlt : i < l.length := by omega
    have hxi := hx _ (List.getElem_mem hlt)
    simp only [loopP_s, impl_matches.l3]
    rw [pLt_t (by omega), ifB_t, idx_lt hlt, bindO_s, impl_begins_eq N _ _ hxi.1 hxi.2, bindO_s, drop_c hlt]
    cases hb : begG l[i] p with
    | true =>
      rw [ifB_t, pFit_t (by simp; omega), ifB_t, pFit_t (by simp; omega), ifB_t, bindO_s]
      simp only []
      rw [pAdd_i (by omega) (by omega)]
      refine Eq.trans (ih (i + 1) n _ _ (by omega) (by omega) (by omega) (by simp [pApp]; omega) (by simp [pApp]; omega)) ?_
      simp only [idxG, matG, hb, if_true, pApp, List.append_assoc, List.singleton_append, List.filter_cons]
      rfl
    | false =>
      rw [ifB_f, bindO_s]
      simp only []
      rw [pAdd_i (by omega) (by omega)]
      refine Eq.trans (ih (i + 1) n _ _ (by omega) (by omega) (by omega) (by omega) (by omega)) ?_
      simp only [idxG, matG, hb, Bool.false_eq_true, if_false, List.filter_cons]
      rfl

/-- what is asked of candidates and a prefix -/
def askG (l : List (List Int)) (p : List Int) : Bool := decide (l.length ≤ 400) && decide (p.length ≤ 400) && candsG l && ptsG p
def matchG (l : List (List Int)) (p : List Int) : List Int := if askG l p = true then idxG p 0 l else []

theorem gt_not (n : Nat) (k : Nat) : pGt (n : Int) (k : Int) = !decide (n ≤ k) := by
  rw [pGt_d]
  by_cases h : n ≤ k
  · rw [decide_eq_true h, decide_eq_false (by omega)]; rfl
  · rw [decide_eq_false h, decide_eq_true (by omega)]; rfl

theorem spec_CompMatch_eq (N : Nat) (l : List (List Int)) (p : List Int) (hN : 401 < N) (hx : ∀ x ∈ l, x.length ≤ 9223372036854775806 ∧ x.length < N) : spec_CompMatch N l p = some (matchG l p) := by
  unfold spec_CompMatch matchG
  simp only [pLen_d]
  rw [show (400 : Int) = ((400 : Nat) : Int) from rfl, gt_not, gt_not, ifB_or, bindO_s, spec_CandsRight_eq N l (by omega), bindO_s, ifB_or, bindO_s, spec_PointsRight_eq N p (by omega), bindO_s, ifB_or, bindO_s, pNot_d, pNot_d]
  have e : (((!decide (l.length ≤ 400) || !decide (p.length ≤ 400)) || !candsG l) || !ptsG p) = !askG l p := by
    unfold askG
    cases decide (l.length ≤ 400) <;> cases decide (p.length ≤ 400) <;> cases candsG l <;> cases ptsG p <;> rfl
  rw [e]
  cases ha : askG l p with
  | false => rw [Bool.not_false, ifB_t]; rfl
  | true =>
    rw [Bool.not_true, ifB_f, if_pos rfl]
    have hl : l.length ≤ 400 := by
      unfold askG at ha
      simp only [Bool.and_eq_true, decide_eq_true_eq] at ha
      exact ha.1.1.1
    have := specMatch_loop (N := N) l p hl hx (fun d => let x95 := d.1; some x95) _ 0 N [] rfl (by omega) (by omega) (by simp)
    rw [List.drop_zero] at this
    exact this

theorem impl_compAsked_eq (N : Nat) (l : List (List Int)) (p : List Int) (hl : l.length < N) (hb : l.length ≤ 9223372036854775806) (hp : p.length < N) (hpb : p.length ≤ 9223372036854775806) (hx : ∀ x ∈ l, x.length < N ∧ x.length ≤ 9223372036854775806) : impl_compAsked N l p = some (askG l p) := by
  unfold impl_compAsked impl_isMany
  simp only [pLen_d]
  rw [show (400 : Int) = ((400 : Nat) : Int) from rfl, gt_not, gt_not, bindO_s, bindO_s, ifB_and, bindO_s, impl_CandsRight_eq N l hl hb hx, bindO_s, ifB_and, bindO_s, impl_PointsRight_eq N p hp hpb, bindO_s, ifB_and, bindO_s]
  unfold askG
  simp only [pNot_d, Bool.not_not]

theorem impl_CompMatch_eq (N : Nat) (l : List (List Int)) (p : List Int) (hl : l.length < N) (hb : l.length ≤ 9223372036854775806) (hp : p.length < N) (hpb : p.length ≤ 9223372036854775806) (hx : ∀ x ∈ l, x.length < N ∧ x.length ≤ 9223372036854775806) : impl_CompMatch N l p = some (matchG l p) := by
  unfold impl_CompMatch matchG
  rw [impl_compAsked_eq N l p hl hb hp hpb hx, bindO_s, pNot_d]
  cases ha : askG l p with
  | false => rw [Bool.not_false, ifB_t]; rfl
  | true =>
    rw [Bool.not_true, ifB_f, if_pos rfl]
    have hl4 : l.length ≤ 400 := by
      unfold askG at ha
      simp only [Bool.and_eq_true, decide_eq_true_eq] at ha
      exact ha.1.1.1
    unfold impl_matches
    have := implMatch_loop (N := N) l p hl4 (fun x h => ⟨(hx x h).2, (hx x h).1⟩) (fun d => let x110 := d.1; let x111 := d.2.1; some (x110, x111)) _ 0 N [] [] rfl (by omega) (by omega) (by simp) (by simp)
    rw [List.drop_zero] at this
    rw [pLen_d]
    refine Eq.trans (congrArg (fun m => bindO m fun y3 => some y3.2) this) ?_
    rfl

end Go.AE.F
