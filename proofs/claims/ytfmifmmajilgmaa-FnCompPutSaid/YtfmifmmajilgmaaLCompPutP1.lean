/- Plain laws of those functions. -/
import Derived.Test.YtfmifmmajilgmaaLCompPutF1
import Derived.IntWalk
namespace Go.AE
theorem ifB_t {R : Type} {a b : Option R} : ifB true a b = a := rfl
theorem ifB_f {R : Type} {a b : Option R} : ifB false a b = b := rfl
theorem bindO_s {A R : Type} {x : A} {f : A → Option R} : bindO (some x) f = f x := rfl
theorem loopP_s {D E R : Type} {step : D → (D → Option R) → (E → Option R) → Option R} {n : Nat} {d : D} {k : E → Option R} : loopP step (n + 1) d k = step d (fun d' => loopP step n d' k) k := rfl

theorem wrap_i64 {n : Int} (h1 : -9223372036854775808 ≤ n) (h2 : n ≤ 9223372036854775807) : IntKind.i64.wrap n = n := IntWalk.i64_in n ⟨h1, h2⟩
theorem pAdd_i {a b : Int} (h1 : -9223372036854775808 ≤ a + b) (h2 : a + b ≤ 9223372036854775807) : pAdd .i64 a b = a + b := wrap_i64 h1 h2
theorem pSub_i {a b : Int} (h1 : -9223372036854775808 ≤ a - b) (h2 : a - b ≤ 9223372036854775807) : pSub .i64 a b = a - b := wrap_i64 h1 h2

theorem pLt_t {a b : Int} (h : a < b) : pLt a b = true := decide_eq_true h
theorem pLt_f {a b : Int} (h : b ≤ a) : pLt a b = false := decide_eq_false (by omega)
theorem pLe_t {a b : Int} (h : a ≤ b) : pLe a b = true := decide_eq_true h
theorem pLe_f {a b : Int} (h : b < a) : pLe a b = false := decide_eq_false (by omega)
theorem pGt_t {a b : Int} (h : b < a) : pGt a b = true := decide_eq_true h
theorem pGt_f {a b : Int} (h : a ≤ b) : pGt a b = false := decide_eq_false (by omega)
theorem pGe_t {a b : Int} (h : b ≤ a) : pGe a b = true := decide_eq_true h
theorem pGe_f {a b : Int} (h : a < b) : pGe a b = false := decide_eq_false (by omega)
theorem pEq_t {a b : Int} (h : a = b) : pEq a b = true := by subst h; simp [pEq]
theorem pEq_f {a b : Int} (h : a ≠ b) : pEq a b = false := by simp [pEq, h]
theorem pNe_t {a b : Int} (h : a ≠ b) : pNe a b = true := by simp [pNe, h]
theorem pNe_f {a b : Int} (h : a = b) : pNe a b = false := by subst h; simp [pNe]
theorem pFit_t {A : Type} {xs ys : List A} (h : xs.length + ys.length ≤ 68719476736) : pFit xs ys = true := decide_eq_true h

theorem idx_n {A : Type} (xs : List A) (i : Nat) : idx xs (i : Int) = xs[i]? := by
  unfold idx; rw [if_pos (by omega)]; rfl
theorem idx_lt {A : Type} {xs : List A} {i : Nat} (h : i < xs.length) : idx xs (i : Int) = some xs[i] := by rw [idx_n]; simp [h]
theorem pSEq_self (a : ByteArray) : pSEq a a = true := by unfold pSEq; exact beq_self_eq_true _

end Go.AE
namespace Go.AE
theorem ifB_or {c d : Bool} : ifB c (some true) (some d) = some (c || d) := by cases c <;> rfl
theorem ifB_and {c d : Bool} : ifB c (some d) (some false) = some (c && d) := by cases c <;> rfl
theorem ifB_some {A : Type} {c : Bool} {a b : A} : ifB c (some a) (some b) = some (if c = true then a else b) := by cases c <;> rfl
theorem pNot_d {b : Bool} : pNot b = !b := rfl
theorem pGe_d {a b : Int} : pGe a b = decide (a ≥ b) := rfl
theorem pGt_d {a b : Int} : pGt a b = decide (a > b) := rfl
theorem pLe_d {a b : Int} : pLe a b = decide (a ≤ b) := rfl
theorem pEq_d {a b : Int} : pEq a b = decide (a = b) := by
  by_cases h : a = b
  · rw [pEq_t h, decide_eq_true h]
  · rw [pEq_f h, decide_eq_false h]
theorem pNe_d {a b : Int} : pNe a b = !decide (a = b) := by
  by_cases h : a = b
  · rw [pNe_f h, decide_eq_true h]; rfl
  · rw [pNe_t h, decide_eq_false h]; rfl
theorem pLen_d {A : Type} {xs : List A} : pLen xs = (xs.length : Int) := rfl

theorem succ_of {m N : Nat} (h : m < N) : ∃ q, N = q + 1 := ⟨N - 1, by omega⟩

theorem drop_c {A : Type} {l : List A} {i : Nat} (h : i < l.length) : l.drop i = l[i] :: l.drop (i + 1) := List.drop_eq_getElem_cons h

/-- a search: the first that is met -/
theorem find_loop {A R : Type} {P : A → Option Bool} {p : A → Bool} {xs : List A} (hx : xs.length ≤ 9223372036854775806) {step : List A × Int × Int × Unit → (List A × Int × Int × Unit → Option R) → (Unit ⊕ (Int × Unit) → Option R) → Option R}
    (hs : ∀ i kn kx, step (xs, (xs.length : Int), i, ()) kn kx = ifB (pLt i xs.length) (bindO (idx xs i) fun y => bindO (P y) fun b => ifB b (kx (.inr (i, ()))) (kn (xs, (xs.length : Int), pAdd .i64 i 1, ()))) (kx (.inl ())))
    (hP : ∀ x ∈ xs, P x = some (p x)) (k : Unit ⊕ (Int × Unit) → Option R) : ∀ (m i n : Nat), xs.length - i = m → i ≤ xs.length → m < n →
    loopP step n (xs, (xs.length : Int), (i : Int), ()) k = match (xs.drop i).findIdx? p with | none => k (.inl ()) | some j => k (.inr (((i + j : Nat) : Int), ())) := by
  intro m
  induction m with
  | zero =>
    intro i n hm hi hn
    obtain ⟨n, rfl⟩ := succ_of hn
    rw [loopP_s, hs, pLt_f (by omega), ifB_f, List.drop_eq_nil_of_le (by omega)]
    rfl
  | succ m ih =>
    intro i n hm hi hn
    obtain ⟨n, rfl⟩ := succ_of hn
    have hlt : i < xs.length := by omega
    rw [loopP_s, hs, pLt_t (by omega), ifB_t, idx_lt hlt, bindO_s, hP _ (List.getElem_mem hlt), bindO_s, drop_c hlt, List.findIdx?_cons]
    cases hp : p xs[i] with
    | true => rw [ifB_t]; rfl
    | false =>
      rw [ifB_f, pAdd_i (by omega) (by omega)]
      have := ih (i + 1) n (by omega) (by omega) (by omega)
      refine Eq.trans this ?_
      cases h : (xs.drop (i + 1)).findIdx? p with
      | none => simp
      | some j =>
        simp only [Bool.false_eq_true, if_false, Option.map_some]
        congr 4
        omega

theorem find_any {A : Type} {p : A → Bool} {xs : List A} : (match xs.findIdx? p with | none => (-1 : Int) | some j => (j : Int)) ≥ 0 ↔ xs.any p = true := by
  cases h : xs.findIdx? p with
  | none =>
    simp only [List.findIdx?_eq_none_iff] at h
    constructor
    · intro q; simp at q
    · intro q
      obtain ⟨x, hx, hp⟩ := List.any_eq_true.1 q
      rw [h x hx] at hp; cases hp
  | some j =>
    rw [List.findIdx?_eq_some_iff_getElem] at h
    obtain ⟨hj, hp, _⟩ := h
    constructor
    · intro _; exact List.any_eq_true.2 ⟨_, List.getElem_mem hj, hp⟩
    · intro _; simp

/-- a check of all: the first that fails ends it -/
theorem all_loop {A R : Type} {P : A → Option Bool} {p : A → Bool} {xs : List A} (hx : xs.length ≤ 9223372036854775806) {step : List A × Int × Unit → (List A × Int × Unit → Option R) → (Unit ⊕ (Bool × Unit) → Option R) → Option R}
    (hs : ∀ i kn kx, step (xs, i, ()) kn kx = ifB (pLt i xs.length) (bindO (idx xs i) fun y => bindO (P y) fun b => ifB (pNot b) (kx (.inr (false, ()))) (kn (xs, pAdd .i64 i 1, ()))) (kx (.inl ())))
    (hP : ∀ x ∈ xs, P x = some (p x)) (k : Unit ⊕ (Bool × Unit) → Option R) : ∀ (m i n : Nat), xs.length - i = m → i ≤ xs.length → m < n →
    loopP step n (xs, (i : Int), ()) k = if (xs.drop i).all p = true then k (.inl ()) else k (.inr (false, ())) := by
  intro m
  induction m with
  | zero =>
    intro i n hm hi hn
    obtain ⟨n, rfl⟩ := succ_of hn
    rw [loopP_s, hs, pLt_f (by omega), ifB_f, List.drop_eq_nil_of_le (by omega)]
    rfl
  | succ m ih =>
    intro i n hm hi hn
    obtain ⟨n, rfl⟩ := succ_of hn
    have hlt : i < xs.length := by omega
    rw [loopP_s, hs, pLt_t (by omega), ifB_t, idx_lt hlt, bindO_s, hP _ (List.getElem_mem hlt), bindO_s, drop_c hlt, List.all_cons]
    cases hp : p xs[i] with
    | false => simp [pNot_d, ifB_t]
    | true =>
      rw [pNot_d, Bool.not_true, ifB_f, pAdd_i (by omega) (by omega), Bool.true_and]
      exact ih (i + 1) n (by omega) (by omega) (by omega)

/-- two rows, compared element by element -/
theorem eq_loop {A R : Type} {P : A → A → Option Bool} {xs ys : List A} (hx : xs.length ≤ 9223372036854775806) (hl : xs.length = ys.length) {step : List A × List A × Int × Unit → (List A × List A × Int × Unit → Option R) → (Unit ⊕ (Bool × Unit) → Option R) → Option R}
    (hs : ∀ i kn kx, step (xs, ys, i, ()) kn kx = ifB (pLt i xs.length) (bindO (idx xs i) fun x => bindO (idx ys i) fun y => bindO (P x y) fun b => ifB b (kx (.inr (false, ()))) (kn (xs, ys, pAdd .i64 i 1, ()))) (kx (.inl ())))
    (hP : ∀ x ∈ xs, ∀ y ∈ ys, ∃ b, P x y = some b ∧ (b = true ↔ x ≠ y)) (k : Unit ⊕ (Bool × Unit) → Option R) : ∀ (m i n : Nat), xs.length - i = m → i ≤ xs.length → m < n →
    (xs.drop i = ys.drop i → loopP step n (xs, ys, (i : Int), ()) k = k (.inl ())) ∧ (xs.drop i ≠ ys.drop i → loopP step n (xs, ys, (i : Int), ()) k = k (.inr (false, ()))) := by
  intro m
  induction m with
  | zero =>
    intro i n hm hi hn
    obtain ⟨n, rfl⟩ := succ_of hn
    rw [loopP_s, hs, pLt_f (by omega), ifB_f, List.drop_eq_nil_of_le (by omega), List.drop_eq_nil_of_le (by omega)]
    exact ⟨fun _ => rfl, fun h => absurd rfl h⟩
  | succ m ih =>
    intro i n hm hi hn
    obtain ⟨n, rfl⟩ := succ_of hn
    have hlt : i < xs.length := by omega
    have hlt2 : i < ys.length := by omega
    obtain ⟨b, hb, hbe⟩ := hP _ (List.getElem_mem hlt) _ (List.getElem_mem hlt2)
    rw [loopP_s, hs, pLt_t (by omega), ifB_t, idx_lt hlt, bindO_s, idx_lt hlt2, bindO_s, hb, bindO_s, drop_c hlt, drop_c hlt2, List.cons.injEq]
    obtain ⟨i1, i2⟩ := ih (i + 1) n (by omega) (by omega) (by omega)
    cases b with
    | true =>
      have := hbe.1 rfl
      exact ⟨fun h => absurd h.1 this, fun _ => by rw [ifB_t]⟩
    | false =>
      have he : xs[i] = ys[i] := Classical.byContradiction fun h => by cases hbe.2 h
      rw [ifB_f, pAdd_i (by omega) (by omega)]
      exact ⟨fun h => i1 h.2, fun h => i2 fun q => h (by rw [he, q])⟩

end Go.AE
namespace Go.AE.F
open Go.AE
/-- is it a point? -/
def ptG (a : Int) : Bool := decide (0 ≤ a) && decide (a ≤ 1114111) && !(decide (55296 ≤ a) && decide (a ≤ 57343))
/-- a point's class -/
def classG (a : Int) : Int :=
  if ptG a = true then (if a = 32 ∨ a = 9 ∨ a = 10 then 1 else if (97 ≤ a ∧ a ≤ 122) ∨ (65 ≤ a ∧ a ≤ 90) ∨ (48 ≤ a ∧ a ≤ 57) ∨ a = 95 ∨ 128 ≤ a then 2 else 3) else 0

theorem spec_l01Point_eq (N : Nat) (a : Int) : spec_l01Point N a = some (ptG a) := by
  unfold spec_l01Point ptG
  simp only [ifB_or, ifB_and, bindO_s, pNot_d, pGe_d, pLe_d]

theorem impl_within_eq (N : Nat) (a b c : Int) : impl_within N a b c = some (decide (b ≤ a) && decide (a ≤ c)) := by
  unfold impl_within
  simp only [ifB_and, bindO_s, pLe_d]

theorem impl_isPoint_eq (N : Nat) (a : Int) : impl_isPoint N a = some (ptG a) := by
  unfold impl_isPoint ptG
  simp only [impl_within_eq, ifB_and, bindO_s, pNot_d]

theorem if_b {A : Type} {b : Bool} {p : Prop} [Decidable p] (h : b = true ↔ p) (x y : A) : (if b = true then x else y) = if p then x else y := by
  by_cases hp : p
  · rw [if_pos hp, if_pos (h.2 hp)]
  · rw [if_neg hp, if_neg (fun q => hp (h.1 q))]

theorem spec_ClassOf_eq (N : Nat) (a : Int) : spec_ClassOf N a = some (classG a) := by
  unfold spec_ClassOf classG
  simp only [spec_l01Point_eq, ifB_or, ifB_and, ifB_some, bindO_s, pNot_d, pGe_d, pLe_d, pEq_d]
  congr 1
  cases hp : ptG a with
  | false => rfl
  | true =>
    simp only [Bool.not_true, Bool.false_eq_true, if_false, if_true]
    rw [if_b (p := a = 32 ∨ a = 9 ∨ a = 10) (by simp [or_assoc])]
    congr 1
    rw [if_b (p := (97 ≤ a ∧ a ≤ 122) ∨ (65 ≤ a ∧ a ≤ 90) ∨ (48 ≤ a ∧ a ≤ 57) ∨ a = 95 ∨ 128 ≤ a) (by simp [or_assoc])]

theorem impl_ClassOf_eq (N : Nat) (a : Int) : impl_ClassOf N a = some (classG a) := by
  unfold impl_ClassOf classG
  simp only [impl_isPoint_eq, impl_within_eq, ifB_or, ifB_and, ifB_some, bindO_s, pNot_d, pGe_d, pLe_d, pEq_d]
  congr 1
  cases hp : ptG a with
  | false => rfl
  | true =>
    simp only [Bool.not_true, Bool.false_eq_true, if_false, if_true]
    rw [if_b (p := a = 32 ∨ a = 9 ∨ a = 10) (by simp [or_assoc])]
    congr 1
    rw [if_b (p := (97 ≤ a ∧ a ≤ 122) ∨ (65 ≤ a ∧ a ≤ 90) ∨ (48 ≤ a ∧ a ≤ 57) ∨ a = 95 ∨ 128 ≤ a) (by simp; omega)]

end Go.AE.F
namespace Go.AE.F
open Go.AE
/-- a candidate is right -/
def candG (x : List Int) : Bool := decide (1 ≤ x.length) && decide (x.length ≤ 40) && x.all fun a => decide (classG a = 2)
def candsG (l : List (List Int)) : Bool := decide (l.length ≤ 40) && l.all candG

theorem impl_c1_c1_eq (N : Nat) (a : Int) : impl_CandsRight_c1_c1 N a = some (!decide (classG a = 2)) := by
  unfold impl_CandsRight_c1_c1
  rw [impl_ClassOf_eq, bindO_s, pNe_d]

theorem contains_c1_c1 (N : Nat) (l : List Int) (hl : l.length < N) (hb : l.length ≤ 9223372036854775806) : slices_ContainsFunc_Sint64_int64__impl_CandsRight_c1_c1 N l = some (l.any fun a => !decide (classG a = 2)) := by
  unfold slices_ContainsFunc_Sint64_int64__impl_CandsRight_c1_c1 slices_IndexFunc_Sint64_int64__impl_CandsRight_c1_c1
  have := find_loop (R := Int) (P := impl_CandsRight_c1_c1 N) (p := fun a => !decide (classG a = 2)) (xs := l) hb (step := slices_IndexFunc_Sint64_int64__impl_CandsRight_c1_c1.l2 N) (fun i kn kx => rfl) (fun x _ => impl_c1_c1_eq N x)
    (onSum (fun d => some (-1)) (fun d => let x43 := d.1; some x43)) _ 0 N rfl (by omega) (by omega)
  rw [List.drop_zero] at this
  rw [pLen_d, show (0 : Int) = ((0 : Nat) : Int) from rfl, this]
  have h := find_any (p := fun a => !decide (classG a = 2)) (xs := l)
  cases hf : l.findIdx? (fun a => !decide (classG a = 2)) with
  | none =>
    rw [hf] at h
    show some (pGe (-1) 0) = _
    rw [pGe_f (by omega)]
    congr 1
    cases ha : l.any (fun a => !decide (classG a = 2)) with
    | false => rfl
    | true => have := h.2 ha; simp at this
  | some j =>
    rw [hf] at h
    show some (pGe (((0 + j : Nat) : Int)) 0) = _
    rw [pGe_t (by omega)]
    congr 1
    exact (h.1 (by simp)).symm

theorem not_any {A : Type} {p : A → Bool} : ∀ {l : List A}, (!l.any fun a => !p a) = l.all p
  | [] => rfl
  | a :: l => by rw [List.any_cons, List.all_cons, ← not_any]; cases p a <;> simp

theorem impl_c1_eq (N : Nat) (l : List Int) (hl : l.length < N) (hb : l.length ≤ 9223372036854775806) : impl_CandsRight_c1 N l = some (!candG l) := by
  unfold impl_CandsRight_c1 impl_size_Sint64
  rw [contains_c1_c1 N l hl hb, bindO_s, impl_within_eq, bindO_s, bindO_s, ifB_or, bindO_s, pNot_d]
  congr 1
  unfold candG
  rw [← not_any (p := fun a => decide (classG a = 2)), pLen_d]
  rw [show decide ((1 : Int) ≤ (l.length : Int)) = decide (1 ≤ l.length) from by congr 1; simp; omega, show decide ((l.length : Int) ≤ (40 : Int)) = decide (l.length ≤ 40) from by congr 1; simp; omega]
  cases decide (1 ≤ l.length) <;> cases decide (l.length ≤ 40) <;> simp

theorem impl_CandsRight_eq (N : Nat) (l : List (List Int)) (hl : l.length < N) (hb : l.length ≤ 9223372036854775806) (hx : ∀ x ∈ l, x.length < N ∧ x.length ≤ 9223372036854775806) : impl_CandsRight N l = some (candsG l) := by
  unfold impl_CandsRight slices_ContainsFunc_S_Sint64__Sint64__impl_CandsRight_c1 slices_IndexFunc_S_Sint64__Sint64__impl_CandsRight_c1
  have := find_loop (R := Int) (P := impl_CandsRight_c1 N) (p := fun a => !candG a) (xs := l) hb (step := slices_IndexFunc_S_Sint64__Sint64__impl_CandsRight_c1.l2 N) (fun i kn kx => rfl) (fun x h => impl_c1_eq N x (hx x h).1 (hx x h).2)
    (onSum (fun d => some (-1)) (fun d => let x43 := d.1; some x43)) _ 0 N rfl (by omega) (by omega)
  rw [List.drop_zero] at this
  rw [pLen_d, show (0 : Int) = ((0 : Nat) : Int) from rfl, this]
  have h := find_any (p := fun a => !candG a) (xs := l)
  unfold candsG
  rw [← not_any (p := candG)]
  have e40 : pLe (l.length : Int) 40 = decide (l.length ≤ 40) := by rw [pLe_d]; congr 1; simp; omega
  rw [e40]
  cases hf : l.findIdx? (fun a => !candG a) with
  | none =>
    rw [hf] at h
    have ha : l.any (fun a => !candG a) = false := by
      cases ha : l.any (fun a => !candG a) with
      | false => rfl
      | true => have := h.2 ha; simp at this
    rw [ha]
    cases decide (l.length ≤ 40) <;> rfl
  | some j =>
    rw [hf] at h
    have ha : l.any (fun a => !candG a) = true := h.1 (by simp)
    rw [ha]
    show (bindO (ifB (decide (l.length ≤ 40)) (bindO (bindO (some ((0 + j : Nat) : Int)) fun y1 => some (pGe y1 0)) fun y3 => some (pNot y3)) (some false)) fun y2 => some y2) = _
    rw [bindO_s, pGe_t (by omega)]
    cases decide (l.length ≤ 40) <;> rfl

theorem spec_in_loop {N : Nat} {R : Type} (l : List (List Int)) (i : Nat) (hi : i < l.length) (hb : l[i].length ≤ 40) (k : (List (List Int) × Int × Unit) ⊕ (Bool × Unit) → Option R) :
    ∀ (m j n : Nat), l[i].length - j = m → j ≤ l[i].length → m < n →
    loopP (spec_CandsRight.l9 N) n (l, (i : Int), (j : Int), ()) k = if (l[i].drop j).all (fun a => decide (classG a = 2)) = true then k (.inl (l, (i : Int), ())) else k (.inr (false, ())) := by
  intro m
  induction m with
  | zero =>
    intro j n hm hj hn
    obtain ⟨n, rfl⟩ := succ_of hn
    simp only [loopP_s, spec_CandsRight.l9, pLen_d]
    rw [idx_lt hi, bindO_s, pLt_f (by omega), ifB_f, List.drop_eq_nil_of_le (by omega)]
    rfl
  | succ m ih =>
    intro j n hm hj hn
    obtain ⟨n, rfl⟩ := succ_of hn
    have hlt : j < l[i].length := by omega
    simp only [loopP_s, spec_CandsRight.l9, pLen_d]
    rw [idx_lt hi, bindO_s, pLt_t (by omega), ifB_t, bindO_s, idx_lt hlt, bindO_s, spec_ClassOf_eq, bindO_s, drop_c hlt, List.all_cons]
    by_cases hc : classG l[i][j] = 2
    · rw [pNe_f hc, ifB_f, pAdd_i (by omega) (by omega), decide_eq_true hc, Bool.true_and]
      exact ih (j + 1) n (by omega) (by omega) (by omega)
    · rw [pNe_t hc, ifB_t, decide_eq_false hc, Bool.false_and]
      simp

theorem spec_out_loop {N : Nat} {R : Type} (l : List (List Int)) (hl : l.length ≤ 40) (hN : 41 < N) (k : Unit ⊕ (Bool × Unit) → Option R) :
    ∀ (m i n : Nat), l.length - i = m → i ≤ l.length → m < n →
    loopP (spec_CandsRight.l4 N) n (l, (i : Int), ()) k = if (l.drop i).all candG = true then k (.inl ()) else k (.inr (false, ())) := by
  intro m
  induction m with
  | zero =>
    intro i n hm hi hn
    obtain ⟨n, rfl⟩ := succ_of hn
    simp only [loopP_s, spec_CandsRight.l4, pLen_d]
    rw [pLt_f (by omega), ifB_f, List.drop_eq_nil_of_le (by omega)]
    rfl
  | succ m ih =>
    intro i n hm hi hn
    obtain ⟨n, rfl⟩ := succ_of hn
    have hlt : i < l.length := by omega
    simp only [loopP_s, spec_CandsRight.l4, pLen_d]
    rw [pLt_t (by omega), ifB_t, idx_lt hlt, bindO_s, bindO_s, ifB_or, bindO_s, drop_c hlt, List.all_cons]
    by_cases h1 : l[i].length < 1
    · rw [pLt_t (by omega), Bool.true_or, ifB_t]
      have : candG l[i] = false := by unfold candG; rw [decide_eq_false (by omega)]; rfl
      rw [this]; simp
    · by_cases h2 : 40 < l[i].length
      · rw [pGt_t (by omega), Bool.or_true, ifB_t]
        have : candG l[i] = false := by unfold candG; rw [decide_eq_false (p := l[i].length ≤ 40) (by omega)]; simp
        rw [this]; simp
      · rw [pLt_f (by omega), pGt_f (by omega), Bool.or_self, ifB_f]
        have hin := spec_in_loop (N := N) l i hlt (by omega) (onSum (fun d => let x442 := d.1; let x443 := d.2.1; loopP (spec_CandsRight.l4 N) n (x442, pAdd .i64 x443 1, ()) k) (fun d => let x444 := d.1; k (.inr (x444, ())))) _ 0 N rfl (by omega) (by omega)
        rw [List.drop_zero] at hin
        refine Eq.trans hin ?_
        have hc : candG l[i] = l[i].all fun a => decide (classG a = 2) := by unfold candG; rw [decide_eq_true (by omega), decide_eq_true (by omega)]; rfl
        rw [hc]
        cases ha : l[i].all fun a => decide (classG a = 2) with
        | false => simp [onSum]
        | true =>
          simp only [if_true, onSum, Bool.true_and]
          rw [pAdd_i (by omega) (by omega)]
          exact ih (i + 1) n (by omega) (by omega) (by omega)

theorem spec_CandsRight_eq (N : Nat) (l : List (List Int)) (hN : 41 < N) : spec_CandsRight N l = some (candsG l) := by
  unfold spec_CandsRight candsG
  rw [pLen_d]
  by_cases h : l.length ≤ 40
  · rw [pGt_f (by omega), ifB_f, decide_eq_true h, Bool.true_and]
    have := spec_out_loop (N := N) l h hN (onSum (fun d => some true) (fun d => let x445 := d.1; some x445)) _ 0 N rfl (by omega) (by omega)
    rw [List.drop_zero] at this
    refine Eq.trans this ?_
    cases l.all candG <;> rfl
  · rw [pGt_t (by omega), ifB_t, decide_eq_false h]; rfl

end Go.AE.F
namespace Go.AE.F
open Go.AE
def ptsG (l : List Int) : Bool := decide (l.length ≤ 300) && l.all ptG

theorem spec_PointsRight_eq (N : Nat) (l : List Int) (hN : 301 < N) : spec_PointsRight N l = some (ptsG l) := by
  unfold spec_PointsRight ptsG
  rw [pLen_d]
  by_cases h : l.length ≤ 300
  · rw [pGt_f (by omega), ifB_f, decide_eq_true h, Bool.true_and]
    have := all_loop (R := Bool) (P := spec_l01Point N) (p := ptG) (xs := l) (by omega) (step := spec_PointsRight.l4 N) (fun i kn kx => by simp only [spec_PointsRight.l4, pLen_d]) (fun x _ => spec_l01Point_eq N x)
      (onSum (fun d => some true) (fun d => let x37 := d.1; some x37)) _ 0 N rfl (by omega) (by omega)
    rw [List.drop_zero] at this
    refine Eq.trans this ?_
    cases l.all ptG <;> rfl
  · rw [pGt_t (by omega), ifB_t, decide_eq_false h]; rfl

/-- a search for what fails, over any kind -/
theorem contains_all {A : Type} {N : Nat} {P : A → Option Bool} {p : A → Bool} {l : List A} (hl : l.length < N) (hb : l.length ≤ 9223372036854775806) {step : {R : Type} → List A × Int × Int × Unit → (List A × Int × Int × Unit → Option R) → (Unit ⊕ (Int × Unit) → Option R) → Option R}
    (hs : ∀ i kn kx, step (R := Int) (l, (l.length : Int), i, ()) kn kx = ifB (pLt i l.length) (bindO (idx l i) fun y => bindO (P y) fun b => ifB b (kx (.inr (i, ()))) (kn (l, (l.length : Int), pAdd .i64 i 1, ()))) (kx (.inl ())))
    (hP : ∀ x ∈ l, P x = some (!p x)) :
    (bindO (loopP (R := Int) step N (l, (l.length : Int), (0 : Int), ()) (onSum (fun _ => some (-1)) (fun d => let x43 := d.1; some x43))) fun y1 => some (pGe y1 0)) = some (!l.all p) := by
  have := find_loop (R := Int) (P := P) (p := fun a => !p a) (xs := l) hb (step := step) hs hP (onSum (fun _ => some (-1)) (fun d => let x43 := d.1; some x43)) _ 0 N rfl (by omega) (by omega)
  rw [List.drop_zero] at this
  rw [show (0 : Int) = ((0 : Nat) : Int) from rfl, this]
  have h := find_any (p := fun a => !p a) (xs := l)
  rw [← not_any (p := p)]
  cases hf : l.findIdx? (fun a => !p a) with
  | none =>
    rw [hf] at h
    have ha : l.any (fun a => !p a) = false := by
      cases ha : l.any (fun a => !p a) with
      | false => rfl
      | true => have := h.2 ha; simp at this
    rw [ha]; rfl
  | some j =>
    rw [hf] at h
    have ha : l.any (fun a => !p a) = true := h.1 (by simp)
    rw [ha]
    show (bindO (some ((0 + j : Nat) : Int)) fun y1 => some (pGe y1 0)) = _
    rw [bindO_s, pGe_t (by omega)]; rfl

theorem impl_PointsRight_eq (N : Nat) (l : List Int) (hl : l.length < N) (hb : l.length ≤ 9223372036854775806) : impl_PointsRight N l = some (ptsG l) := by
  unfold impl_PointsRight slices_ContainsFunc_Sint64_int64__impl_PointsRight_c1 slices_IndexFunc_Sint64_int64__impl_PointsRight_c1 ptsG
  rw [pLen_d, contains_all (P := impl_PointsRight_c1 N) (p := ptG) (step := fun {R} => slices_IndexFunc_Sint64_int64__impl_PointsRight_c1.l2 (R := R) N) hl hb (fun i kn kx => rfl) (fun x _ => by unfold impl_PointsRight_c1; rw [impl_isPoint_eq, bindO_s, pNot_d]), bindO_s]
  have e : pLe (l.length : Int) 300 = decide (l.length ≤ 300) := by rw [pLe_d]; congr 1; simp; omega
  rw [e, ifB_and, bindO_s, pNot_d]
  simp

theorem spec_l01Same_eq (N : Nat) (a b : List Int) (ha : a.length ≤ 9223372036854775806) (hN : a.length < N) : spec_l01Same N a b = some (decide (a = b)) := by
  unfold spec_l01Same
  simp only [pLen_d]
  by_cases hl : a.length = b.length
  · rw [pNe_f (by omega), ifB_f]
    obtain ⟨h1, h2⟩ := eq_loop (R := Bool) (P := fun x y => some (pNe x y)) (xs := a) (ys := b) ha hl (step := spec_l01Same.l4 N) (fun i kn kx => by simp only [spec_l01Same.l4, bindO_s, pLen_d])
      (fun x _ y _ => ⟨_, rfl, by rw [pNe_d]; simp⟩) (onSum (fun _ => some true) (fun d => let x43 := d.1; some x43)) _ 0 N rfl (by omega) (by omega)
    rw [List.drop_zero, List.drop_zero] at h1 h2
    by_cases he : a = b
    · rw [decide_eq_true he]; exact h1 he
    · rw [decide_eq_false he]; exact h2 he
  · rw [pNe_t (by omega), ifB_t, decide_eq_false (fun h => hl (by rw [h]))]

theorem slEq_loop {N : Nat} {R : Type} (a b : List Int) (ha : a.length ≤ 9223372036854775806) (hl : a.length = b.length) (k : Unit ⊕ (Bool × Unit) → Option R) : ∀ (m i n : Nat), a.length - i = m → i ≤ a.length → m < n →
    loopP (slices_Equal_Sint64_int64.l4 N) n (a, b, (a.length : Int), (i : Int), ()) k = if a.drop i = b.drop i then k (.inl ()) else k (.inr (false, ())) := by
  intro m
  induction m with
  | zero =>
    intro i n hm hi hn
    obtain ⟨n, rfl⟩ := succ_of hn
    simp only [loopP_s, slices_Equal_Sint64_int64.l4]
    rw [pLt_f (by omega), ifB_f, List.drop_eq_nil_of_le (by omega), List.drop_eq_nil_of_le (by omega), if_pos rfl]
  | succ m ih =>
    intro i n hm hi hn
    obtain ⟨n, rfl⟩ := succ_of hn
    have h1 : i < a.length := by omega
    have h2 : i < b.length := by omega
    simp only [loopP_s, slices_Equal_Sint64_int64.l4]
    rw [pLt_t (by omega), ifB_t, idx_lt h1, bindO_s, idx_lt h2, bindO_s, drop_c h1, drop_c h2]
    by_cases he : a[i] = b[i]
    · rw [pNe_f he, ifB_f, pAdd_i (by omega) (by omega)]
      refine Eq.trans (ih (i + 1) n (by omega) (by omega) (by omega)) ?_
      by_cases hd : a.drop (i + 1) = b.drop (i + 1)
      · rw [if_pos hd, if_pos (by rw [he, hd])]
      · rw [if_neg hd, if_neg (fun q => hd (List.cons.inj q).2)]
    · rw [pNe_t he, ifB_t, if_neg (fun q => he (List.cons.inj q).1)]

theorem slices_Equal_eq (N : Nat) (a b : List Int) (ha : a.length ≤ 9223372036854775806) (hN : a.length < N) : slices_Equal_Sint64_int64 N a b = some (decide (a = b)) := by
  unfold slices_Equal_Sint64_int64
  simp only [pLen_d]
  by_cases hl : a.length = b.length
  · rw [pNe_f (by omega), ifB_f]
    have := slEq_loop (N := N) a b ha hl (onSum (fun _ => some true) (fun d => let x49 := d.1; some x49)) _ 0 N rfl (by omega) (by omega)
    rw [List.drop_zero, List.drop_zero] at this
    refine Eq.trans this ?_
    by_cases he : a = b
    · rw [decide_eq_true he, if_pos he]; rfl
    · rw [decide_eq_false he, if_neg he]; rfl
  · rw [pNe_t (by omega), ifB_t, decide_eq_false (fun h => hl (by rw [h]))]

def begG (x p : List Int) : Bool := decide (p.length ≤ x.length) && decide (x.take p.length = p)

theorem sub_take {A : Type} (x : List A) (n : Nat) : sub x 0 (n : Int) = x.take n := by simp [sub]

theorem spec_l06Begins_eq (N : Nat) (x p : List Int) (hx : x.length ≤ 9223372036854775806) (hN : x.length < N) : spec_l06Begins N x p = some (begG x p) := by
  unfold spec_l06Begins begG
  simp only [pLen_d]
  by_cases h : p.length ≤ x.length
  · rw [pGe_t (by omega), ifB_t, pLe_t (by omega), ifB_t, pLe_t (by omega), ifB_t, pLe_t (by omega), ifB_t, sub_take, spec_l01Same_eq N _ p (by simp; omega) (by simp; omega), decide_eq_true h]
    rfl
  · rw [pGe_f (by omega), ifB_f, decide_eq_false h]; rfl

theorem impl_begins_eq (N : Nat) (x p : List Int) (hx : x.length ≤ 9223372036854775806) (hN : x.length < N) : impl_begins N x p = some (begG x p) := by
  unfold impl_begins begG
  simp only [pLen_d]
  by_cases h : p.length ≤ x.length
  · rw [pGe_t (by omega), ifB_t, pLe_t (by omega), ifB_t, pLe_t (by omega), ifB_t, pLe_t (by omega), ifB_t, sub_take, slices_Equal_eq N _ p (by simp; omega) (by simp; omega), decide_eq_true h]
    rfl
  · rw [pGe_f (by omega), ifB_f, decide_eq_false h]; rfl

def idxG (p : List Int) : Int → List (List Int) → List Int
  | _, [] => []
  | i, x :: l => if begG x p = true then i :: idxG p (i + 1) l else idxG p (i + 1) l
def matG (p : List Int) (l : List (List Int)) : List (List Int) := l.filter fun x => begG x p

theorem idxG_len (p : List Int) : ∀ (l : List (List Int)) (i : Int), (idxG p i l).length ≤ l.length
  | [], i => by simp [idxG]
  | x :: l, i => by
    have := idxG_len p l (i + 1)
    simp only [idxG]
    split <;> simp <;> omega

theorem specMatch_loop {N : Nat} {R : Type} (l : List (List Int)) (p : List Int) (hl : l.length ≤ 400) (hx : ∀ x ∈ l, x.length ≤ 9223372036854775806 ∧ x.length < N) (k : List Int × Unit → Option R) :
    ∀ (m i n : Nat) (out : List Int), l.length - i = m → i ≤ l.length → m < n → out.length ≤ i →
    loopP (spec_CompMatch.l5 N) n (l, p, (i : Int), out, ()) k = k (out ++ idxG p i (l.drop i), ()) := by
  intro m
  induction m with
  | zero =>
    intro i n out hm hi hn ho
    obtain ⟨n, rfl⟩ := succ_of hn
    simp only [loopP_s, spec_CompMatch.l5, pLen_d]
    rw [pLt_f (by omega), ifB_f, List.drop_eq_nil_of_le (by omega)]
    simp [idxG]
  | succ m ih =>
    intro i n out hm hi hn ho
    obtain ⟨n, rfl⟩ := succ_of hn
    have hlt : i < l.length := by omega
    have hxi := hx _ (List.getElem_mem hlt)
    simp only [loopP_s, spec_CompMatch.l5, pLen_d]
    rw [pLt_t (by omega), ifB_t, idx_lt hlt, bindO_s, spec_l06Begins_eq N _ _ hxi.1 hxi.2, bindO_s, drop_c hlt]
    cases hb : begG l[i] p with
    | true =>
      rw [ifB_t, pFit_t (by simp; omega), ifB_t, bindO_s]
      simp only []
      rw [pAdd_i (by omega) (by omega)]
      refine Eq.trans (ih (i + 1) n _ (by omega) (by omega) (by omega) (by simp [pApp]; omega)) ?_
      simp only [idxG, hb, if_true, pApp, List.append_assoc, List.singleton_append]
      rfl
    | false =>
      rw [ifB_f, bindO_s]
      simp only []
      rw [pAdd_i (by omega) (by omega)]
      refine Eq.trans (ih (i + 1) n _ (by omega) (by omega) (by omega) (by omega)) ?_
      simp only [idxG, hb, Bool.false_eq_true, if_false]
      rfl

theorem implMatch_loop {N : Nat} {R : Type} (l : List (List Int)) (p : List Int) (hl : l.length ≤ 400) (hx : ∀ x ∈ l, x.length ≤ 9223372036854775806 ∧ x.length < N) (k : List (List Int) × List Int × Unit → Option R) :
    ∀ (m i n : Nat) (o1 : List (List Int)) (o2 : List Int), l.length - i = m → i ≤ l.length → m < n → o1.length ≤ i → o2.length ≤ i →
    loopP (impl_matches.l3 N) n (p, l, (l.length : Int), (i : Int), o1, o2, ()) k = k (o1 ++ matG p (l.drop i), o2 ++ idxG p i (l.drop i), ()) := by
  intro m
  induction m with
  | zero =>
    intro i n o1 o2 hm hi hn h1 h2
    obtain ⟨n, rfl⟩ := succ_of hn
    simp only [loopP_s, impl_matches.l3]
    rw [pLt_f (by omega), ifB_f, List.drop_eq_nil_of_le (by omega)]
    simp [idxG, matG]
  | succ m ih =>
    intro i n o1 o2 hm hi hn h1 h2
    obtain ⟨n, rfl⟩ := succ_of hn
    have hlt : i < l.length := by omega
    have hxi := hx _ (List.getElem_mem hlt)
    simp only [loopP_s, impl_matches.l3]
    rw [pLt_t (by omega), ifB_t, idx_lt hlt, bindO_s, impl_begins_eq N _ _ hxi.1 hxi.2, bindO_s, drop_c hlt]
    cases hb : begG l[i] p with
    | true =>
      rw [ifB_t, pFit_t (by simp; omega), ifB_t, pFit_t (by simp; omega), ifB_t, bindO_s]
      simp only []
      rw [pAdd_i (by omega) (by omega)]
      refine Eq.trans (ih (i + 1) n _ _ (by omega) (by omega) (by omega) (by simp [pApp]; omega) (by simp [pApp]; omega)) ?_
      simp only [idxG, matG, hb, if_true, pApp, List.append_assoc, List.singleton_append, List.filter_cons]
      rfl
    | false =>
      rw [ifB_f, bindO_s]
      simp only []
      rw [pAdd_i (by omega) (by omega)]
      refine Eq.trans (ih (i + 1) n _ _ (by omega) (by omega) (by omega) (by omega) (by omega)) ?_
      simp only [idxG, matG, hb, Bool.false_eq_true, if_false, List.filter_cons]
      rfl

/-- what is asked of candidates and a prefix -/
def askG (l : List (List Int)) (p : List Int) : Bool := decide (l.length ≤ 400) && decide (p.length ≤ 400) && candsG l && ptsG p
def matchG (l : List (List Int)) (p : List Int) : List Int := if askG l p = true then idxG p 0 l else []

theorem gt_not (n : Nat) (k : Nat) : pGt (n : Int) (k : Int) = !decide (n ≤ k) := by
  rw [pGt_d]
  by_cases h : n ≤ k
  · rw [decide_eq_true h, decide_eq_false (by omega)]; rfl
  · rw [decide_eq_false h, decide_eq_true (by omega)]; rfl

theorem spec_CompMatch_eq (N : Nat) (l : List (List Int)) (p : List Int) (hN : 401 < N) (hx : ∀ x ∈ l, x.length ≤ 9223372036854775806 ∧ x.length < N) : spec_CompMatch N l p = some (matchG l p) := by
  unfold spec_CompMatch matchG
  simp only [pLen_d]
  rw [show (400 : Int) = ((400 : Nat) : Int) from rfl, gt_not, gt_not, ifB_or, bindO_s, spec_CandsRight_eq N l (by omega), bindO_s, ifB_or, bindO_s, spec_PointsRight_eq N p (by omega), bindO_s, ifB_or, bindO_s, pNot_d, pNot_d]
  have e : (((!decide (l.length ≤ 400) || !decide (p.length ≤ 400)) || !candsG l) || !ptsG p) = !askG l p := by
    unfold askG
    cases decide (l.length ≤ 400) <;> cases decide (p.length ≤ 400) <;> cases candsG l <;> cases ptsG p <;> rfl
  rw [e]
  cases ha : askG l p with
  | false => rw [Bool.not_false, ifB_t]; rfl
  | true =>
    rw [Bool.not_true, ifB_f, if_pos rfl]
    have hl : l.length ≤ 400 := by
      unfold askG at ha
      simp only [Bool.and_eq_true, decide_eq_true_eq] at ha
      exact ha.1.1.1
    have := specMatch_loop (N := N) l p hl hx (fun d => let x95 := d.1; some x95) _ 0 N [] rfl (by omega) (by omega) (by simp)
    rw [List.drop_zero] at this
    exact this

theorem impl_compAsked_eq (N : Nat) (l : List (List Int)) (p : List Int) (hl : l.length < N) (hb : l.length ≤ 9223372036854775806) (hp : p.length < N) (hpb : p.length ≤ 9223372036854775806) (hx : ∀ x ∈ l, x.length < N ∧ x.length ≤ 9223372036854775806) : impl_compAsked N l p = some (askG l p) := by
  unfold impl_compAsked impl_isMany
  simp only [pLen_d]
  rw [show (400 : Int) = ((400 : Nat) : Int) from rfl, gt_not, gt_not, bindO_s, bindO_s, ifB_and, bindO_s, impl_CandsRight_eq N l hl hb hx, bindO_s, ifB_and, bindO_s, impl_PointsRight_eq N p hp hpb, bindO_s, ifB_and, bindO_s]
  unfold askG
  simp only [pNot_d, Bool.not_not]

theorem impl_CompMatch_eq (N : Nat) (l : List (List Int)) (p : List Int) (hl : l.length < N) (hb : l.length ≤ 9223372036854775806) (hp : p.length < N) (hpb : p.length ≤ 9223372036854775806) (hx : ∀ x ∈ l, x.length < N ∧ x.length ≤ 9223372036854775806) : impl_CompMatch N l p = some (matchG l p) := by
  unfold impl_CompMatch matchG
  rw [impl_compAsked_eq N l p hl hb hp hpb hx, bindO_s, pNot_d]
  cases ha : askG l p with
  | false => rw [Bool.not_false, ifB_t]; rfl
  | true =>
    rw [Bool.not_true, ifB_f, if_pos rfl]
    have hl4 : l.length ≤ 400 := by
      unfold askG at ha
      simp only [Bool.and_eq_true, decide_eq_true_eq] at ha
      exact ha.1.1.1
    unfold impl_matches
    have := implMatch_loop (N := N) l p hl4 (fun x h => ⟨(hx x h).2, (hx x h).1⟩) (fun d => let x110 := d.1; let x111 := d.2.1; some (x110, x111)) _ 0 N [] [] rfl (by omega) (by omega) (by simp) (by simp)
    rw [List.drop_zero] at this
    rw [pLen_d]
    refine Eq.trans (congrArg (fun m => bindO m fun y3 => some y3.2) this) ?_
    rfl

end Go.AE.F
namespace Go.AE.F
open Go.AE
/-- the greatest place at most n with p, or 0 -/
def dn (p : Nat → Bool) : Nat → Nat
  | 0 => 0
  | n + 1 => if p (n + 1) = true then n + 1 else dn p n

theorem dn_le (p : Nat → Bool) : ∀ n, dn p n ≤ n
  | 0 => Nat.le_refl 0
  | n + 1 => by
    unfold dn
    split
    · exact Nat.le_refl _
    · exact Nat.le_succ_of_le (dn_le p n)

theorem dn_self (p : Nat → Bool) (n : Nat) (h : p n = true) : dn p n = n := by
  cases n with
  | zero => rfl
  | succ n => unfold dn; rw [if_pos h]

theorem dn_and (p q : Nat → Bool) (hp : ∀ n, p (n + 1) = true → p n = true) : ∀ n, dn (fun i => p i && q i) n = dn q (dn p n)
  | 0 => rfl
  | n + 1 => by
    cases h : p (n + 1) with
    | false =>
      have e1 : dn (fun i => p i && q i) (n + 1) = dn (fun i => p i && q i) n := by
        rw [dn]; simp only [h, Bool.false_and, Bool.false_eq_true, if_false]
      have e2 : dn p (n + 1) = dn p n := by rw [dn]; simp only [h, Bool.false_eq_true, if_false]
      rw [e1, e2, dn_and p q hp n]
    | true =>
      have e2 : dn p (n + 1) = n + 1 := dn_self p _ h
      rw [e2]
      cases hq : q (n + 1) with
      | true => rw [dn_self q _ hq, dn_self _ _ (by simp only [h, hq]; rfl)]
      | false =>
        have e1 : dn (fun i => p i && q i) (n + 1) = dn (fun i => p i && q i) n := by
          rw [dn]; simp only [h, hq, Bool.true_and, Bool.false_eq_true, if_false]
        have e3 : dn q (n + 1) = dn q n := by rw [dn]; simp only [hq, Bool.false_eq_true, if_false]
        rw [e1, e3, dn_and p q hp n, dn_self p n (hp n h)]

/-- c begins with the first n of x -/
def begN (x c : List Int) (n : Nat) : Bool := begG c (x.take n)

theorem begN_dn (x c : List Int) (n : Nat) (h : begN x c (n + 1) = true) : begN x c n = true := by
  unfold begN begG at h ⊢
  simp only [Bool.and_eq_true, decide_eq_true_eq, List.length_take] at h ⊢
  obtain ⟨h1, h2⟩ := h
  refine ⟨by omega, ?_⟩
  have := congrArg (List.take n) h2
  rw [List.take_take, List.take_take] at this
  rw [show min n (n + 1) = n from by omega] at this
  rw [← this]
  by_cases hn : n ≤ x.length
  · congr 1; omega
  · congr 1; omega

theorem begN_0 (x c : List Int) : begN x c 0 = true := by
  unfold begN begG
  simp

/-- the longest first part of x with which all begin -/
def comN (x : List Int) (cs : List (List Int)) (n : Nat) : Nat := dn (fun i => cs.all fun c => begN x c i) n

theorem comN_cons (x c : List Int) (cs : List (List Int)) (n : Nat) : comN x (c :: cs) n = comN x cs (dn (begN x c) n) := by
  unfold comN
  rw [← dn_and (begN x c) _ (begN_dn x c)]
  rfl

theorem comN_nil (x : List Int) (n : Nat) : comN x [] n = n := dn_self _ _ rfl

end Go.AE.F
namespace Go.AE.F
open Go.AE
theorem same_self {R : Type} (a : Option R) : same a a = a := if_pos rfl

theorem clone_eq (N : Nat) (a : List Int) (h : a.length ≤ 68719476736) : slices_Clone_Sint64_int64 N a = some a := by
  unfold slices_Clone_Sint64_int64 slices_Clone_Sint64_int64.g
  rw [pFit_t (by simp; exact h), pLen_d]
  simp only [ifB_t]
  cases a with
  | nil =>
    rw [pEq_t (by simp), ifB_t]
    exact same_self _
  | cons x l =>
    rw [pEq_f (by simp; omega), ifB_f]
    rfl

theorem copy_eq (N : Nat) (a : List Int) (h : a.length ≤ 68719476736) : spec_l01Copy N a = some a := by
  unfold spec_l01Copy
  rw [pFit_t (by simp; exact h), ifB_t]
  rfl

theorem idx_mat (p : List Int) : ∀ (l : List (List Int)) (i : Nat), (idxG p i l).length = (matG p l).length ∧
    ∀ (j : Nat) (h : j < (idxG p i l).length), ∃ t : Nat, (idxG p i l)[j] = ((i + t : Nat) : Int) ∧ t < l.length ∧ l[t]? = (matG p l)[j]?
  | [], i => ⟨rfl, fun j h => by simp [idxG] at h⟩
  | x :: l, i => by
    have ih := idx_mat p l (i + 1)
    cases hb : begG x p with
    | false =>
      have e1 : idxG p i (x :: l) = idxG p ((i + 1 : Nat) : Int) l := by simp only [idxG, hb, Bool.false_eq_true, if_false]; rfl
      have e2 : matG p (x :: l) = matG p l := by simp only [matG, List.filter_cons, hb, Bool.false_eq_true, if_false]
      rw [e1, e2]
      refine ⟨ih.1, fun j h => ?_⟩
      obtain ⟨t, h1, h2, h3⟩ := ih.2 j h
      exact ⟨t + 1, by rw [h1]; omega, by simp; omega, by simpa using h3⟩
    | true =>
      have e1 : idxG p i (x :: l) = (i : Int) :: idxG p ((i + 1 : Nat) : Int) l := by simp only [idxG, hb, if_true]; rfl
      have e2 : matG p (x :: l) = x :: matG p l := by simp only [matG, List.filter_cons, hb, if_true]
      rw [e2]
      refine ⟨by rw [e1, List.length_cons, List.length_cons, ih.1], fun j h => ?_⟩
      have ej : (idxG p i (x :: l))[j] = ((i : Int) :: idxG p ((i + 1 : Nat) : Int) l)[j]'(by rw [← e1]; exact h) := by simp only [e1]
      rw [ej]
      cases j with
      | zero => exact ⟨0, by simp, by simp, rfl⟩
      | succ j =>
        have hj : j < (idxG p ((i + 1 : Nat) : Int) l).length := by
          rw [e1, List.length_cons] at h; omega
        obtain ⟨t, h1, h2, h3⟩ := ih.2 j hj
        refine ⟨t + 1, ?_, by simp; omega, by simpa using h3⟩
        rw [List.getElem_cons_succ, h1]; omega

theorem specCut_loop {N : Nat} {R : Type} (l : List (List Int)) (ms : List Int) (i : Nat) (hi : i < ms.length) (t : Nat) (ht : t < l.length) (hm : ms[i] = (t : Int)) (x : List Int) (hc : l[t].length ≤ 9223372036854775806 ∧ l[t].length < N)
    (hx : x.length ≤ 9223372036854775806) (k : List (List Int) × Int × List Int × List Int × Unit → Option R) :
    ∀ (n fuel : Nat), n ≤ x.length → n < fuel →
    loopP (spec_CompCommon.l10 N) fuel (l, (i : Int), ms, x.take n, ()) k = k (l, (i : Int), ms, x.take (dn (begN x l[t]) n), ()) := by
  intro n
  induction n with
  | zero =>
    intro fuel hn hf
    obtain ⟨f, rfl⟩ := succ_of hf
    simp only [loopP_s, spec_CompCommon.l10]
    rw [idx_lt hi, bindO_s, bindO_s, hm, idx_lt ht, bindO_s, spec_l06Begins_eq N _ _ hc.1 hc.2, bindO_s]
    have : begG l[t] (x.take 0) = true := begN_0 x _
    rw [this, pNot_d, Bool.not_true, ifB_f]
    rfl
  | succ n ih =>
    intro fuel hn hf
    obtain ⟨f, rfl⟩ := succ_of hf
    simp only [loopP_s, spec_CompCommon.l10]
    rw [idx_lt hi, bindO_s, bindO_s, hm, idx_lt ht, bindO_s, spec_l06Begins_eq N _ _ hc.1 hc.2, bindO_s]
    cases hb : begN x l[t] (n + 1) with
    | true =>
      have : begG l[t] (x.take (n + 1)) = true := hb
      rw [this, pNot_d, Bool.not_true, ifB_f, dn_self _ _ hb]
    | false =>
      have : begG l[t] (x.take (n + 1)) = false := hb
      have e : (x.take (n + 1)).length = n + 1 := by rw [List.length_take]; omega
      rw [this, pNot_d, Bool.not_false, ifB_t, pLe_t (by omega), ifB_t, pLen_d, e, pSub_i (by omega) (by omega), pLe_t (by omega), ifB_t, pLe_t (by omega), ifB_t]
      have e2 : ((n + 1 : Nat) : Int) - 1 = (n : Int) := by omega
      rw [e2, sub_take, List.take_take, show min n (n + 1) = n from by omega]
      rw [ih f (by omega) (by omega)]
      rw [show dn (begN x l[t]) (n + 1) = dn (begN x l[t]) n from by rw [dn]; simp only [hb, Bool.false_eq_true, if_false]]

theorem specCom_loop {N : Nat} {R : Type} (p : List Int) (l : List (List Int)) (hl : l.length ≤ 400) (hx : ∀ x ∈ l, x.length ≤ 9223372036854775806 ∧ x.length < N) (x : List Int) (hx1 : x.length ≤ 9223372036854775806) (hx2 : x.length < N) (k : List Int × Unit → Option R) :
    ∀ (r i n fuel : Nat), (idxG p 0 l).length - i = r → i ≤ (idxG p 0 l).length → r < fuel → n ≤ x.length →
    loopP (spec_CompCommon.l8 N) fuel (l, (i : Int), idxG p 0 l, x.take n, ()) k = k (x.take (comN x ((matG p l).drop i) n), ()) := by
  have hm := idx_mat p l 0
  have hlen := idxG_len p l 0
  intro r
  induction r with
  | zero =>
    intro i n fuel hr hi hf hn
    obtain ⟨f, rfl⟩ := succ_of hf
    simp only [loopP_s, spec_CompCommon.l8, pLen_d]
    rw [pLt_f (by omega), ifB_f, List.drop_eq_nil_of_le (by have := hm.1; simp at this; omega), comN_nil]
  | succ r ih =>
    intro i n fuel hr hi hf hn
    obtain ⟨f, rfl⟩ := succ_of hf
    have hlt : i < (idxG p 0 l).length := by omega
    have hlt2 : i < (matG p l).length := by have := hm.1; simp at this; omega
    obtain ⟨t, h1, h2, h3⟩ := hm.2 i hlt
    have h1' : (idxG p 0 l)[i] = (t : Int) := by
      have h4 := h1
      simp only [Nat.zero_add] at h4
      exact h4
    have h5 : l[t] = (matG p l)[i] := by
      rw [List.getElem?_eq_getElem h2, List.getElem?_eq_getElem hlt2] at h3
      exact Option.some.inj h3
    have hc := hx _ (List.getElem_mem h2)
    simp only [loopP_s, spec_CompCommon.l8, pLen_d]
    rw [pLt_t (by omega), ifB_t, specCut_loop l (idxG p 0 l) i hlt t h2 h1' x hc hx1 _ n N hn (by omega)]
    simp only []
    rw [pAdd_i (by omega) (by omega), h5, drop_c hlt2, comN_cons]
    exact ih (i + 1) _ f (by omega) (by omega) (by omega) (Nat.le_trans (dn_le _ _) hn)

/-- the longest points with which all candidates that match begin -/
def comG (l : List (List Int)) (p : List Int) : List Int :=
  if (decide (l.length ≤ 400) && ptsG p) = false then [] else
  if candsG l = false then p else
  match matG p l with
  | [] => p
  | x :: f => x.take (comN x (x :: f) x.length)

theorem spec_CompCommon_eq (N : Nat) (l : List (List Int)) (p : List Int) (hN : 401 < N) (hp : p.length ≤ 68719476736) (hx : ∀ x ∈ l, x.length ≤ 1048576 ∧ x.length < N) : spec_CompCommon N l p = some (comG l p) := by
  have hx' : ∀ x ∈ l, x.length ≤ 9223372036854775806 ∧ x.length < N := fun x h => by have := hx x h; omega
  unfold spec_CompCommon comG
  simp only [pLen_d]
  rw [show (400 : Int) = ((400 : Nat) : Int) from rfl, gt_not, gt_not, ifB_or, bindO_s, spec_PointsRight_eq N p (by omega), bindO_s, ifB_or, bindO_s, pNot_d]
  have e : ((!decide (l.length ≤ 400) || !decide (p.length ≤ 400)) || !ptsG p) = !(decide (l.length ≤ 400) && ptsG p) := by
    unfold ptsG
    by_cases h : p.length ≤ 300
    · rw [decide_eq_true (show p.length ≤ 400 by omega)]
      cases decide (l.length ≤ 400) <;> cases (decide (p.length ≤ 300) && p.all ptG) <;> rfl
    · rw [decide_eq_false h]
      cases decide (l.length ≤ 400) <;> cases decide (p.length ≤ 400) <;> rfl
  rw [e]
  cases ha : (decide (l.length ≤ 400) && ptsG p) with
  | false => rw [Bool.not_false, ifB_t, if_pos rfl]
  | true =>
    rw [Bool.not_true, ifB_f, spec_CompMatch_eq N l p hN hx', bindO_s, if_neg (by simp)]
    have ha' := ha
    unfold ptsG at ha'
    simp only [Bool.and_eq_true, decide_eq_true_eq] at ha'
    have hl : l.length ≤ 400 := ha'.1
    have hpl : p.length ≤ 400 := by have := ha'.2.1; omega
    have hpt : ptsG p = true := by
      have hh := ha
      simp only [Bool.and_eq_true] at hh
      exact hh.2
    have hask : askG l p = candsG l := by
      unfold askG
      rw [decide_eq_true hl, decide_eq_true hpl, hpt]
      cases candsG l <;> rfl
    cases hcl : candsG l with
    | false =>
      have : matchG l p = [] := by unfold matchG; rw [hask, hcl]; rfl
      rw [this, pEq_t (by simp), ifB_t, copy_eq N p hp, bindO_s, if_pos rfl]
    | true =>
      have : matchG l p = idxG p 0 l := by unfold matchG; rw [hask, hcl]; rfl
      rw [this, if_neg (by simp)]
      have hm := idx_mat p l 0
      have hm1 : (idxG p 0 l).length = (matG p l).length := hm.1
      cases hf : matG p l with
      | nil =>
        rw [hf] at hm1
        rw [pEq_t (by rw [hm1]; rfl), ifB_t, copy_eq N p hp, bindO_s]
      | cons x f =>
        rw [hf, List.length_cons] at hm1
        have h0 : 0 < (idxG p 0 l).length := by omega
        obtain ⟨t, h1, h2, h3⟩ := hm.2 0 h0
        have h1' : (idxG p 0 l)[0] = (t : Int) := by
          have h4 := h1
          simp only [Nat.zero_add] at h4
          exact h4
        have h5 : l[t] = x := by
          rw [List.getElem?_eq_getElem h2, hf] at h3
          exact Option.some.inj h3
        have i0 : idx (idxG p 0 l) 0 = some (t : Int) := by
          have := idx_lt h0
          rw [h1'] at this
          exact this
        have hc := hx _ (List.getElem_mem h2)
        rw [h5] at hc
        rw [pEq_f (by omega), ifB_f, i0, bindO_s, bindO_s, idx_lt h2, bindO_s, h5, copy_eq N x (by omega), bindO_s]
        have := specCom_loop (N := N) p l hl hx' x (by omega) hc.2 (fun d => let x379 := d.1; some x379) _ 1 x.length N rfl (by omega) (by have := idxG_len p l 0; omega) (Nat.le_refl _)
        rw [List.take_length, hf] at this
        refine Eq.trans this ?_
        simp only [List.drop_succ_cons, List.drop_zero]
        rw [comN_cons]
        have hs : begN x x x.length = true := by
          unfold begN begG
          simp
        rw [dn_self _ _ hs]

theorem c1_eq (N : Nat) (c x : List Int) (f : List (List Int)) (n : Nat) (hn : n ≤ x.length) (hc : c.length ≤ 9223372036854775806 ∧ c.length < N) : impl_common_c1 N c (x :: f) (n : Int) = some (!begN x c n) := by
  unfold impl_common_c1
  have : idx (x :: f) 0 = some x := rfl
  rw [this, bindO_s, pLe_t (by omega), ifB_t, pLe_t (by omega), ifB_t, pLen_d, pLe_t (by omega), ifB_t, sub_take, impl_begins_eq N _ _ hc.1 hc.2, bindO_s]
  rfl

theorem comIdx_loop {N : Nat} (x : List Int) (f : List (List Int)) (n : Nat) (hn : n ≤ x.length) (cs : List (List Int)) (hcs : cs.length ≤ 400) (hx : ∀ c ∈ cs, c.length ≤ 9223372036854775806 ∧ c.length < N) :
    ∀ (m j fuel : Nat), cs.length - j = m → j ≤ cs.length → m < fuel →
    ∃ v : Int, loopP (slices_IndexFunc_S_Sint64__Sint64__impl_common_c1.l2 N) fuel (cs, x :: f, (n : Int), (cs.length : Int), (j : Int), ()) (onSum (fun _ => some (-1)) (fun d => let x55 := d.1; some x55)) = some v ∧ pGe v 0 = !((cs.drop j).all fun c => begN x c n) := by
  intro m
  induction m with
  | zero =>
    intro j fuel hm hj hf
    obtain ⟨g, rfl⟩ := succ_of hf
    refine ⟨-1, ?_, ?_⟩
    · simp only [loopP_s, slices_IndexFunc_S_Sint64__Sint64__impl_common_c1.l2]
      rw [pLt_f (by omega), ifB_f]
      rfl
    · rw [List.drop_eq_nil_of_le (by omega)]
      rfl
  | succ m ih =>
    intro j fuel hm hj hf
    obtain ⟨g, rfl⟩ := succ_of hf
    have hlt : j < cs.length := by omega
    have hc := hx _ (List.getElem_mem hlt)
    simp only [loopP_s, slices_IndexFunc_S_Sint64__Sint64__impl_common_c1.l2]
    rw [pLt_t (by omega), ifB_t, idx_lt hlt, bindO_s, c1_eq N _ x f n hn hc, bindO_s, drop_c hlt, List.all_cons]
    cases hb : begN x cs[j] n with
    | false =>
      refine ⟨(j : Int), ?_, ?_⟩
      · rw [Bool.not_false, ifB_t]; rfl
      · rw [pGe_t (by omega)]; rfl
    | true =>
      rw [Bool.not_true, ifB_f, pAdd_i (by omega) (by omega), Bool.true_and]
      exact ih (j + 1) g (by omega) (by omega) (by omega)

theorem comAny_eq (N : Nat) (x : List Int) (f : List (List Int)) (n : Nat) (hn : n ≤ x.length) (hN : 401 < N) (hcs : (x :: f).length ≤ 400) (hx : ∀ c ∈ x :: f, c.length ≤ 9223372036854775806 ∧ c.length < N) :
    slices_ContainsFunc_S_Sint64__Sint64__impl_common_c1 N (x :: f) (x :: f) (n : Int) = some (!((x :: f).all fun c => begN x c n)) := by
  unfold slices_ContainsFunc_S_Sint64__Sint64__impl_common_c1 slices_IndexFunc_S_Sint64__Sint64__impl_common_c1
  obtain ⟨v, h1, h2⟩ := comIdx_loop (N := N) x f n hn (x :: f) hcs hx _ 0 N rfl (by omega) (by omega)
  rw [pLen_d]
  refine Eq.trans (congrArg (fun m => bindO m fun y1 => some (pGe y1 0)) h1) ?_
  rw [bindO_s, h2, List.drop_zero]

theorem implCut_loop {N : Nat} {R : Type} (x : List Int) (f : List (List Int)) (hx1 : x.length ≤ 9223372036854775806) (hN : 401 < N) (hcs : (x :: f).length ≤ 400) (hx : ∀ c ∈ x :: f, c.length ≤ 9223372036854775806 ∧ c.length < N) (k : List (List Int) × Int × Unit → Option R) :
    ∀ (n fuel : Nat), n ≤ x.length → n < fuel →
    loopP (impl_common.l5 N) fuel (x :: f, (n : Int), ()) k = k (x :: f, (comN x (x :: f) n : Nat), ()) := by
  intro n
  induction n with
  | zero =>
    intro fuel hn hf
    obtain ⟨g, rfl⟩ := succ_of hf
    simp only [loopP_s, impl_common.l5]
    rw [comAny_eq N x f 0 hn hN hcs hx, bindO_s]
    have : ((x :: f).all fun c => begN x c 0) = true := by
      rw [List.all_eq_true]; intro c _; exact begN_0 x c
    rw [this, Bool.not_true, ifB_f]
    rfl
  | succ n ih =>
    intro fuel hn hf
    obtain ⟨g, rfl⟩ := succ_of hf
    simp only [loopP_s, impl_common.l5]
    rw [comAny_eq N x f (n + 1) hn hN hcs hx, bindO_s]
    cases hb : ((x :: f).all fun c => begN x c (n + 1)) with
    | true =>
      rw [Bool.not_true, ifB_f, show comN x (x :: f) (n + 1) = n + 1 from dn_self _ _ hb]
    | false =>
      rw [Bool.not_false, ifB_t, pSub_i (by omega) (by omega), show ((n + 1 : Nat) : Int) - 1 = (n : Int) from by omega, ih g (by omega) (by omega)]
      rw [show comN x (x :: f) (n + 1) = comN x (x :: f) n from by unfold comN; rw [dn]; simp only [hb, Bool.false_eq_true, if_false]]

theorem impl_common_eq (N : Nat) (l : List (List Int)) (p : List Int) (hl : l.length ≤ 400) (hN : 401 < N) (hx : ∀ x ∈ l, x.length ≤ 9223372036854775806 ∧ x.length < N) :
    impl_common N l p = some (match matG p l with | [] => p | x :: f => x.take (comN x (x :: f) x.length)) := by
  have hmm : impl_matches N l p = some (matG p l, idxG p 0 l) := by
    unfold impl_matches
    have := implMatch_loop (N := N) l p hl hx (fun d => let x110 := d.1; let x111 := d.2.1; some (x110, x111)) _ 0 N [] [] rfl (by omega) (by omega) (by simp) (by simp)
    rw [List.drop_zero, List.nil_append, List.nil_append] at this
    rw [pLen_d]
    exact this
  unfold impl_common
  rw [hmm, bindO_s]
  have hsub : (matG p l).length ≤ l.length := List.length_filter_le _ _
  have hmem : ∀ c ∈ matG p l, c.length ≤ 9223372036854775806 ∧ c.length < N := fun c hc => hx c (List.mem_filter.1 hc).1
  simp only [pLen_d]
  cases hf : matG p l with
  | nil => rfl
  | cons x f =>
    rw [hf] at hsub hmem
    have i0 : idx (x :: f) 0 = some x := rfl
    have hxx := hmem x (by simp)
    rw [pEq_f (by simp; omega), ifB_f, i0, bindO_s, bindO_s, implCut_loop x f hxx.1 hN (by omega) hmem _ x.length N (Nat.le_refl _) hxx.2]
    simp only []
    have hle : comN x (x :: f) x.length ≤ x.length := dn_le _ _
    rw [i0, bindO_s, bindO_s, pLe_t (by omega), ifB_t, pLe_t (by omega), ifB_t, pLe_t (by omega), ifB_t, sub_take]

theorem impl_CompCommon_eq (N : Nat) (l : List (List Int)) (p : List Int) (hN : 401 < N) (hl : l.length < N) (hb : l.length ≤ 9223372036854775806) (hp : p.length < N) (hpb : p.length ≤ 1048576) (hx : ∀ x ∈ l, x.length ≤ 1048576 ∧ x.length < N) : impl_CompCommon N l p = some (comG l p) := by
  have hx' : ∀ x ∈ l, x.length < N ∧ x.length ≤ 9223372036854775806 := fun x h => by have := hx x h; omega
  unfold impl_CompCommon comG impl_isMany
  simp only [pLen_d]
  rw [show (400 : Int) = ((400 : Nat) : Int) from rfl, gt_not, bindO_s, impl_PointsRight_eq N p hp (by omega), bindO_s, ifB_or, bindO_s, pNot_d]
  cases h1 : decide (l.length ≤ 400) with
  | false => rfl
  | true =>
    cases h2 : ptsG p with
    | false => rfl
    | true =>
      have hl4 : l.length ≤ 400 := of_decide_eq_true h1
      rw [show (!true || !true) = false from rfl, ifB_f, impl_CandsRight_eq N l hl hb hx', bindO_s, if_neg (by simp), pNot_d]
      cases h3 : candsG l with
      | false => rw [Bool.not_false, ifB_t, clone_eq N p (by omega), bindO_s, if_pos rfl]
      | true =>
        rw [Bool.not_true, ifB_f, impl_common_eq N l p hl4 hN (fun x h => ⟨(hx' x h).2, (hx' x h).1⟩), bindO_s, if_neg (by simp)]
        have hlen : (match matG p l with | [] => p | x :: f => x.take (comN x (x :: f) x.length)).length ≤ 68719476736 := by
          cases hf : matG p l with
          | nil => show p.length ≤ _; omega
          | cons x f =>
            have hm : x ∈ matG p l := by rw [hf]; simp
            have := hx x (List.mem_filter.1 hm).1
            show (x.take _).length ≤ _
            rw [List.length_take]
            omega
        rw [clone_eq N _ hlen, bindO_s]

end Go.AE.F
namespace Go.AE.F
open Go.AE
abbrev BufT := List Int × Int × Int × Unit

/-- a right buffer -/
def bufG (b : BufT) : Bool := ptsG b.1 && decide (0 ≤ b.2.1) && decide (b.2.1 ≤ b.1.length) && decide (0 ≤ b.2.2.1) && decide (b.2.2.1 ≤ b.1.length)

theorem bufG_iff {b : BufT} : bufG b = true ↔ ptsG b.1 = true ∧ 0 ≤ b.2.1 ∧ b.2.1 ≤ b.1.length ∧ 0 ≤ b.2.2.1 ∧ b.2.2.1 ≤ b.1.length := by
  unfold bufG
  simp only [Bool.and_eq_true, decide_eq_true_eq, and_assoc]

theorem ptsG_len {l : List Int} (h : ptsG l = true) : l.length ≤ 300 := by
  unfold ptsG at h
  simp only [Bool.and_eq_true, decide_eq_true_eq] at h
  exact h.1

theorem spec_BufRight_eq (N : Nat) (b : BufT) (hN : 301 < N) : spec_BufRight N b = some (bufG b) := by
  unfold spec_BufRight bufG
  rw [spec_PointsRight_eq N b.1 hN]
  simp only [bindO_s, ifB_and, pGe_d, pLe_d, pLen_d, ge_iff_le]

theorem impl_size_eq (N : Nat) (l : List Int) (h : l.length ≤ 9223372036854775807) : impl_size_Sint64 N l = some (l.length : Int) := by
  unfold impl_size_Sint64
  rw [pLen_d]
  first | done | rfl | (simp only [pConv]; rw [wrap_i64 (by omega) (by omega)])

theorem impl_BufRight_eq (N : Nat) (b : BufT) (hl : b.1.length < N) (hb : b.1.length ≤ 9223372036854775806) : impl_BufRight N b = some (bufG b) := by
  unfold impl_BufRight impl_Buf_isPlace bufG
  rw [impl_PointsRight_eq N b.1 hl hb]
  simp only [impl_size_eq N b.1 (by omega), impl_within_eq, bindO_s, ifB_and, Bool.and_assoc]

end Go.AE.F
namespace Go.AE.F
open Go.AE
/-- where the word that ends at n begins -/
def wordAt (ps : List Int) : Nat → Nat
  | 0 => 0
  | n + 1 => match ps[n]? with
    | some p => if classG p = 2 then wordAt ps n else n + 1
    | none => n + 1

theorem wordAt_le (ps : List Int) : ∀ n, wordAt ps n ≤ n
  | 0 => Nat.le_refl _
  | n + 1 => by
    unfold wordAt
    split
    · split
      · have := wordAt_le ps n; omega
      · omega
    · omega

theorem specWord_loop {N : Nat} {R : Type} (b : BufT) (hb : b.1.length ≤ 300) (k : Int × Unit → Option R) : ∀ (n m : Nat), n ≤ b.1.length → n < m →
    loopP (spec_l15Word.l2 N) m ((n : Int), b, ()) k = k ((wordAt b.1 n : Int), ()) := by
  intro n
  induction n with
  | zero =>
    intro m hn hm
    obtain ⟨m, rfl⟩ := succ_of hm
    simp only [loopP_s, spec_l15Word.l2]
    rw [pGt_f (by omega), ifB_f, bindO_s, ifB_f]
    rfl
  | succ n ih =>
    intro m hn hm
    obtain ⟨m, rfl⟩ := succ_of hm
    have hlt : n < b.1.length := by omega
    simp only [loopP_s, spec_l15Word.l2]
    rw [pGt_t (by omega), ifB_t, pSub_i (by omega) (by omega), show ((n + 1 : Nat) : Int) - 1 = (n : Int) by omega, idx_lt hlt, bindO_s, spec_ClassOf_eq, bindO_s, bindO_s]
    unfold wordAt
    rw [List.getElem?_eq_getElem hlt]
    simp only
    by_cases h : classG b.1[n] = 2
    · rw [pEq_t h, ifB_t, if_pos h, ih m (by omega) (by omega)]
    · rw [pEq_f h, ifB_f, if_neg h]

theorem implWord_loop {N : Nat} {R : Type} (b : BufT) (hb : b.1.length ≤ 300) (k : BufT × Int × Unit → Option R) : ∀ (n m : Nat), n ≤ b.1.length → n < m →
    loopP (impl_Buf_ahead.l2 N) m (b, (n : Int), ()) k = k (b, (wordAt b.1 n : Int), ()) := by
  intro n
  induction n with
  | zero =>
    intro m hn hm
    obtain ⟨m, rfl⟩ := succ_of hm
    simp only [loopP_s, impl_Buf_ahead.l2]
    rw [pGt_f (by omega), ifB_f, bindO_s, ifB_f]
    rfl
  | succ n ih =>
    intro m hn hm
    obtain ⟨m, rfl⟩ := succ_of hm
    have hlt : n < b.1.length := by omega
    simp only [loopP_s, impl_Buf_ahead.l2]
    rw [pGt_t (by omega), ifB_t, pSub_i (by omega) (by omega), show ((n + 1 : Nat) : Int) - 1 = (n : Int) by omega]
    unfold impl_Buf_isWord
    rw [idx_lt hlt, bindO_s, impl_ClassOf_eq, bindO_s, bindO_s, bindO_s]
    unfold wordAt
    rw [List.getElem?_eq_getElem hlt]
    simp only
    by_cases h : classG b.1[n] = 2
    · rw [pEq_t h, ifB_t, if_pos h, ih m (by omega) (by omega)]
    · rw [pEq_f h, ifB_f, if_neg h]

/-- the word ahead of a right buffer's cursor -/
def aheadG (b : BufT) : List Int := sub b.1 (wordAt b.1 b.2.1.toNat : Int) b.2.1
def wordG (b : BufT) : List Int := if bufG b = true then aheadG b else []

theorem impl_ahead_eq (N : Nat) (b : BufT) (h : bufG b = true) (hN : 301 < N) : impl_Buf_ahead N b = some (aheadG b) := by
  obtain ⟨h1, h2, h3, h4, h5⟩ := bufG_iff.1 h
  have hl := ptsG_len h1
  unfold impl_Buf_ahead
  have hc : ((b.2.1.toNat : Nat) : Int) = b.2.1 := by omega
  have := implWord_loop (N := N) (R := List Int) b hl (fun d =>
    let x54 := d.1;
    let x55 := d.2.1;
    ifB (pLe 0 x55) (ifB (pLe x55 x54.2.1) (ifB (pLe x54.2.1 (pLen x54.1)) (some (sub x54.1 x55 x54.2.1)) none) none) none) b.2.1.toNat N (by omega) (by omega)
  rw [hc] at this
  refine Eq.trans this ?_
  have hw := wordAt_le b.1 b.2.1.toNat
  simp only [pLen_d]
  rw [pLe_t (by omega), ifB_t, pLe_t (by omega), ifB_t, pLe_t (by omega), ifB_t]
  rfl

theorem aheadG_len (b : BufT) : (aheadG b).length ≤ b.1.length := by
  unfold aheadG sub
  simp only [List.length_drop, List.length_take]
  omega

theorem impl_WordAhead_eq (N : Nat) (b : BufT) (hl : b.1.length < N) (hb : b.1.length ≤ 68719476736) (hN : 301 < N) : impl_WordAhead N b = some (wordG b) := by
  unfold impl_WordAhead wordG
  rw [impl_BufRight_eq N b hl (by omega), bindO_s, pNot_d]
  cases h : bufG b with
  | false => rfl
  | true =>
    have := aheadG_len b
    rw [impl_ahead_eq N b h hN, bindO_s, clone_eq N _ (by omega)]
    rfl

theorem spec_WordAhead_eq (N : Nat) (b : BufT) (hb : b.1.length ≤ 68719476736) (hN : 301 < N) : spec_WordAhead N b = some (wordG b) := by
  unfold spec_WordAhead wordG
  rw [spec_BufRight_eq N b hN, bindO_s, pNot_d]
  cases h : bufG b with
  | false => rfl
  | true =>
    obtain ⟨h1, h2, h3, h4, h5⟩ := bufG_iff.1 h
    have hl := ptsG_len h1
    have hc : ((b.2.1.toNat : Nat) : Int) = b.2.1 := by omega
    have hw := wordAt_le b.1 b.2.1.toNat
    have e : spec_l15Word N b = some (wordAt b.1 b.2.1.toNat : Int) := by
      unfold spec_l15Word
      have := specWord_loop (N := N) (R := Int) b hl (fun d => let x63 := d.1; some x63) b.2.1.toNat N (by omega) (by omega)
      rw [hc] at this
      exact this
    have ha := aheadG_len b
    rw [e, bindO_s, pLen_d, pLe_t (by omega), pLe_t (by omega), pLe_t (by omega)]
    simp only [Bool.not_true, ifB_f, ifB_t, if_true]
    have : spec_l01Copy N (sub b.1 (wordAt b.1 b.2.1.toNat : Int) b.2.1) = some (aheadG b) := copy_eq N _ (by unfold aheadG at ha; omega)
    rw [this]
    rfl

end Go.AE.F
namespace Go.AE.F
open Go.AE
theorem wrap_u64 (a : Int) : IntKind.u64.wrap a = a % 18446744073709551616 := rfl
theorem conv_u64 (a : Int) : 0 ≤ pConv .u64 a ∧ pConv .u64 a < 18446744073709551616 := by
  unfold pConv
  rw [wrap_u64]; omega

/-- where numbers are drawn from -/
abbrev SrcT := List Int × Int × Int × Int × Unit
def srcOk (s : SrcT) : Prop := s.1.length ≤ 1048576 ∧ 0 ≤ s.2.1 ∧ s.2.1 ≤ s.1.length ∧ 0 ≤ s.2.2.2.1 ∧ s.2.2.2.1 ≤ 12

theorem src_loop {N : Nat} {R : Type} (c : List Int) (hc : c.length ≤ 1048576) (k : List Int × SrcT × Unit → Option R) : ∀ (m i n : Nat) (st : Int), 64 - i = m → i ≤ 64 → m < n →
    ∃ st', loopP (spec_l01Source.l3 N) n (c, (i : Int), (c, (0, (st, (0, ())))), ()) k = k (c, (c, (0, (st', (0, ())))), ()) := by
  intro m
  induction m with
  | zero =>
    intro i n st hm hi hn
    obtain ⟨n, rfl⟩ := succ_of hn
    refine ⟨st, ?_⟩
    rw [loopP_s]
    unfold spec_l01Source.l3
    simp only []
    rw [ifB_and, bindO_s, pLt_f (a := (i : Int)) (b := 64) (by omega), Bool.and_false, ifB_f]
  | succ m ih =>
    intro i n st hm hi hn
    obtain ⟨n, rfl⟩ := succ_of hn
    rw [loopP_s]
    unfold spec_l01Source.l3
    simp only []
    rw [ifB_and, bindO_s, pLen_d]
    by_cases hl : i < c.length
    · rw [pLt_t (by omega), pLt_t (by omega), Bool.and_self, ifB_t, idx_lt hl, bindO_s, pAdd_i (by omega) (by omega)]
      exact ih (i + 1) n _ (by omega) (by omega) (by omega)
    · exact ⟨st, by rw [pLt_f (by omega), Bool.false_and, ifB_f]⟩

theorem source_ok (N : Nat) (c : List Int) (hc : c.length ≤ 1048576) (hN : 64 < N) : ∃ s, spec_l01Source N c = some s ∧ srcOk s := by
  unfold spec_l01Source
  obtain ⟨st, h⟩ := src_loop (N := N) c hc (fun d =>
    let x18 := d.1;
    let x19 := d.2.1;
    ifB (pEq 20 0) (
      none) (
      ifB (pGt (pQuo Go.IntKind.i64 (pLen x18) 20) 12) (
        some (x19.1, (x19.2.1, (x19.2.2.1, (12, x19.2.2.2.2))))) (
        some (x19.1, (x19.2.1, (x19.2.2.1, ((pQuo Go.IntKind.i64 (pLen x18) 20), x19.2.2.2.2))))))) _ 0 N 88172645463325252 rfl (by omega) (by omega)
  have hq : pQuo .i64 (pLen c) 20 = (c.length : Int) / 20 := IntWalk.i64_quo _ _ ⟨by rw [pLen_d]; omega, by rw [pLen_d]; omega, by omega⟩
  simp only [hq, show pEq 20 0 = false from rfl, ifB_f] at h
  by_cases hg : (c.length : Int) / 20 > 12
  · rw [pGt_t hg, ifB_t] at h
    exact ⟨_, h, hc, by simp, by simp, by simp, by simp⟩
  · rw [pGt_f (by omega), ifB_f] at h
    refine ⟨_, h, hc, by simp, by simp, ?_, ?_⟩
    · show (0 : Int) ≤ (c.length : Int) / 20
      omega
    · show (c.length : Int) / 20 ≤ 12
      omega

theorem n_ok (N : Nat) (s : SrcT) (k : Int) (hs : srcOk s) (hk : k ≤ 4611686018427387904) : ∃ v s', spec_l01Src_n N s k = some (v, s') ∧ srcOk s' ∧ 0 ≤ v ∧ (k ≤ 1 → v = 0) ∧ (1 < k → v < k) := by
  obtain ⟨h1, h2, h3, h4, h5⟩ := hs
  unfold spec_l01Src_n
  by_cases hk1 : k ≤ 1
  · rw [pLe_t hk1, ifB_t]
    exact ⟨0, s, rfl, ⟨h1, h2, h3, h4, h5⟩, by omega, fun _ => rfl, fun h => by omega⟩
  · have hc : pConv .u64 k = k := IntWalk.u64_in k ⟨by omega, by omega⟩
    have hr : ∀ x y : Int, 0 ≤ pConv .i64 (pRem (pAdd .u64 x y) k) ∧ pConv .i64 (pRem (pAdd .u64 x y) k) < k := fun x y => by
      have ⟨a, _⟩ := conv_u64 (x + y)
      have e : pRem (pAdd .u64 x y) k = (pAdd .u64 x y) % k := Int.tmod_eq_emod_of_nonneg a
      have b1 := Int.emod_nonneg (pAdd .u64 x y) (show k ≠ 0 by omega)
      have b2 := Int.emod_lt_of_pos (pAdd .u64 x y) (show 0 < k by omega)
      rw [e]
      have e2 : pConv .i64 (pAdd .u64 x y % k) = pAdd .u64 x y % k := wrap_i64 (by omega) (by omega)
      rw [e2]
      exact ⟨b1, b2⟩
    rw [pLe_f (by omega), ifB_f, hc]
    simp only [show pLt 13 0 = false from rfl, show pLt 7 0 = false from rfl, show pLt 17 0 = false from rfl, show pLt 20 0 = false from rfl, ifB_f, pEq_f (show k ≠ 0 by omega)]
    by_cases hp : s.2.1 < s.1.length
    · obtain ⟨p, hp'⟩ : ∃ p : Nat, s.2.1 = (p : Int) := ⟨s.2.1.toNat, by omega⟩
      have hlt : p < s.1.length := by omega
      have hi : idx s.1 s.2.1 = some s.1[p] := by rw [hp']; exact idx_lt hlt
      rw [pLen_d, pLt_t hp, ifB_t, hi, bindO_s]
      refine ⟨_, _, rfl, ⟨h1, ?_, ?_, h4, h5⟩, (hr _ _).1, fun h => by omega, fun _ => (hr _ _).2⟩
      · show 0 ≤ pAdd .i64 s.2.1 1
        rw [pAdd_i (by omega) (by omega)]; omega
      · show pAdd .i64 s.2.1 1 ≤ _
        rw [pAdd_i (by omega) (by omega)]
        show _ ≤ (s.1.length : Int)
        omega
    · rw [pLen_d, pLt_f (by omega), ifB_f]
      exact ⟨_, _, rfl, ⟨h1, h2, h3, h4, h5⟩, (hr _ _).1, fun h => by omega, fun _ => (hr _ _).2⟩

theorem one_ok (N : Nat) (s : SrcT) (k : Int) (hs : srcOk s) (hk : k ≤ 4611686018427387904) : ∃ b s', spec_l01Src_one N s k = some (b, s') ∧ srcOk s' := by
  obtain ⟨v, s', h, hs', _⟩ := n_ok N s k hs hk
  exact ⟨_, s', by unfold spec_l01Src_one; rw [h, bindO_s], hs'⟩

theorem pick_ok (N : Nat) (s : SrcT) (l : List ByteArray) (hs : srcOk s) (h0 : 0 < l.length) (hk : l.length ≤ 1048576) : ∃ x s', spec_l01Src_pick N s l = some (x, s') ∧ srcOk s' ∧ x ∈ l := by
  obtain ⟨v, s', h, hs', h1, h2, h3⟩ := n_ok N s (pLen l) hs (by rw [pLen_d]; omega)
  rw [pLen_d] at h2 h3
  obtain ⟨p, rfl⟩ : ∃ p : Nat, v = (p : Int) := ⟨v.toNat, by omega⟩
  have hlt : p < l.length := by
    by_cases q : l.length ≤ 1
    · have := h2 (by omega); omega
    · have := h3 (by omega); omega
  exact ⟨l[p], s', by unfold spec_l01Src_pick; rw [h, bindO_s, idx_lt hlt, bindO_s], hs', List.getElem_mem hlt⟩
end Go.AE.F
namespace Go.AE.F
open Go.AE
set_option maxRecDepth 100000
theorem first_e9 (M : Nat) : spec_l01First (M+12) (ByteArray.mk #[195, 169]) = some (233, 2) := by
  have h : pSEq (bytesOf [195,169]) (ssub (ByteArray.mk #[195, 169]) 0 2) = true := pSEq_self _
  have e : spec_l01First (M+12) (ByteArray.mk #[195, 169]) = ifB (pNot (pSEq (bytesOf [195,169]) (ssub (ByteArray.mk #[195, 169]) 0 2))) (some (65533, 1)) (some (233, 2)) := rfl
  rw [e, h]; rfl
theorem first_4e00 (M : Nat) : spec_l01First (M+12) (ByteArray.mk #[228, 184, 128, 97]) = some (19968, 3) := by
  have h : pSEq (bytesOf [228,184,128]) (ssub (ByteArray.mk #[228, 184, 128, 97]) 0 3) = true := pSEq_self _
  have e : spec_l01First (M+12) (ByteArray.mk #[228, 184, 128, 97]) = ifB (pNot (pSEq (bytesOf [228,184,128]) (ssub (ByteArray.mk #[228, 184, 128, 97]) 0 3))) (some (65533, 1)) (some (19968, 3)) := rfl
  rw [e, h]; rfl
theorem pts_step {N n : Nat} {R : Type} (s : ByteArray) (i w p : Int) (out : List Int) (k : List Int × Unit → Option R) (h0 : pLt i (pSize s) = true) (h1 : pLe 0 i = true) (h2 : pLe i (pSize s) = true) (h3 : pLe (pSize s) (pSize s) = true)
    (hf : spec_l01First N (ssub s i (pSize s)) = some (p, w)) (hl : pFit out [p] = true) :
    loopP (spec_l01Points.l3 N) (n + 1) (s, i, out, ()) k = loopP (spec_l01Points.l3 N) n (s, pAdd .i64 i w, out ++ [p], ()) k := by
  rw [loopP_s]
  unfold spec_l01Points.l3
  simp only [h0, h1, h2, h3, hf, hl, ifB_t, bindO_s]
  rfl
theorem pts_cafe (M : Nat) : spec_l01Points (M+12) (ByteArray.mk #[99, 97, 102, 195, 169]) = some [99, 97, 102, 233] := by
  have h0 := pts_step (N := M+12) (n := M+11) (R := List Int) (ByteArray.mk #[99, 97, 102, 195, 169]) 0 1 99 [] (fun d => some d.1) rfl rfl rfl rfl (rfl) rfl
  have h1 := pts_step (N := M+12) (n := M+10) (R := List Int) (ByteArray.mk #[99, 97, 102, 195, 169]) 1 1 97 [99] (fun d => some d.1) rfl rfl rfl rfl (rfl) rfl
  have h2 := pts_step (N := M+12) (n := M+9) (R := List Int) (ByteArray.mk #[99, 97, 102, 195, 169]) 2 1 102 [99,97] (fun d => some d.1) rfl rfl rfl rfl (rfl) rfl
  have h3 := pts_step (N := M+12) (n := M+8) (R := List Int) (ByteArray.mk #[99, 97, 102, 195, 169]) 3 2 233 [99,97,102] (fun d => some d.1) rfl rfl rfl rfl (first_e9 M) rfl
  unfold spec_l01Points
  exact h0.trans (h1.trans (h2.trans (h3.trans rfl)))
theorem pts_one (M : Nat) : spec_l01Points (M+12) (ByteArray.mk #[228, 184, 128, 97]) = some [19968, 97] := by
  have e : spec_l01Points (M+12) (ByteArray.mk #[228, 184, 128, 97]) = bindO (spec_l01First (M+12) (ByteArray.mk #[228, 184, 128, 97])) (fun y12 => ifB (pFit [] [y12.1]) (loopP (spec_l01Points.l3 (M+12)) (M+11) ((ByteArray.mk #[228, 184, 128, 97]), (pAdd Go.IntKind.i64 0 y12.2), (pApp [] [y12.1]), ()) (fun d =>
    let x13 := d.1;
    some x13)) none) := rfl
  rw [e, first_4e00]; rfl

/-- what is drawn is short -/
def shortP (x : Option (List Int)) : Prop := ∃ p, x = some p ∧ p.length ≤ 8
def shortQ (x : Option (List Int)) : Prop := ∃ p, x = some p ∧ p.length ≤ 8 ∧ ptsG p = true
theorem cand_words_0 (M : Nat) : shortP (spec_l01Points (M + 12) (ByteArray.mk #[97, 98])) := ⟨[97, 98], rfl, by decide⟩
theorem cand_words_1 (M : Nat) : shortP (spec_l01Points (M + 12) (ByteArray.mk #[97, 98, 99])) := ⟨[97, 98, 99], rfl, by decide⟩
theorem cand_words_2 (M : Nat) : shortP (spec_l01Points (M + 12) (ByteArray.mk #[97, 98, 100])) := ⟨[97, 98, 100], rfl, by decide⟩
theorem cand_words_3 (M : Nat) : shortP (spec_l01Points (M + 12) (ByteArray.mk #[97])) := ⟨[97], rfl, by decide⟩
theorem cand_words_4 (M : Nat) : shortP (spec_l01Points (M + 12) (ByteArray.mk #[98])) := ⟨[98], rfl, by decide⟩
theorem cand_words_5 (M : Nat) : shortP (spec_l01Points (M + 12) (ByteArray.mk #[109, 97, 107, 101])) := ⟨[109, 97, 107, 101], rfl, by decide⟩
theorem cand_words_6 (M : Nat) : shortP (spec_l01Points (M + 12) (ByteArray.mk #[109, 97, 120])) := ⟨[109, 97, 120], rfl, by decide⟩
theorem cand_words_7 (M : Nat) : shortP (spec_l01Points (M + 12) (ByteArray.mk #[109, 97, 95, 49])) := ⟨[109, 97, 95, 49], rfl, by decide⟩
theorem cand_words_8 (M : Nat) : shortP (spec_l01Points (M + 12) (ByteArray.mk #[99, 97, 102, 195, 169])) := ⟨[99, 97, 102, 233], pts_cafe M, by decide⟩
theorem cand_words_9 (M : Nat) : shortP (spec_l01Points (M + 12) (ByteArray.mk #[228, 184, 128, 97])) := ⟨[19968, 97], pts_one M, by decide⟩
theorem cand_words (M : Nat) (x : ByteArray) (h : x ∈ [(ByteArray.mk #[97, 98]), (ByteArray.mk #[97, 98, 99]), (ByteArray.mk #[97, 98, 100]), (ByteArray.mk #[97]), (ByteArray.mk #[98]), (ByteArray.mk #[109, 97, 107, 101]), (ByteArray.mk #[109, 97, 120]), (ByteArray.mk #[109, 97, 95, 49]), (ByteArray.mk #[99, 97, 102, 195, 169]), (ByteArray.mk #[228, 184, 128, 97])]) : shortP (spec_l01Points (M + 12) x) := by
  simp only [List.mem_cons, List.not_mem_nil, or_false] at h
  rcases h with h | h | h | h | h | h | h | h | h | h
  · rw [h]; exact cand_words_0 M
  · rw [h]; exact cand_words_1 M
  · rw [h]; exact cand_words_2 M
  · rw [h]; exact cand_words_3 M
  · rw [h]; exact cand_words_4 M
  · rw [h]; exact cand_words_5 M
  · rw [h]; exact cand_words_6 M
  · rw [h]; exact cand_words_7 M
  · rw [h]; exact cand_words_8 M
  · rw [h]; exact cand_words_9 M
theorem pref_words_0 (M : Nat) : shortQ (spec_l01Points (M + 12) (ByteArray.mk #[])) := ⟨[], rfl, by decide, by decide⟩
theorem pref_words_1 (M : Nat) : shortQ (spec_l01Points (M + 12) (ByteArray.mk #[97])) := ⟨[97], rfl, by decide, by decide⟩
theorem pref_words_2 (M : Nat) : shortQ (spec_l01Points (M + 12) (ByteArray.mk #[97, 98])) := ⟨[97, 98], rfl, by decide, by decide⟩
theorem pref_words_3 (M : Nat) : shortQ (spec_l01Points (M + 12) (ByteArray.mk #[109])) := ⟨[109], rfl, by decide, by decide⟩
theorem pref_words_4 (M : Nat) : shortQ (spec_l01Points (M + 12) (ByteArray.mk #[109, 97])) := ⟨[109, 97], rfl, by decide, by decide⟩
theorem pref_words_5 (M : Nat) : shortQ (spec_l01Points (M + 12) (ByteArray.mk #[120])) := ⟨[120], rfl, by decide, by decide⟩
theorem pref_words_6 (M : Nat) : shortQ (spec_l01Points (M + 12) (ByteArray.mk #[99, 97, 102])) := ⟨[99, 97, 102], rfl, by decide, by decide⟩
theorem pref_words (M : Nat) (x : ByteArray) (h : x ∈ [(ByteArray.mk #[]), (ByteArray.mk #[97]), (ByteArray.mk #[97, 98]), (ByteArray.mk #[109]), (ByteArray.mk #[109, 97]), (ByteArray.mk #[120]), (ByteArray.mk #[99, 97, 102])]) : shortQ (spec_l01Points (M + 12) x) := by
  simp only [List.mem_cons, List.not_mem_nil, or_false] at h
  rcases h with h | h | h | h | h | h | h
  · rw [h]; exact pref_words_0 M
  · rw [h]; exact pref_words_1 M
  · rw [h]; exact pref_words_2 M
  · rw [h]; exact pref_words_3 M
  · rw [h]; exact pref_words_4 M
  · rw [h]; exact pref_words_5 M
  · rw [h]; exact pref_words_6 M

theorem cand_ok (M : Nat) (s : SrcT) (hs : srcOk s) : ∃ c s', spec_l01Src_l15Cand (M + 12) s = some (c, s') ∧ srcOk s' ∧ c.length ≤ 50 := by
  obtain ⟨x, s1, h1, hs1, hm⟩ := pick_ok (M + 12) s [(ByteArray.mk #[97, 98]), (ByteArray.mk #[97, 98, 99]), (ByteArray.mk #[97, 98, 100]), (ByteArray.mk #[97]), (ByteArray.mk #[98]), (ByteArray.mk #[109, 97, 107, 101]), (ByteArray.mk #[109, 97, 120]), (ByteArray.mk #[109, 97, 95, 49]), (ByteArray.mk #[99, 97, 102, 195, 169]), (ByteArray.mk #[228, 184, 128, 97])] hs (by decide) (by decide)
  obtain ⟨p, h2, h3⟩ := cand_words M x hm
  refine ⟨p, s1, ?_, hs1, by omega⟩
  unfold spec_l01Src_l15Cand
  simp only [h1, h2, bindO_s]

theorem pref_ok (M : Nat) (s : SrcT) (hs : srcOk s) : ∃ c s', spec_l01Src_l15Prefix (M + 12) s = some (c, s') ∧ srcOk s' ∧ c.length ≤ 8 ∧ ptsG c = true := by
  obtain ⟨x, s1, h1, hs1, hm⟩ := pick_ok (M + 12) s [(ByteArray.mk #[]), (ByteArray.mk #[97]), (ByteArray.mk #[97, 98]), (ByteArray.mk #[109]), (ByteArray.mk #[109, 97]), (ByteArray.mk #[120]), (ByteArray.mk #[99, 97, 102])] hs (by decide) (by decide)
  obtain ⟨p, h2, h3, h4⟩ := pref_words M x hm
  refine ⟨p, s1, ?_, hs1, h3, h4⟩
  unfold spec_l01Src_l15Prefix
  simp only [h1, h2, bindO_s]

theorem cl5 (M : Nat) {R : Type} (k : SrcT × List (List Int) × Unit → Option R) : ∀ (m n : Nat) (s : SrcT) (out : List (List Int)), m < n → srcOk s → out.length + m ≤ 1000 → (∀ x ∈ out, x.length ≤ 50) →
    ∃ s' out', loopP (spec_l01Src_l15Cands.l5 (M + 12)) n ((m : Int), s, out, ()) k = k (s', out', ()) ∧ srcOk s' ∧ out'.length ≤ out.length + m ∧ ∀ x ∈ out', x.length ≤ 50 := by
  intro m
  induction m with
  | zero =>
    intro n s out hn hs ho hx
    obtain ⟨n, rfl⟩ := succ_of hn
    refine ⟨s, out, ?_, hs, by omega, hx⟩
    rw [loopP_s]; unfold spec_l01Src_l15Cands.l5; simp only []
    rw [pGt_f (by omega), ifB_f]
  | succ m ih =>
    intro n s out hn hs ho hx
    obtain ⟨n, rfl⟩ := succ_of hn
    obtain ⟨c, s1, h1, hs1, hc⟩ := cand_ok M s hs
    have e : pSub .i64 ((m + 1 : Nat) : Int) 1 = (m : Int) := by rw [pSub_i (by omega) (by omega)]; omega
    rw [loopP_s]; unfold spec_l01Src_l15Cands.l5; simp only []
    rw [pGt_t (by omega), ifB_t, h1, bindO_s, pFit_t (by simp; omega), ifB_t, e]
    obtain ⟨s2, o2, g1, g2, g3, g4⟩ := ih n s1 (pApp out [c]) (by omega) hs1 (by simp [pApp]; omega) (fun x h => by
      simp only [pApp, List.mem_append, List.mem_singleton] at h
      rcases h with h | h
      · exact hx x h
      · rw [h]; exact hc)
    exact ⟨s2, o2, g1, g2, by simp [pApp] at g3; omega, g4⟩

theorem cl12 (M : Nat) {R : Type} (s : SrcT) (out : List (List Int)) (k : SrcT × List (List Int) × List Int × Unit → Option R) : ∀ (m n : Nat) (z : List Int), m < n → z.length + m ≤ 1000 →
    ∃ z', loopP (spec_l01Src_l15Cands.l12 M) n ((m : Int), s, out, z, ()) k = k (s, out, z', ()) ∧ z'.length ≤ z.length + m := by
  intro m
  induction m with
  | zero =>
    intro n z hn hz
    obtain ⟨n, rfl⟩ := succ_of hn
    refine ⟨z, ?_, by omega⟩
    rw [loopP_s]; unfold spec_l01Src_l15Cands.l12; simp only []
    rw [pGt_f (by omega), ifB_f]
  | succ m ih =>
    intro n z hn hz
    obtain ⟨n, rfl⟩ := succ_of hn
    have e : pSub .i64 ((m + 1 : Nat) : Int) 1 = (m : Int) := by rw [pSub_i (by omega) (by omega)]; omega
    rw [loopP_s]; unfold spec_l01Src_l15Cands.l12; simp only []
    rw [pGt_t (by omega), ifB_t, pFit_t (by simp; omega), ifB_t, e]
    obtain ⟨z2, g1, g2⟩ := ih n (pApp z [122]) (by omega) (by simp [pApp]; omega)
    exact ⟨z2, g1, by simp [pApp] at g2; omega⟩

/-- candidates, as they are drawn -/
def drawnC (o : Option (List (List Int) × SrcT)) : Prop := ∃ l s', o = some (l, s') ∧ srcOk s' ∧ l.length ≤ 50 ∧ ∀ x ∈ l, x.length ≤ 50

theorem app_50 {out : List (List Int)} {c : List Int} (hx : ∀ x ∈ out, x.length ≤ 50) (hc : c.length ≤ 50) : ∀ x ∈ pApp out [c], x.length ≤ 50 := fun x h => by
  simp only [pApp, List.mem_append, List.mem_singleton] at h
  rcases h with h | h
  · exact hx x h
  · rw [h]; exact hc

theorem tail_ok (M : Nat) (s : SrcT) (hs : srcOk s) (out : List (List Int)) (ho : out.length ≤ 45) (hx : ∀ x ∈ out, x.length ≤ 50) : drawnC (
      bindO (spec_l01Src_one (M + 60) s 15) fun y65 =>
      ifB y65.1 (
        bindO (spec_l01Src_n (M + 60) y65.2 3) fun y66 =>
        ifB (pEq y66.1 0) (
          ifB (pFit out [[]]) (
            some ((pApp out [[]]), y66.2)) (
            none)) (
          ifB (pEq y66.1 1) (
            ifB (pFit out [[32]]) (
              some ((pApp out [[32]]), y66.2)) (
              none)) (
            bindO (spec_l01Src_n (M + 60) y66.2 3) fun y67 =>
            loopP (spec_l01Src_l15Cands.l12 (M + 60)) (M + 60) ((pAdd Go.IntKind.i64 y67.1 39), y67.2, out, [], ()) (
              fun d =>
              let x72 := d.1;
              let x73 := d.2.1;
              let x74 := d.2.2.1;
              ifB (pFit x73 [x74]) (
                some ((pApp x73 [x74]), x72)) (
                none))))) (
        some (out, y65.2))) := by
  obtain ⟨b, s1, h1, hs1⟩ := one_ok (M + 60) s 15 hs (by omega)
  rw [h1, bindO_s]
  simp only []
  cases b with
  | false => exact ⟨out, s1, rfl, hs1, by omega, hx⟩
  | true =>
    obtain ⟨v, s2, h2, hs2, v1, v2, v3⟩ := n_ok (M + 60) s1 3 hs1 (by omega)
    rw [ifB_t, h2, bindO_s]
    simp only []
    rw [pFit_t (by simp; omega), pFit_t (by simp; omega), ifB_t, ifB_t]
    cases pEq v 0 with
    | true => exact ⟨_, s2, rfl, hs2, by simp [pApp]; omega, app_50 hx (by simp)⟩
    | false =>
      rw [ifB_f]
      cases pEq v 1 with
      | true => exact ⟨_, s2, rfl, hs2, by simp [pApp]; omega, app_50 hx (by simp)⟩
      | false =>
        rw [ifB_f]
        obtain ⟨w, s3, h3, hs3, w1, w2, w3⟩ := n_ok (M + 60) s2 3 hs2 (by omega)
        rw [h3, bindO_s]
        have w4 := w3 (by omega)
        obtain ⟨q, rfl⟩ : ∃ q : Nat, w = (q : Int) := ⟨w.toNat, by omega⟩
        have e : pAdd .i64 (q : Int) 39 = ((q + 39 : Nat) : Int) := by rw [pAdd_i (by omega) (by omega)]; omega
        simp only []
        rw [e]
        obtain ⟨z, g1, g2⟩ := cl12 (M + 60) s3 out (fun d =>
              let x72 := d.1;
              let x73 := d.2.1;
              let x74 := d.2.2.1;
              ifB (pFit x73 [x74]) (
                some ((pApp x73 [x74]), x72)) (
                none)) (q + 39) (M + 60) [] (by omega) (by simp; omega)
        rw [g1]
        simp only []
        rw [pFit_t (by simp; omega), ifB_t]
        simp only [List.length_nil] at g2
        exact ⟨_, s3, rfl, hs3, by simp [pApp]; omega, app_50 hx (by omega)⟩

theorem cands_ok (M : Nat) (s : SrcT) (hs : srcOk s) : drawnC (spec_l01Src_l15Cands (M + 60) s) := by
  unfold spec_l01Src_l15Cands
  obtain ⟨v, s1, h1, hs1, v1, v2, v3⟩ := n_ok (M + 60) s 6 hs (by omega)
  obtain ⟨b, s2, h2, hs2⟩ := one_ok (M + 60) s1 30 hs1 (by omega)
  rw [h1, bindO_s]
  simp only []
  rw [h2, bindO_s]
  simp only []
  cases b with
  | true =>
    obtain ⟨w, s3, h3, hs3, w1, w2, w3⟩ := n_ok (M + 60) s2 3 hs2 (by omega)
    have w4 := w3 (by omega)
    obtain ⟨q, rfl⟩ : ∃ q : Nat, w = (q : Int) := ⟨w.toNat, by omega⟩
    have e : pAdd .i64 39 (q : Int) = ((q + 39 : Nat) : Int) := by rw [pAdd_i (by omega) (by omega)]; omega
    rw [ifB_t, h3, bindO_s]
    simp only []
    rw [e]
    obtain ⟨s4, o4, g1, g2, g3, g4⟩ := cl5 (M + 48) _ (q + 39) (M + 60) s3 [] (by omega) hs3 (by simp; omega) (fun x h => by cases h)
    rw [g1]
    exact tail_ok M s4 g2 o4 (by simp at g3; omega) g4
  | false =>
    have v4 := v3 (by omega)
    obtain ⟨q, rfl⟩ : ∃ q : Nat, v = (q : Int) := ⟨v.toNat, by omega⟩
    rw [ifB_f]
    obtain ⟨s4, o4, g1, g2, g3, g4⟩ := cl5 (M + 48) _ q (M + 60) s2 [] (by omega) hs2 (by simp; omega) (fun x h => by cases h)
    rw [g1]
    exact tail_ok M s4 g2 o4 (by simp at g3; omega) g4

theorem lwCopy_eq (N : Nat) (a : List Int) (h : a.length ≤ 68719476736) : laws_lwCopy N a = some a := by
  unfold laws_lwCopy
  rw [pFit_t (by simp; exact h), ifB_t]
  rfl

theorem lwAll_loop {N : Nat} {R : Type} (l : List (List Int)) (hl : l.length ≤ 1048576) (hx : ∀ x ∈ l, x.length ≤ 68719476736) (k : List (List Int) × Unit → Option R) : ∀ (m i n : Nat), l.length - i = m → i ≤ l.length → m < n →
    loopP (laws_lwAll.l3 N) n (l, (i : Int), l.take i, ()) k = k (l, ()) := by
  intro m
  induction m with
  | zero =>
    intro i n hm hi hn
    obtain ⟨n, rfl⟩ := succ_of hn
    rw [loopP_s]; unfold laws_lwAll.l3; simp only [pLen_d]
    rw [pLt_f (by omega), ifB_f, List.take_of_length_le (by omega)]
  | succ m ih =>
    intro i n hm hi hn
    obtain ⟨n, rfl⟩ := succ_of hn
    have hlt : i < l.length := by omega
    rw [loopP_s]; unfold laws_lwAll.l3; simp only [pLen_d]
    rw [pLt_t (by omega), ifB_t, idx_lt hlt, bindO_s, lwCopy_eq N _ (hx _ (List.getElem_mem hlt)), bindO_s, pFit_t (by simp; omega), ifB_t, pAdd_i (by omega) (by omega)]
    have e : pApp (l.take i) [l[i]] = l.take (i + 1) := by rw [List.take_succ_eq_append_getElem hlt]; rfl
    rw [e]
    exact ih (i + 1) n (by omega) (by omega) (by omega)

theorem lwAll_eq (N : Nat) (l : List (List Int)) (hl : l.length ≤ 1048576) (hN : l.length < N) (hx : ∀ x ∈ l, x.length ≤ 68719476736) : laws_lwAll N l = some l := by
  unfold laws_lwAll
  exact lwAll_loop l hl hx _ _ 0 N rfl (by omega) (by omega)

theorem lwSame_eq (N : Nat) (a b : List Int) (ha : a.length ≤ 9223372036854775806) (hN : a.length < N) : laws_lwSame N a b = some (decide (a = b)) := by
  unfold laws_lwSame
  simp only [pLen_d]
  by_cases hl : a.length = b.length
  · rw [pNe_f (by omega), ifB_f]
    obtain ⟨h1, h2⟩ := eq_loop (R := Bool) (P := fun x y => some (pNe x y)) (xs := a) (ys := b) ha hl (step := laws_lwSame.l4 N) (fun i kn kx => by simp only [laws_lwSame.l4, bindO_s, pLen_d])
      (fun x _ y _ => ⟨_, rfl, by rw [pNe_d]; simp⟩) (onSum (fun _ => some true) (fun d => let x43 := d.1; some x43)) _ 0 N rfl (by omega) (by omega)
    rw [List.drop_zero, List.drop_zero] at h1 h2
    by_cases he : a = b
    · rw [decide_eq_true he]; exact h1 he
    · rw [decide_eq_false he]; exact h2 he
  · rw [pNe_t (by omega), ifB_t, decide_eq_false (fun h => hl (by rw [h]))]

theorem dn_max (p : Nat → Bool) (m : Nat) (hm : p m = true) : ∀ n, m ≤ n → m ≤ dn p n
  | 0, h => h
  | n + 1, h => by
    unfold dn
    split
    · exact h
    · rename_i q
      by_cases e : m = n + 1
      · rw [e] at hm; exact absurd hm q
      · exact dn_max p m hm n (by omega)

/-- the points with which all that match begin -/
def comM (l : List (List Int)) (p : List Int) : List Int := match matG p l with | [] => p | x :: f => x.take (comN x (x :: f) x.length)

theorem com_pre (l : List (List Int)) (p : List Int) : begG (comM l p) p = true := by
  unfold comM
  cases hf : matG p l with
  | nil => unfold begG; simp
  | cons y f =>
    show begG (y.take (comN y (y :: f) y.length)) p = true
    have hall : ∀ c ∈ y :: f, begG c p = true := fun c hc => by rw [← hf] at hc; exact (List.mem_filter.1 hc).2
    have hy := hall y (by simp)
    unfold begG at hy
    simp only [Bool.and_eq_true, decide_eq_true_eq] at hy
    have hm : ((y :: f).all fun c => begN y c p.length) = true := List.all_eq_true.2 fun c hc => by
      unfold begN
      rw [hy.2]
      exact hall c hc
    have := dn_max (fun i => (y :: f).all fun c => begN y c i) p.length hm y.length hy.1
    have h2 : p.length ≤ comN y (y :: f) y.length := this
    unfold begG
    rw [List.take_take, Nat.min_eq_left h2, hy.2, List.length_take, decide_eq_true rfl, decide_eq_true (by omega)]
    rfl

end Go.AE.F
namespace Go.AE.F
open Go.AE
/-- it comes to something of which P holds -/
def Tot {A : Type} (P : A → Prop) (o : Option A) : Prop := ∃ x, o = some x ∧ P x
theorem Tot.bind {A B : Type} {P : A → Prop} {Q : B → Prop} {o : Option A} {f : A → Option B} (h : Tot P o) (k : ∀ x, P x → Tot Q (f x)) : Tot Q (bindO o f) := by
  obtain ⟨x, h1, h2⟩ := h
  rw [h1, bindO_s]; exact k x h2
theorem Tot.ite {A : Type} {P : A → Prop} {c : Bool} {a b : Option A} (h1 : c = true → Tot P a) (h2 : c = false → Tot P b) : Tot P (ifB c a b) := by
  cases c with
  | true => exact h1 rfl
  | false => exact h2 rfl
theorem Tot.both {A : Type} {P : A → Prop} {c : Bool} {a b : Option A} (h1 : Tot P a) (h2 : Tot P b) : Tot P (ifB c a b) := Tot.ite (fun _ => h1) (fun _ => h2)
theorem Tot.ret {A : Type} {P : A → Prop} {x : A} (h : P x) : Tot P (some x) := ⟨x, rfl, h⟩
theorem Tot.fit {A B : Type} {P : B → Prop} {xs ys : List A} {a : Option B} (h : xs.length + ys.length ≤ 68719476736) (h1 : Tot P a) : Tot P (ifB (pFit xs ys) a none) := by rw [pFit_t h]; exact h1

theorem nT (N : Nat) (s : SrcT) (k : Int) (hs : srcOk s) (hk : k ≤ 4611686018427387904) : Tot (fun r : Int × SrcT => srcOk r.2 ∧ 0 ≤ r.1 ∧ (k ≤ 1 → r.1 = 0) ∧ (1 < k → r.1 < k)) (spec_l01Src_n N s k) := by
  obtain ⟨v, s', h, h1, h2, h3, h4⟩ := n_ok N s k hs hk
  exact ⟨(v, s'), h, h1, h2, h3, h4⟩
theorem oneT (N : Nat) (s : SrcT) (k : Int) (hs : srcOk s) (hk : k ≤ 4611686018427387904) : Tot (fun r : Bool × SrcT => srcOk r.2) (spec_l01Src_one N s k) := by
  obtain ⟨v, s', h, h1⟩ := one_ok N s k hs hk
  exact ⟨(v, s'), h, h1⟩
theorem idxT {A : Type} (l : List A) (i : Int) (h0 : 0 ≤ i) (h1 : i < l.length) : Tot (fun x => x ∈ l) (idx l i) := by
  obtain ⟨p, rfl⟩ : ∃ p : Nat, i = (p : Int) := ⟨i.toNat, by omega⟩
  exact ⟨_, idx_lt (by omega), List.getElem_mem _⟩

theorem point_tot (N : Nat) (s : SrcT) (hs : srcOk s) : Tot (fun r : Int × SrcT => srcOk r.2) (spec_l01Src_point N s) := by
  unfold spec_l01Src_point
  refine Tot.bind (nT N s 14 hs (by omega)) fun r h => ?_
  refine Tot.both (Tot.ret h.1) (Tot.both (Tot.ret h.1) (Tot.both ?_ (Tot.both ?_ (Tot.both ?_ (Tot.both ?_ (Tot.both ?_ ?_))))))
  · refine Tot.bind (nT N _ 5 h.1 (by omega)) fun q hq => ?_
    have := hq.2.2.2 (by omega)
    exact Tot.bind (idxT _ _ hq.2.1 (by simp; omega)) fun _ _ => Tot.bind (idxT _ _ hq.2.1 (by simp; omega)) fun _ _ => Tot.ret hq.1
  · refine Tot.bind (nT N _ 20 h.1 (by omega)) fun q hq => ?_
    have := hq.2.2.2 (by omega)
    exact Tot.bind (idxT _ _ hq.2.1 (by simp; omega)) fun _ _ => Tot.bind (idxT _ _ hq.2.1 (by simp; omega)) fun _ _ => Tot.ret hq.1
  · refine Tot.bind (nT N _ 8 h.1 (by omega)) fun q hq => ?_
    have := hq.2.2.2 (by omega)
    exact Tot.bind (idxT _ _ hq.2.1 (by simp; omega)) fun _ _ => Tot.bind (idxT _ _ hq.2.1 (by simp; omega)) fun _ _ => Tot.ret hq.1
  · refine Tot.bind (nT N _ 5 h.1 (by omega)) fun q hq => ?_
    have := hq.2.2.2 (by omega)
    exact Tot.bind (idxT _ _ hq.2.1 (by simp; omega)) fun _ _ => Tot.bind (idxT _ _ hq.2.1 (by simp; omega)) fun _ _ => Tot.ret hq.1
  · exact Tot.bind (nT N _ 10 h.1 (by omega)) fun q hq => Tot.ret hq.1
  · exact Tot.bind (nT N _ 6 h.1 (by omega)) fun q hq => Tot.ret hq.1

theorem dpoints_loop {N : Nat} {R : Type} (k : SrcT × List Int × Unit → Option R) : ∀ (m n : Nat) (s : SrcT) (out : List Int), m < n → srcOk s → out.length + m ≤ 100000 →
    ∃ s' l, loopP (spec_l01Src_points.l2 N) n ((m : Int), s, out, ()) k = k (s', l, ()) ∧ srcOk s' ∧ l.length ≤ out.length + m := by
  intro m
  induction m with
  | zero =>
    intro n s out hn hs ho
    obtain ⟨n, rfl⟩ := succ_of hn
    refine ⟨s, out, ?_, hs, by omega⟩
    rw [loopP_s]; unfold spec_l01Src_points.l2; simp only []
    rw [pGt_f (by omega), ifB_f]
  | succ m ih =>
    intro n s out hn hs ho
    obtain ⟨n, rfl⟩ := succ_of hn
    obtain ⟨⟨p, s1⟩, h1, hs1⟩ := point_tot N s hs
    have e : pSub .i64 ((m + 1 : Nat) : Int) 1 = (m : Int) := by rw [pSub_i (by omega) (by omega)]; omega
    rw [loopP_s]; unfold spec_l01Src_points.l2; simp only []
    rw [pGt_t (by omega), ifB_t, h1, bindO_s]
    simp only []
    rw [pFit_t (by simp; omega), ifB_t, e]
    obtain ⟨s2, l, g1, g2, g3⟩ := ih n s1 (pApp out [p]) (by omega) hs1 (by simp [pApp]; omega)
    exact ⟨s2, l, g1, g2, by simp [pApp] at g3; omega⟩

theorem dpoints_tot (N : Nat) (s : SrcT) (k : Int) (hs : srcOk s) (h0 : 0 ≤ k) (hk : k ≤ 100000) (hN : 100001 < N) : Tot (fun r : List Int × SrcT => srcOk r.2 ∧ (r.1.length : Int) ≤ k) (spec_l01Src_points N s k) := by
  obtain ⟨p, rfl⟩ : ∃ p : Nat, k = (p : Int) := ⟨k.toNat, by omega⟩
  unfold spec_l01Src_points
  obtain ⟨s', l, g1, g2, g3⟩ := dpoints_loop (N := N) (fun d =>
    let x17 := d.1;
    let x18 := d.2.1;
    some (x18, x17)) p N s [] (by omega) hs (by simp; omega)
  exact ⟨(l, s'), g1, g2, by simp at g3; show (l.length : Int) ≤ p; omega⟩

end Go.AE.F
namespace Go.AE.F
open Go.AE
def shortB (r : BufT × SrcT) : Prop := srcOk r.2 ∧ r.1.1.length ≤ 1000

theorem btail_tot (N : Nat) (l : List Int) (hl : l.length ≤ 400) (s : SrcT) (hs : srcOk s) : Tot shortB (
    bindO (spec_l01Src_n N s (pAdd Go.IntKind.i64 (pLen l) 1)) fun y40 =>
    bindO (spec_l01Src_n N y40.2 (pAdd Go.IntKind.i64 (pLen l) 1)) fun y41 =>
    bindO (spec_l01Src_one N y41.2 15) fun y42 =>
    ifB y42.1 (
      bindO (spec_l01Src_n N y42.2 3) fun y43 =>
      ifB (pEq y43.1 0) (
        bindO (spec_l01Src_n N y43.2 2) fun y44 =>
        bindO (idx ([(-1), (pAdd Go.IntKind.i64 (pLen l) 1)]) y44.1) fun y45 =>
        bindO (idx ([(-1), (pAdd Go.IntKind.i64 (pLen l) 1)]) y44.1) fun y46 =>
        some ((l, (y46, (y41.1, ()))), y44.2)) (
        ifB (pEq y43.1 1) (
          bindO (spec_l01Src_n N y43.2 2) fun y47 =>
          bindO (idx ([(-1), (pAdd Go.IntKind.i64 (pLen l) 1)]) y47.1) fun y48 =>
          bindO (idx ([(-1), (pAdd Go.IntKind.i64 (pLen l) 1)]) y47.1) fun y49 =>
          some ((l, (y40.1, (y49, ()))), y47.2)) (
          ifB (pFit l [55296]) (
            some (((pApp l [55296]), (y40.1, (y41.1, ()))), y43.2)) (
            none)))) (
      some ((l, (y40.1, (y41.1, ()))), y42.2))) := by
  have e : pAdd .i64 (pLen l) 1 = (l.length : Int) + 1 := by rw [pLen_d, pAdd_i (by omega) (by omega)]
  rw [e]
  refine Tot.bind (nT N s _ hs (by omega)) fun a ha => ?_
  refine Tot.bind (nT N _ _ ha.1 (by omega)) fun b hb => ?_
  refine Tot.bind (oneT N _ 15 hb.1 (by omega)) fun o ho => ?_
  have hlen : l.length ≤ 1000 := by omega
  refine Tot.both ?_ (Tot.ret ⟨ho, hlen⟩)
  refine Tot.bind (nT N _ 3 ho (by omega)) fun u hu => ?_
  refine Tot.both ?_ (Tot.both ?_ ?_)
  · refine Tot.bind (nT N _ 2 hu.1 (by omega)) fun w hw => ?_
    have hw2 := hw.2.2.2 (by omega)
    exact Tot.bind (idxT _ _ hw.2.1 (by simp; omega)) fun _ _ => Tot.bind (idxT _ _ hw.2.1 (by simp; omega)) fun _ _ => Tot.ret ⟨hw.1, hlen⟩
  · refine Tot.bind (nT N _ 2 hu.1 (by omega)) fun w hw => ?_
    have hw2 := hw.2.2.2 (by omega)
    exact Tot.bind (idxT _ _ hw.2.1 (by simp; omega)) fun _ _ => Tot.bind (idxT _ _ hw.2.1 (by simp; omega)) fun _ _ => Tot.ret ⟨hw.1, hlen⟩
  · exact Tot.fit (by simp; omega) (Tot.ret ⟨hu.1, by show (pApp l [55296]).length ≤ 1000; simp [pApp]; omega⟩)

theorem dbuf_tot (N : Nat) (hN : 100001 < N) (s : SrcT) (hs : srcOk s) : Tot shortB (spec_l01Src_l02Buf N s) := by
  unfold spec_l01Src_l02Buf
  have hz := hs.2.2.2
  have e1 : pMul .i64 2 s.2.2.2.1 = 2 * s.2.2.2.1 := wrap_i64 (by omega) (by omega)
  rw [e1, pAdd_i (a := 14) (by omega) (by omega)]
  refine Tot.bind (nT N s _ hs (by omega)) fun v hv => ?_
  have hv2 := hv.2.2.2 (by omega)
  refine Tot.bind (dpoints_tot N _ _ hv.1 hv.2.1 (by omega) hN) fun p hp => ?_
  have hpl := hp.2
  refine Tot.bind (oneT N _ 50 hp.1 (by omega)) fun o ho => ?_
  refine Tot.both ?_ ?_
  · refine Tot.bind (nT N _ 4 ho (by omega)) fun w hw => ?_
    have hw2 := hw.2.2.2 (by omega)
    have hw0 := hw.2.1
    have e2 : pAdd .i64 298 w.1 = 298 + w.1 := pAdd_i (by omega) (by omega)
    rw [e2]
    refine Tot.bind (dpoints_tot N _ _ hw.1 (by omega) (by omega) hN) fun q hq => ?_
    have hql := hq.2
    exact btail_tot N q.1 (by omega) q.2 hq.1
  · exact btail_tot N p.1 (by omega) o.2 ho

theorem lwSame_self (N : Nat) (l : List Int) (h : l.length ≤ 1000) (hN : 2000 < N) : laws_lwSame N l l = some true := by rw [lwSame_eq N l l (by omega) (by omega), decide_eq_true rfl]

end Go.AE.F
namespace Go.AE.F
open Go.AE
abbrev OutT := BufT × List Int × Int × Unit

/-- where a place stands after points from a up to b have been replaced by d more -/
def mvG (p a b d : Int) : Int := if p ≤ a then p else if p < b then a else p + d
def failG (c : Int) : OutT := (([], (0, (0, ()))), ([], (c, ())))
/-- what replacing comes to -/
def replG (b : BufT) (i j : Int) (ps : List Int) : OutT :=
  if i < 0 ∨ j < i ∨ (b.1.length : Int) < j then failG 8 else
  if 300 < (b.1.length : Int) - (j - i) + ps.length then failG 5 else
  ((sub b.1 0 i ++ ps ++ sub b.1 j b.1.length, ((if i = j ∧ b.2.1 = i then i + ps.length else mvG b.2.1 i j (ps.length - (j - i))), (mvG b.2.2.1 i j (ps.length - (j - i)), ()))), (sub b.1 i j, (0, ())))

theorem spec_moved_eq (N : Nat) (p a b d : Int) (h1 : -4611686018427387904 ≤ p + d) (h2 : p + d ≤ 4611686018427387904) : spec_l02Moved N p a b d = some (mvG p a b d) := by
  unfold spec_l02Moved mvG
  by_cases e1 : p ≤ a
  · rw [pLe_t e1, ifB_t, if_pos e1]
  · rw [pLe_f (by omega), ifB_f, if_neg e1]
    by_cases e2 : p < b
    · rw [pLt_t e2, ifB_t, if_pos e2]
    · rw [pLt_f (by omega), ifB_f, if_neg e2, pAdd_i (by omega) (by omega)]

theorem impl_moved_eq (N : Nat) (p a b d : Int) (h1 : -4611686018427387904 ≤ p + d) (h2 : p + d ≤ 4611686018427387904) : impl_replace_c1 N p a b d = some (mvG p a b d) := by
  unfold impl_replace_c1 mvG
  by_cases e1 : p ≤ a
  · rw [pLe_t e1, ifB_t, if_pos e1]
  · rw [pLe_f (by omega), ifB_f, if_neg e1]
    by_cases e2 : p < b
    · rw [pLt_t e2, ifB_t, if_pos e2]
    · rw [pLt_f (by omega), ifB_f, if_neg e2, pAdd_i (by omega) (by omega)]

theorem sub_len {A : Type} (x : List A) (i j : Int) (h0 : 0 ≤ i) (h1 : i ≤ j) (h2 : j ≤ x.length) : ((sub x i j).length : Int) = j - i := by
  unfold sub
  simp only [List.length_drop, List.length_take]
  omega

theorem grow_eq (N : Nat) (n : Int) (h0 : 0 ≤ n) (h1 : n ≤ 68719476736) : slices_Grow_Sint64_int64 N [] n = some [] := by
  unfold slices_Grow_Sint64_int64
  simp only [pLen_d, List.length_nil]
  rw [pLt_f (by omega), ifB_f]
  have e : pSub .i64 n (pSub .i64 0 ((0 : Nat) : Int)) = n := by
    rw [pSub_i (a := 0) (by omega) (by omega), pSub_i (by omega) (by omega)]; omega
  rw [e]
  by_cases h : n > 0
  · rw [pGt_t h, ifB_t, pEq_t rfl, ifB_t, ifB_t, pLe_t h0, ifB_t, pLe_t h1, ifB_t, pLe_t (Int.le_refl _), ifB_t, pLe_t (by omega), ifB_t, pLe_t (by omega), ifB_t]
    rfl
  · rw [pGt_f (by omega), ifB_f]

theorem concat3_eq (N : Nat) (x y z : List Int) (h : x.length + y.length + z.length ≤ 100000) (hN : 4 ≤ N) : slices_Concat_Sint64_int64 N [x, y, z] = some (x ++ y ++ z) := by
  obtain ⟨M, rfl⟩ : ∃ M, N = M + 4 := ⟨N - 4, by omega⟩
  unfold slices_Concat_Sint64_int64
  have i0 : idx [x, y, z] 0 = some x := rfl
  have i1 : idx [x, y, z] (0 + 1) = some y := rfl
  have i2 : idx [x, y, z] (0 + 1 + 1) = some z := rfl
  have l3 : pLen [x, y, z] = 3 := rfl
  simp only [loopP_s, slices_Concat_Sint64_int64.l3, slices_Concat_Sint64_int64.l11, l3]
  have a1 : pAdd .i64 0 (1 : Int) = 0 + 1 := rfl
  have a2 : pAdd .i64 (0 + 1) (1 : Int) = 0 + 1 + 1 := rfl
  have a3 : pAdd .i64 (0 + 1 + 1) (1 : Int) = 3 := rfl
  have b1 : pLt 0 3 = true := rfl
  have b2 : pLt (0 + 1) 3 = true := rfl
  have b3 : pLt (0 + 1 + 1) 3 = true := rfl
  have b4 : pLt 3 3 = false := rfl
  have s1 : pAdd .i64 0 (pLen x) = x.length := by rw [pLen_d, pAdd_i (by omega) (by omega)]; omega
  have s2 : pAdd .i64 (x.length : Int) (pLen y) = x.length + y.length := by rw [pLen_d, pAdd_i (by omega) (by omega)]
  have s3 : pAdd .i64 ((x.length : Int) + y.length) (pLen z) = x.length + y.length + z.length := by rw [pLen_d, pAdd_i (by omega) (by omega)]
  have p1 : pLt (x.length : Int) 0 = false := pLt_f (by omega)
  have p2 : pLt ((x.length : Int) + y.length) 0 = false := pLt_f (by omega)
  have p3 : pLt ((x.length : Int) + y.length + z.length) 0 = false := pLt_f (by omega)
  have g : slices_Grow_Sint64_int64 (M + 4) [] ((x.length : Int) + y.length + z.length) = some [] := grow_eq _ _ (by omega) (by omega)
  have f1 : pFit ([] : List Int) x = true := pFit_t (by simp; omega)
  have f2 : pFit (pApp [] x) y = true := pFit_t (by simp [pApp]; omega)
  have f3 : pFit (pApp (pApp [] x) y) z = true := pFit_t (by simp [pApp]; omega)
  simp only [b1, ifB_t, i0, bindO_s, s1, p1, ifB_f, a1, b2, i1, s2, p2, a2, b3, i2, s3, p3, a3, b4, g, f1, f2, f3]
  rfl

/-- replacing, as the program does it -/
theorem impl_replace_eq (N : Nat) (b : BufT) (i j : Int) (ps : List Int) (hb : bufG b = true) (hp : ps.length ≤ 4000) (hi : -4611686018427387904 ≤ i ∧ i ≤ 4611686018427387904) (hj : -4611686018427387904 ≤ j ∧ j ≤ 4611686018427387904) (hN : 4 ≤ N) :
    impl_replace N b i j ps = some (replG b i j ps) := by
  obtain ⟨h1, h2, h3, h4, h5⟩ := bufG_iff.1 hb
  have hl := ptsG_len h1
  unfold impl_replace replG
  rw [impl_size_eq N b.1 (by omega), impl_size_eq N ps (by omega)]
  simp only [bindO_s]
  by_cases e1 : i < 0
  · rw [pLt_t e1, ifB_t, if_pos (Or.inl e1)]; rfl
  rw [pLt_f (by omega), ifB_f]
  by_cases e2 : j < i
  · rw [pGt_t e2, ifB_t, if_pos (Or.inr (Or.inl e2))]; rfl
  rw [pGt_f (by omega), ifB_f]
  by_cases e3 : (b.1.length : Int) < j
  · rw [pGt_t e3, ifB_t, if_pos (Or.inr (Or.inr e3))]; rfl
  rw [pGt_f (by omega), ifB_f, if_neg (by omega)]
  have d1 : pSub .i64 j i = j - i := pSub_i (by omega) (by omega)
  have d2 : pSub .i64 (ps.length : Int) (j - i) = ps.length - (j - i) := pSub_i (by omega) (by omega)
  have d3 : pAdd .i64 (b.1.length : Int) (ps.length - (j - i)) = b.1.length + (ps.length - (j - i)) := pAdd_i (by omega) (by omega)
  rw [d1, d2, d3]
  by_cases e4 : 300 < (b.1.length : Int) - (j - i) + ps.length
  · rw [pGt_t (by omega), ifB_t, if_pos e4]; rfl
  rw [pGt_f (by omega), ifB_f, if_neg e4]
  simp only [pLen_d]
  have l1 := sub_len b.1 0 i (by omega) (by omega) (by omega)
  have l2 := sub_len b.1 j b.1.length (by omega) (by omega) (by omega)
  have l3 := sub_len b.1 i j (by omega) (by omega) (by omega)
  have q1 : pLe 0 0 = true := rfl
  have q2 : pLe 0 i = true := pLe_t (by omega)
  have q3 : pLe i (b.1.length : Int) = true := pLe_t (by omega)
  have q4 : pLe 0 j = true := pLe_t (by omega)
  have q5 : pLe j (b.1.length : Int) = true := pLe_t (by omega)
  have q6 : pLe (b.1.length : Int) (b.1.length : Int) = true := pLe_t (Int.le_refl _)
  have q7 : pLe i j = true := pLe_t (by omega)
  have c := concat3_eq N (sub b.1 0 i) ps (sub b.1 j b.1.length) (by omega) hN
  have k := clone_eq N (sub b.1 i j) (by omega)
  have m1 := impl_moved_eq N b.2.1 i j (ps.length - (j - i)) (by omega) (by omega)
  have m2 := impl_moved_eq N b.2.2.1 i j (ps.length - (j - i)) (by omega) (by omega)
  have a1 : pAdd .i64 i (ps.length : Int) = i + ps.length := pAdd_i (by omega) (by omega)
  simp only [q1, q2, q3, q4, q5, q6, q7, ifB_t, c, k, m1, m2, bindO_s, a1]
  by_cases e5 : i = j
  · by_cases e6 : b.2.1 = i
    · rw [pEq_t e5, ifB_t, bindO_s, pEq_t e6, ifB_t, if_pos ⟨e5, e6⟩]
    · rw [pEq_t e5, ifB_t, bindO_s, pEq_f e6, ifB_f, if_neg (fun h => e6 h.2)]
  · rw [pEq_f e5, ifB_f, bindO_s, ifB_f, if_neg (fun h => e5 h.1)]

/-- replacing, as the reference tells it -/
theorem spec_Replace_eq (N : Nat) (b : BufT) (i j : Int) (ps : List Int) (hb : bufG b = true) (hp : ptsG ps = true) (hi : -4611686018427387904 ≤ i ∧ i ≤ 4611686018427387904) (hj : -4611686018427387904 ≤ j ∧ j ≤ 4611686018427387904) (hN : 301 < N) :
    spec_BufReplace N b i j ps = some (replG b i j ps) := by
  obtain ⟨h1, h2, h3, h4, h5⟩ := bufG_iff.1 hb
  have hl := ptsG_len h1
  have hpl := ptsG_len hp
  unfold spec_BufReplace replG
  rw [spec_BufRight_eq N b hN, spec_PointsRight_eq N ps hN, hb, hp]
  have n1 : pNot true = false := rfl
  have g1 : pGt (ps.length : Int) 400 = false := pGt_f (by omega)
  simp only [pLen_d, bindO_s, n1, ifB_f, g1]
  by_cases e1 : i < 0
  · rw [pLt_t e1, ifB_t, bindO_s, ifB_t, bindO_s, ifB_t, if_pos (Or.inl e1)]; rfl
  rw [pLt_f (by omega), ifB_f, bindO_s]
  by_cases e2 : j < i
  · rw [pGt_t e2, ifB_t, bindO_s, ifB_t, if_pos (Or.inr (Or.inl e2))]; rfl
  rw [pGt_f (by omega), ifB_f, bindO_s]
  by_cases e3 : (b.1.length : Int) < j
  · rw [pGt_t e3, ifB_t, if_pos (Or.inr (Or.inr e3))]; rfl
  rw [pGt_f (a := j) (by omega), ifB_f, if_neg (by omega)]
  have d1 : pSub .i64 j i = j - i := pSub_i (by omega) (by omega)
  have d2 : pSub .i64 (ps.length : Int) (j - i) = ps.length - (j - i) := pSub_i (by omega) (by omega)
  have d3 : pSub .i64 (b.1.length : Int) (j - i) = b.1.length - (j - i) := pSub_i (by omega) (by omega)
  have d4 : pAdd .i64 ((b.1.length : Int) - (j - i)) ps.length = b.1.length - (j - i) + ps.length := pAdd_i (by omega) (by omega)
  rw [d1, d2, d3, d4]
  by_cases e4 : 300 < (b.1.length : Int) - (j - i) + ps.length
  · rw [pGt_t (by omega), ifB_t, if_pos e4]; rfl
  rw [pGt_f (by omega), ifB_f, if_neg e4]
  have l1 := sub_len b.1 0 i (by omega) (by omega) (by omega)
  have l2 := sub_len b.1 j b.1.length (by omega) (by omega) (by omega)
  have l3 := sub_len b.1 i j (by omega) (by omega) (by omega)
  have q1 : pLe 0 0 = true := rfl
  have q2 : pLe 0 i = true := pLe_t (by omega)
  have q3 : pLe i (b.1.length : Int) = true := pLe_t (by omega)
  have q4 : pLe 0 j = true := pLe_t (by omega)
  have q5 : pLe j (b.1.length : Int) = true := pLe_t (by omega)
  have q6 : pLe (b.1.length : Int) (b.1.length : Int) = true := pLe_t (Int.le_refl _)
  have q7 : pLe i j = true := pLe_t (by omega)
  have c := copy_eq N (sub b.1 0 i) (by omega)
  have k := copy_eq N (sub b.1 i j) (by omega)
  have m1 := spec_moved_eq N b.2.1 i j (ps.length - (j - i)) (by omega) (by omega)
  have m2 := spec_moved_eq N b.2.2.1 i j (ps.length - (j - i)) (by omega) (by omega)
  have a1 : pAdd .i64 i (ps.length : Int) = i + ps.length := pAdd_i (by omega) (by omega)
  have f1 : pFit (sub b.1 0 i) ps = true := pFit_t (by omega)
  have f2 : pFit (pApp (sub b.1 0 i) ps) (sub b.1 j b.1.length) = true := pFit_t (by simp only [pApp, List.length_append]; omega)
  simp only [q1, q2, q3, q4, q5, q6, q7, ifB_t, c, k, m1, m2, bindO_s, a1, f1, f2]
  by_cases e5 : i = j
  · by_cases e6 : b.2.1 = i
    · rw [pEq_t e5, ifB_t, bindO_s, pEq_t e6, ifB_t, if_pos ⟨e5, e6⟩]; rfl
    · rw [pEq_t e5, ifB_t, bindO_s, pEq_f e6, ifB_f, if_neg (fun h => e6 h.2)]; rfl
  · rw [pEq_f e5, ifB_f, bindO_s, ifB_f, if_neg (fun h => e5 h.1)]; rfl

theorem replG_len (b : BufT) (i j : Int) (ps : List Int) (hb : b.1.length ≤ 1000) : (replG b i j ps).1.1.length ≤ 300 ∧ (replG b i j ps).2.1.length ≤ 1000 := by
  unfold replG
  split
  · exact ⟨by simp [failG], by simp [failG]⟩
  · split
    · exact ⟨by simp [failG], by simp [failG]⟩
    · rename_i h1 h2
      have l1 := sub_len b.1 0 i (by omega) (by omega) (by omega)
      have l2 := sub_len b.1 j b.1.length (by omega) (by omega) (by omega)
      have l3 := sub_len b.1 i j (by omega) (by omega) (by omega)
      exact ⟨by simp only [List.length_append]; omega, by show (sub b.1 i j).length ≤ 1000; omega⟩

theorem class2 {a : Int} (h : classG a = 2) : ptG a = true := by
  cases hp : ptG a with
  | true => rfl
  | false => unfold classG at h; rw [hp] at h; simp at h

theorem cand_pts {x : List Int} (h : candG x = true) : ptsG x = true ∧ x.length ≤ 40 := by
  unfold candG at h
  simp only [Bool.and_eq_true, decide_eq_true_eq, List.all_eq_true] at h
  refine ⟨?_, h.1.2⟩
  unfold ptsG
  simp only [Bool.and_eq_true, decide_eq_true_eq, List.all_eq_true]
  exact ⟨by omega, fun a ha => class2 (h.2 a ha)⟩

theorem ptsG_sub {x y : List Int} (h : ptsG x = true) (hs : y.Sublist x) : ptsG y = true := by
  unfold ptsG at h ⊢
  simp only [Bool.and_eq_true, decide_eq_true_eq, List.all_eq_true] at h ⊢
  exact ⟨Nat.le_trans hs.length_le h.1, fun a ha => h.2 a (hs.subset ha)⟩

theorem sub_sublist {A : Type} (x : List A) (i j : Int) : (sub x i j).Sublist x := by
  unfold sub
  exact (List.drop_sublist _ _).trans (List.take_sublist _ _)

theorem ahead_pts {b : BufT} (h : bufG b = true) : ptsG (aheadG b) = true := ptsG_sub (bufG_iff.1 h).1 (sub_sublist _ _ _)

/-- the points that completing a word types -/
def putG (l : List (List Int)) (w : List Int) : List Int := (comM l w).drop w.length ++ if (matG w l).length = 1 then [32] else []
/-- what completing the word ahead comes to -/
def compPutG (b : BufT) (l : List (List Int)) : OutT :=
  if (decide (l.length ≤ 400)) = false then failG 2 else
  if (bufG b && candsG l) = false then failG 1 else
  if (matG (aheadG b) l).length = 0 then failG 4 else
  replG b b.2.1 b.2.1 (putG l (aheadG b))

theorem mat_facts {l : List (List Int)} {w : List Int} (hc : candsG l = true) (hm : (matG w l).length ≠ 0) : w.length ≤ (comM l w).length ∧ (comM l w).length ≤ 40 ∧ ptsG (comM l w) = true := by
  have hpre := com_pre l w
  unfold begG at hpre
  simp only [Bool.and_eq_true, decide_eq_true_eq] at hpre
  refine ⟨hpre.1, ?_⟩
  cases hf : matG w l with
  | nil => rw [hf] at hm; exact absurd rfl hm
  | cons x f =>
    have hx : x ∈ l := (List.mem_filter.1 (show x ∈ matG w l by rw [hf]; simp)).1
    unfold candsG at hc
    simp only [Bool.and_eq_true, List.all_eq_true] at hc
    obtain ⟨c1, c2⟩ := cand_pts (hc.2 x hx)
    have e : comM l w = x.take (comN x (x :: f) x.length) := by unfold comM; rw [hf]
    rw [e]
    exact ⟨by rw [List.length_take]; omega, ptsG_sub c1 (List.take_sublist _ _)⟩

theorem put_pts {l : List (List Int)} {w : List Int} (hc : candsG l = true) (hm : (matG w l).length ≠ 0) : ptsG (putG l w) = true ∧ (putG l w).length ≤ 41 := by
  obtain ⟨_, h2, h3⟩ := mat_facts hc hm
  have hl : (putG l w).length ≤ 41 := by
    unfold putG
    split <;> simp <;> omega
  refine ⟨?_, hl⟩
  have h4 := ptsG_sub h3 (List.drop_sublist w.length _)
  unfold ptsG at h4 ⊢
  simp only [Bool.and_eq_true, decide_eq_true_eq, List.all_eq_true] at h4 ⊢
  refine ⟨by omega, fun a ha => ?_⟩
  unfold putG at ha
  rw [List.mem_append] at ha
  rcases ha with ha | ha
  · exact h4.2 a ha
  · split at ha
    · have : a = 32 := by simpa using ha
      rw [this]; rfl
    · cases ha

theorem sub_drop {A : Type} (x : List A) (n : Nat) : sub x (n : Int) (x.length : Int) = x.drop n := by simp [sub]

theorem spec_CompPut_eq (N : Nat) (b : BufT) (l : List (List Int)) (hN : 401 < N) (hb : b.1.length ≤ 68719476736) (hx : ∀ x ∈ l, x.length ≤ 1048576 ∧ x.length < N) : spec_CompPut N b l = some (compPutG b l) := by
  have hx' : ∀ x ∈ l, x.length ≤ 9223372036854775806 ∧ x.length < N := fun x h => by have := hx x h; omega
  unfold spec_CompPut compPutG
  rw [pLen_d, show (400 : Int) = ((400 : Nat) : Int) from rfl, gt_not]
  cases h1 : decide (l.length ≤ 400) with
  | false => rfl
  | true =>
    rw [Bool.not_true, ifB_f, if_neg (by simp), spec_BufRight_eq N b (by omega), bindO_s, pNot_d]
    cases h2 : bufG b with
    | false => rfl
    | true =>
      rw [Bool.not_true, ifB_f, spec_CandsRight_eq N l (by omega), bindO_s, bindO_s, pNot_d, Bool.true_and]
      cases h3 : candsG l with
      | false => rfl
      | true =>
        have hw : wordG b = aheadG b := by unfold wordG; rw [if_pos h2]
        have hap := ahead_pts h2
        have hal := ptsG_len hap
        have ask : askG l (aheadG b) = true := by
          unfold askG; rw [h1, h3, hap, decide_eq_true (by omega)]; rfl
        have hmt : matchG l (aheadG b) = idxG (aheadG b) 0 l := by unfold matchG; rw [if_pos ask]
        have him := (idx_mat (aheadG b) l 0).1
        have hcg : comG l (aheadG b) = comM l (aheadG b) := by unfold comG comM; rw [h1, hap, h3]; simp <;> rfl
        rw [Bool.not_true, ifB_f, if_neg (by simp), spec_WordAhead_eq N b hb (by omega), bindO_s, hw, spec_CompMatch_eq N l _ hN hx', bindO_s, hmt]
        have e0 : pLen (idxG (aheadG b) 0 l) = ((matG (aheadG b) l).length : Int) := by rw [pLen_d]; exact congrArg _ him
        rw [e0]
        by_cases h4 : (matG (aheadG b) l).length = 0
        · rw [if_pos h4, pEq_t (by omega), ifB_t]; rfl
        · obtain ⟨f1, f2, f3⟩ := mat_facts h3 h4
          obtain ⟨p1, p2⟩ := put_pts h3 h4
          obtain ⟨_, b2, b3, _, _⟩ := bufG_iff.1 h2
          have hbl := ptsG_len (bufG_iff.1 h2).1
          rw [if_neg h4, pEq_f (by omega), ifB_f, spec_CompCommon_eq N l _ hN (by omega) hx, bindO_s, hcg]
          simp only [pLen_d]
          rw [pLe_t (by omega), ifB_t, pLe_t (by omega), ifB_t, pLe_t (by omega), ifB_t, sub_drop, copy_eq N _ (by simp; omega), bindO_s]
          by_cases h5 : (matG (aheadG b) l).length = 1
          · have e5 : putG l (aheadG b) = pApp ((comM l (aheadG b)).drop (aheadG b).length) [32] := by unfold putG pApp; rw [if_pos h5]
            rw [pEq_t (by omega), ifB_t, pFit_t (by simp; omega), ifB_t, ← e5]
            unfold spec_BufInsert
            rw [spec_Replace_eq N b _ _ _ h2 p1 (by omega) (by omega) (by omega)]
            rfl
          · have e5 : putG l (aheadG b) = (comM l (aheadG b)).drop (aheadG b).length := by unfold putG; rw [if_neg h5, List.append_nil]
            rw [pEq_f (by omega), ifB_f, ← e5]
            unfold spec_BufInsert
            rw [spec_Replace_eq N b _ _ _ h2 p1 (by omega) (by omega) (by omega)]
            rfl

theorem impl_CompPut_eq (N : Nat) (b : BufT) (l : List (List Int)) (hN : 401 < N) (hb : b.1.length ≤ 68719476736) (hbN : b.1.length < N) (hl : l.length ≤ 1048576) (hlN : l.length < N) (hx : ∀ x ∈ l, x.length ≤ 1048576 ∧ x.length < N) : impl_CompPut N b l = some (compPutG b l) := by
  have hx' : ∀ x ∈ l, x.length < N ∧ x.length ≤ 9223372036854775806 := fun x h => by have := hx x h; omega
  unfold impl_CompPut compPutG impl_isMany
  simp only [pLen_d]
  rw [show (400 : Int) = ((400 : Nat) : Int) from rfl, gt_not, bindO_s]
  cases h1 : decide (l.length ≤ 400) with
  | false => rfl
  | true =>
    have hl4 : l.length ≤ 400 := of_decide_eq_true h1
    rw [Bool.not_true, ifB_f, if_neg (by simp), impl_BufRight_eq N b hbN (by omega), bindO_s, pNot_d]
    cases h2 : bufG b with
    | false => rfl
    | true =>
      rw [Bool.not_true, ifB_f, impl_CandsRight_eq N l hlN (by omega) hx', bindO_s, bindO_s, pNot_d, Bool.true_and]
      cases h3 : candsG l with
      | false => rfl
      | true =>
        have hap := ahead_pts h2
        have hal := ptsG_len hap
        have hmm : impl_matches N l (aheadG b) = some (matG (aheadG b) l, idxG (aheadG b) 0 l) := by
          unfold impl_matches
          have := implMatch_loop (N := N) l (aheadG b) hl4 (fun x h => ⟨(hx' x h).2, (hx' x h).1⟩) (fun d => let x110 := d.1; let x111 := d.2.1; some (x110, x111)) _ 0 N [] [] rfl (by omega) (by omega) (by simp) (by simp)
          rw [List.drop_zero, List.nil_append, List.nil_append] at this
          rw [pLen_d]
          exact this
        rw [Bool.not_true, ifB_f, if_neg (by simp), impl_ahead_eq N b h2 (by omega), bindO_s, hmm, bindO_s]
        dsimp only
        by_cases h4 : (matG (aheadG b) l).length = 0
        · rw [if_pos h4, pEq_t (by omega), ifB_t]; rfl
        · obtain ⟨f1, f2, f3⟩ := mat_facts h3 h4
          obtain ⟨p1, p2⟩ := put_pts h3 h4
          obtain ⟨_, b2, b3, _, _⟩ := bufG_iff.1 h2
          have hbl := ptsG_len (bufG_iff.1 h2).1
          have hcm : impl_common N l (aheadG b) = some (comM l (aheadG b)) := impl_common_eq N l _ hl4 hN (fun x h => ⟨(hx' x h).2, (hx' x h).1⟩)
          rw [if_neg h4, pEq_f (by omega), ifB_f, hcm, bindO_s]
          rw [pLe_t (by omega), ifB_t, pLe_t (by omega), ifB_t, pLe_t (by omega), ifB_t, sub_drop, clone_eq N _ (by simp; omega), bindO_s]
          by_cases h5 : (matG (aheadG b) l).length = 1
          · have e5 : putG l (aheadG b) = pApp ((comM l (aheadG b)).drop (aheadG b).length) [32] := by unfold putG pApp; rw [if_pos h5]
            rw [pEq_t (by omega), ifB_t, pFit_t (by simp; omega), ifB_t, ← e5, impl_replace_eq N b _ _ _ h2 (by omega) (by omega) (by omega) (by omega)]
            rfl
          · have e5 : putG l (aheadG b) = (comM l (aheadG b)).drop (aheadG b).length := by unfold putG; rw [if_neg h5, List.append_nil]
            rw [pEq_f (by omega), ifB_f, ← e5, impl_replace_eq N b _ _ _ h2 (by omega) (by omega) (by omega) (by omega)]
            rfl

end Go.AE.F
namespace Go.AE.F
open Go.AE
/-- inserting at the cursor, as the reference tells it of any buffer -/
def insG (b : BufT) (ps : List Int) : OutT :=
  if 400 < ps.length then failG 2 else if (bufG b && ptsG ps) = false then failG 1 else replG b b.2.1 b.2.1 ps

theorem spec_Insert_eq (N : Nat) (b : BufT) (ps : List Int) (hN : 301 < N) : spec_BufInsert N b ps = some (insG b ps) := by
  unfold spec_BufInsert insG
  by_cases h : 400 < ps.length
  · unfold spec_BufReplace
    rw [if_pos h, pLen_d, pGt_t (by omega), ifB_t]; rfl
  · rw [if_neg h]
    cases h1 : bufG b with
    | false =>
      unfold spec_BufReplace
      rw [pLen_d, pGt_f (by omega), ifB_f, spec_BufRight_eq N b hN, bindO_s, h1]; rfl
    | true =>
      cases h2 : ptsG ps with
      | false =>
        unfold spec_BufReplace
        rw [pLen_d, pGt_f (by omega), ifB_f, spec_BufRight_eq N b hN, bindO_s, h1, spec_PointsRight_eq N ps hN, h2]; rfl
      | true =>
        obtain ⟨h3, h4, h5, h6, h7⟩ := bufG_iff.1 h1
        have := ptsG_len h3
        rw [spec_Replace_eq N b _ _ ps h1 h2 (by omega) (by omega) hN, bindO_s]; rfl

theorem insG_len (b : BufT) (ps : List Int) (hb : b.1.length ≤ 1000) : (insG b ps).1.1.length ≤ 300 := by
  unfold insG
  split
  · simp [failG]
  · split
    · simp [failG]
    · exact (replG_len b _ _ ps hb).1

theorem dcput_tot (N : Nat) (hN : 100200 < N) (a : List Int) (ha : a.length ≤ 1048576) : Tot (fun r : BufT × List (List Int) => r.1.1.length ≤ 1000 ∧ r.2.length ≤ 50 ∧ ∀ x ∈ r.2, x.length ≤ 50) (spec_DrawCompPut N a) := by
  obtain ⟨M, rfl⟩ : ∃ M, N = M + 60 := ⟨N - 60, by omega⟩
  unfold spec_DrawCompPut
  obtain ⟨s, h1, hs⟩ := source_ok (M + 60) a ha (by omega)
  rw [h1, bindO_s]
  refine Tot.bind (dbuf_tot (M + 60) (by omega) s hs) fun b hb => ?_
  obtain ⟨p, s3, h5, hs3, h6, h7⟩ := pref_ok (M + 48) b.2 hb.1
  have h5' : spec_l01Src_l15Prefix (M + 60) b.2 = some (p, s3) := h5
  rw [h5', bindO_s]
  refine Tot.fit (by simp; omega) ?_
  rw [spec_Insert_eq _ _ _ (by omega), bindO_s]
  obtain ⟨l, s4, h8, _, h9, h10⟩ := cands_ok M s3 hs3
  have hi := insG_len b.1 (pApp [32] p) hb.2
  refine Tot.both ?_ ?_
  · rw [h8, bindO_s]; exact Tot.ret ⟨Nat.le_trans hi (by omega), h9, h10⟩
  · rw [h8, bindO_s]; exact Tot.ret ⟨hb.2, h9, h10⟩

theorem wordAt_congr (xs ys : List Int) : ∀ n, (∀ i, i < n → xs[i]? = ys[i]?) → wordAt xs n = wordAt ys n
  | 0, _ => rfl
  | n + 1, h => by
    unfold wordAt
    rw [h n (by omega), wordAt_congr xs ys n (fun i hi => h i (by omega))]

theorem wordAt_on (xs : List Int) (a : Nat) : ∀ j, (∀ i, i < j → ∃ p, xs[a + i]? = some p ∧ classG p = 2) → wordAt xs (a + j) = wordAt xs a
  | 0, _ => rfl
  | j + 1, h => by
    obtain ⟨p, h1, h2⟩ := h j (by omega)
    show wordAt xs (a + j + 1) = _
    unfold wordAt
    rw [h1]
    simp only [h2, if_true]
    rw [wordAt_on xs a j (fun i hi => h i (by omega))]
    cases a <;> rfl

theorem ahead_ins (xs : List Int) (c : Nat) (hc : c ≤ xs.length) (q z : List Int) (hq : ∀ p ∈ q, classG p = 2) (m : Int × Unit) (m2 : Int × Unit) :
    aheadG (xs.take c ++ q ++ z, (((c + q.length : Nat) : Int), m)) = aheadG (xs, ((c : Int), m2)) ++ q := by
  unfold aheadG
  simp only [Int.toNat_natCast]
  have hl : (xs.take c).length = c := by rw [List.length_take]; omega
  have e1 : wordAt (xs.take c ++ q ++ z) (c + q.length) = wordAt xs c := by
    rw [wordAt_on _ c q.length (fun i hi => ⟨q[i], by rw [List.append_assoc, List.getElem?_append_right (by omega), hl, show c + i - c = i by omega, List.getElem?_append_left hi, List.getElem?_eq_getElem hi], hq _ (List.getElem_mem hi)⟩)]
    exact wordAt_congr _ _ c fun i hi => by rw [List.append_assoc, List.getElem?_append_left (by omega), List.getElem?_take, if_pos hi]
  rw [e1]
  have hw := wordAt_le xs c
  unfold sub
  simp only [Int.toNat_natCast]
  rw [List.take_append_of_le_length (by simp; omega), List.take_of_length_le (by simp; omega), List.drop_append_of_le_length (by omega)]

theorem comM_one {l : List (List Int)} {w x : List Int} (h : matG w l = [x]) : comM l w = x := by
  unfold comM
  rw [h]
  have : comN x [x] x.length = x.length := dn_self _ _ (by simp [begN, begG])
  simp [this]

theorem replG_ok {b : BufT} {ps : List Int} (hb : bufG b = true) (hp : ptsG ps = true) (h0 : (replG b b.2.1 b.2.1 ps).2.2.1 = 0) :
    replG b b.2.1 b.2.1 ps = ((b.1.take b.2.1.toNat ++ ps ++ b.1.drop b.2.1.toNat, (((b.2.1.toNat + ps.length : Nat) : Int), (mvG b.2.2.1 b.2.1 b.2.1 ps.length, ()))), ([], (0, ()))) ∧ b.1.length + ps.length ≤ 300 := by
  obtain ⟨h1, h2, h3, h4, h5⟩ := bufG_iff.1 hb
  have hl := ptsG_len h1
  unfold replG at h0 ⊢
  rw [if_neg (by omega)] at h0 ⊢
  by_cases h : 300 < (b.1.length : Int) - (b.2.1 - b.2.1) + ps.length
  · rw [if_pos h] at h0; exact absurd h0 (by simp [failG])
  · rw [if_neg h, if_pos ⟨rfl, rfl⟩]
    refine ⟨?_, by omega⟩
    have e1 : sub b.1 0 b.2.1 = b.1.take b.2.1.toNat := by unfold sub; rfl
    have e2 : sub b.1 b.2.1 (b.1.length : Int) = b.1.drop b.2.1.toNat := by unfold sub; simp
    have e3 : sub b.1 b.2.1 b.2.1 = [] := by unfold sub; simp
    have e4 : (b.2.1 : Int) + ps.length = ((b.2.1.toNat + ps.length : Nat) : Int) := by omega
    have e5 : (ps.length : Int) - (b.2.1 - b.2.1) = ps.length := by omega
    rw [e1, e2, e3, e4, e5]

theorem ptsG_app {x y : List Int} (hx : ptsG x = true) (hy : ptsG y = true) (hl : x.length + y.length ≤ 300) : ptsG (x ++ y) = true := by
  unfold ptsG at hx hy ⊢
  simp only [Bool.and_eq_true, decide_eq_true_eq, List.all_eq_true, List.mem_append, List.length_append] at hx hy ⊢
  exact ⟨hl, fun a ha => ha.elim (hx.2 a) (hy.2 a)⟩

theorem ins_right {b : BufT} {ps : List Int} (hb : bufG b = true) (hp : ptsG ps = true) (hl : b.1.length + ps.length ≤ 300) (c : Int) (h0 : 0 ≤ c) (h1 : c ≤ b.1.length + ps.length) :
    bufG (b.1.take b.2.1.toNat ++ ps ++ b.1.drop b.2.1.toNat, (c, (mvG b.2.2.1 b.2.1 b.2.1 ps.length, ()))) = true := by
  obtain ⟨k1, k2, k3, k4, k5⟩ := bufG_iff.1 hb
  have hln : (b.1.take b.2.1.toNat ++ ps ++ b.1.drop b.2.1.toNat).length = b.1.length + ps.length := by simp; omega
  refine bufG_iff.2 ⟨?_, h0, ?_, ?_, ?_⟩
  · refine ptsG_app (ptsG_app (ptsG_sub k1 (List.take_sublist _ _)) hp ?_) (ptsG_sub k1 (List.drop_sublist _ _)) ?_
    · simp; omega
    · simp; omega
  · show c ≤ ((b.1.take b.2.1.toNat ++ ps ++ b.1.drop b.2.1.toNat).length : Int); rw [hln]; omega
  · unfold mvG; simp only; split <;> (try split) <;> omega
  · rw [hln]; unfold mvG; simp only; split <;> (try split) <;> omega

theorem com_class {l : List (List Int)} {w : List Int} (hc : candsG l = true) (hm : (matG w l).length ≠ 0) : ∀ p ∈ (comM l w).drop w.length, classG p = 2 := by
  cases hf : matG w l with
  | nil => rw [hf] at hm; exact absurd rfl hm
  | cons x f =>
    have hx : x ∈ l := (List.mem_filter.1 (show x ∈ matG w l by rw [hf]; simp)).1
    unfold candsG at hc
    simp only [Bool.and_eq_true, List.all_eq_true] at hc
    have hcx := hc.2 x hx
    unfold candG at hcx
    simp only [Bool.and_eq_true, decide_eq_true_eq, List.all_eq_true] at hcx
    have e : comM l w = x.take (comN x (x :: f) x.length) := by unfold comM; rw [hf]
    intro p hp
    rw [e] at hp
    exact hcx.2 p (List.mem_of_mem_take (List.mem_of_mem_drop hp))

theorem com_split (l : List (List Int)) (w : List Int) : w ++ (comM l w).drop w.length = comM l w := by
  have h := com_pre l w
  unfold begG at h
  simp only [Bool.and_eq_true, decide_eq_true_eq] at h
  conv => lhs; arg 1; rw [← h.2]
  exact List.take_append_drop _ _

theorem lwBuf_self (N : Nat) (b : BufT) (h : b.1.length ≤ 1000) (hN : 2000 < N) : laws_lwBuf N b b = some true := by
  unfold laws_lwBuf
  rw [lwSame_self N b.1 h hN, bindO_s, ifB_t, pEq_t rfl, bindO_s, ifB_t, pEq_t rfl, bindO_s]

theorem pure_FnCompPut (a : List Int) (_h : a.length ≤ 9223372036854775807 ∧ ∀ x ∈ a, IntKind.u8.min ≤ x ∧ x ≤ IntKind.u8.max) : ∃ N, laws_FnCompPut N a = some true := by
  refine ⟨1048700, ?_⟩
  unfold laws_FnCompPut
  rw [pLen_d]
  by_cases ha : 1048576 < a.length
  · rw [pGt_t (by omega), ifB_t]
  have ha : a.length ≤ 1048576 := by omega
  rw [pGt_f (by omega), ifB_f]
  obtain ⟨⟨b, l⟩, hd, hbl, hl, hx⟩ := dcput_tot 1048700 (by omega) a ha
  simp only at hbl hl hx
  have hx3 : ∀ x ∈ l, x.length ≤ 1048576 ∧ x.length < 1048700 := fun x h => by have := hx x h; omega
  have hx2 : ∀ x ∈ l, x.length ≤ 9223372036854775806 ∧ x.length < 1048700 := fun x h => by have := hx x h; omega
  have c1 : spec_CompPut 1048700 b l = some (compPutG b l) := spec_CompPut_eq _ b l (by omega) (by omega) hx3
  have c2 : impl_CompPut 1048700 b l = some (compPutG b l) := impl_CompPut_eq _ b l (by omega) (by omega) (by omega) (by omega) (by omega) hx3
  have c3 : laws_lwAll 1048700 l = some l := lwAll_eq _ l (by omega) (by omega) (fun x h => by have := hx x h; omega)
  rw [hd, bindO_s]
  simp only [c1, c2, c3, bindO_s]
  rw [pNe_f rfl, ifB_f]
  by_cases h0 : (compPutG b l).2.2.1 ≠ 0
  · rw [pNe_t h0, ifB_t]
  have h0 : (compPutG b l).2.2.1 = 0 := Classical.not_not.1 h0
  rw [pNe_f h0, ifB_f]
  -- what went well
  have f8 : ∀ c, (failG c).2.2.1 = c := fun _ => rfl
  unfold compPutG at h0 ⊢
  by_cases k1 : (decide (l.length ≤ 400)) = false
  · rw [if_pos k1, f8] at h0; omega
  rw [if_neg k1] at h0 ⊢
  by_cases k2 : (bufG b && candsG l) = false
  · rw [if_pos k2, f8] at h0; omega
  rw [if_neg k2] at h0 ⊢
  by_cases k3 : (matG (aheadG b) l).length = 0
  · rw [if_pos k3, f8] at h0; omega
  rw [if_neg k3] at h0 ⊢
  simp only [Bool.and_eq_false_iff, not_or, Bool.not_eq_false] at k2
  obtain ⟨k2, k4⟩ := k2
  obtain ⟨p1, p2⟩ := put_pts k4 k3
  obtain ⟨e1, e2⟩ := replG_ok k2 p1 h0
  obtain ⟨q1, q2, q3, q4, q5⟩ := bufG_iff.1 k2
  have hap := ahead_pts k2
  have hal := ptsG_len hap
  have hwd : ∀ b' : BufT, bufG b' = true → b'.1.length ≤ 1000 → impl_WordAhead 1048700 b' = some (aheadG b') := fun b' h h2 => by
    rw [impl_WordAhead_eq _ b' (by omega) (by omega) (by omega)]; unfold wordG; rw [if_pos h]
  have hcc : ((b.2.1.toNat : Nat) : Int) = b.2.1 := by omega
  have hb' : aheadG (b.1, ((b.2.1.toNat : Nat) : Int), (0, ())) = aheadG b := by unfold aheadG; simp only [hcc]
  have ask : askG l (aheadG b) = true := by
    unfold askG; rw [k4, hap, decide_eq_true (by omega), decide_eq_true (by omega)]; rfl
  have hmt : matchG l (aheadG b) = idxG (aheadG b) 0 l := by unfold matchG; rw [if_pos ask]
  have him := idx_mat (aheadG b) l 0
  have hcg : comG l (aheadG b) = comM l (aheadG b) := by unfold comG comM; rw [decide_eq_true (by omega : l.length ≤ 400), hap, k4]; simp <;> rfl
  obtain ⟨m1, m2, m3⟩ := mat_facts k4 k3
  rw [hwd b k2 hbl, bindO_s, lwCopy_eq _ _ (by omega), bindO_s, impl_CompMatch_eq _ l _ (by omega) (by omega) (by omega) (by omega) (fun x h => ⟨(hx2 x h).2, (hx2 x h).1⟩), bindO_s, hmt, e1]
  have e0 : pLen (idxG (aheadG b) 0 l) = ((matG (aheadG b) l).length : Int) := by rw [pLen_d]; exact congrArg _ him.1
  rw [e0]
  have hnl : (b.1.take b.2.1.toNat ++ putG l (aheadG b) ++ b.1.drop b.2.1.toNat).length = b.1.length + (putG l (aheadG b)).length := by simp; omega
  by_cases k5 : (matG (aheadG b) l).length = 1
  · -- just one
    rw [pNe_f (by omega), ifB_f]
    have ep : putG l (aheadG b) = (comM l (aheadG b)).drop (aheadG b).length ++ [32] := by unfold putG; rw [if_pos k5]
    have epl : (putG l (aheadG b)).length = ((comM l (aheadG b)).drop (aheadG b).length).length + 1 := by rw [ep]; simp
    have s1 : pSub .i64 ((b.2.1.toNat + (putG l (aheadG b)).length : Nat) : Int) 1 = ((b.2.1.toNat + ((comM l (aheadG b)).drop (aheadG b).length).length : Nat) : Int) := by
      rw [pSub_i (by omega) (by omega), epl]; omega
    simp only [s1]
    rw [pLt_f (by omega), ifB_f]
    have hidx : idx (b.1.take b.2.1.toNat ++ putG l (aheadG b) ++ b.1.drop b.2.1.toNat) ((b.2.1.toNat + ((comM l (aheadG b)).drop (aheadG b).length).length : Nat) : Int) = some 32 := by
      have htl : (b.1.take b.2.1.toNat).length = b.2.1.toNat := by rw [List.length_take]; omega
      rw [idx_n, List.append_assoc, List.getElem?_append_right (by omega), htl, ep, List.append_assoc, List.getElem?_append_right (by omega)]
      rw [show b.2.1.toNat + ((comM l (aheadG b)).drop (aheadG b).length).length - b.2.1.toNat - ((comM l (aheadG b)).drop (aheadG b).length).length = 0 by omega]
      rfl
    rw [hidx, bindO_s, pNe_f rfl, bindO_s, ifB_f]
    obtain ⟨x, hf⟩ : ∃ x, matG (aheadG b) l = [x] := List.length_eq_one_iff.1 k5
    have hi1 : 0 < (idxG (aheadG b) ((0 : Nat) : Int) l).length := by rw [him.1]; omega
    obtain ⟨t, t1, t2, t3⟩ := him.2 0 hi1
    have hi2 : idx (idxG (aheadG b) 0 l) 0 = some ((t : Nat) : Int) := by
      have := idx_lt (xs := idxG (aheadG b) ((0 : Nat) : Int) l) (i := 0) hi1
      rw [t1] at this
      rw [show (0 + t : Nat) = t by omega] at this
      exact this
    rw [hi2, bindO_s]
    have hi3 : idx l (t : Int) = some x := by rw [idx_n, t3, hf]; rfl
    rw [hi3, bindO_s, hwd _ (ins_right k2 p1 e2 _ (by omega) (by rw [epl]; omega)) (by rw [hnl]; omega), bindO_s]
    have hah := ahead_ins b.1 b.2.1.toNat (by omega) ((comM l (aheadG b)).drop (aheadG b).length) ([32] ++ b.1.drop b.2.1.toNat) (com_class k4 k3) (mvG b.2.2.1 b.2.1 b.2.1 (putG l (aheadG b)).length, ()) (0, ())
    rw [hb', com_split, comM_one hf] at hah
    have hah2 : aheadG (b.1.take b.2.1.toNat ++ putG l (aheadG b) ++ b.1.drop b.2.1.toNat, (((b.2.1.toNat + ((comM l (aheadG b)).drop (aheadG b).length).length : Nat) : Int), (mvG b.2.2.1 b.2.1 b.2.1 (putG l (aheadG b)).length, ()))) = x := by
      refine Eq.trans ?_ hah
      rw [ep, comM_one hf]
      simp only [List.append_assoc]
    have hxl : x.length ≤ 1000 := by rw [comM_one hf] at m2; omega
    rw [hah2, lwSame_self _ x hxl (by omega), bindO_s, ifB_t, lwBuf_self _ _ (by rw [hnl]; omega) (by omega), bindO_s]
  · rw [pNe_t (by omega), ifB_t]
    have ep : putG l (aheadG b) = (comM l (aheadG b)).drop (aheadG b).length := by unfold putG; rw [if_neg k5, List.append_nil]
    rw [hwd _ (ins_right k2 p1 e2 _ (by omega) (by omega)) (by rw [hnl]; omega), bindO_s]
    have hah := ahead_ins b.1 b.2.1.toNat (by omega) (putG l (aheadG b)) (b.1.drop b.2.1.toNat) (by rw [ep]; exact com_class k4 k3) (mvG b.2.2.1 b.2.1 b.2.1 (putG l (aheadG b)).length, ()) (0, ())
    rw [hb'] at hah
    have hah2 : aheadG b ++ putG l (aheadG b) = comM l (aheadG b) := by rw [ep]; exact com_split _ _
    rw [hah2] at hah
    rw [hah, bindO_s, impl_CompCommon_eq _ l _ (by omega) (by omega) (by omega) (by omega) (by omega) hx3, bindO_s, hcg, lwSame_self _ _ (by omega) (by omega), bindO_s, ifB_t, lwBuf_self _ _ (by rw [hnl]; omega) (by omega), bindO_s, bindO_s]

end Go.AE.F
