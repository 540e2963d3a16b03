/- Plain laws of those functions. -/
import Derived.Test.YtkpnnbjahdhnjaaXCompPutF1
import Derived.IntWalk
namespace Go.AE
theorem ifB_t {R : Type} {a b : Option R} : ifB true a b = a := rfl
theorem ifB_f {R : Type} {a b : Option R} : ifB false a b = b := rfl
theorem bindO_s {A R : Type} {x : A} {f : A → Option R} : bindO (some x) f = f x := rfl
theorem loopP_s {D E R : Type} {step : D → (D → Option R) → (E → Option R) → Option R} {n : Nat} {d : D} {k : E → Option R} : loopP step (n + 1) d k = step d (fun d' => loopP step n d' k) k := rfl

theorem wrap_i64 {n : Int} (h1 : -9223372036854775808 ≤ n) (h2 : n ≤ 9223372036854775807) : IntKind.i64.wrap n = n := IntWalk.i64_in n ⟨h1, h2⟩
theorem pAdd_i {a b : Int} (h1 : -9223372036854775808 ≤ a + b) (h2 : a + b ≤ 9223372036854775807) : pAdd .i64 a b = a + b := wrap_i64 h1 h2
theorem pSub_i {a b : Int} (h1 : -9223372036854775808 ≤ a - b) (h2 : a - b ≤ 9223372036854775807) : pSub .i64 a b = a - b := wrap_i64 h1 h2

theorem pLt_t {a b : Int} (h : a < b) : pLt a b = true := decide_eq_true h
theorem pLt_f {a b : Int} (h : b ≤ a) : pLt a b = false := decide_eq_false (by omega)
theorem pLe_t {a b : Int} (h : a ≤ b) : pLe a b = true := decide_eq_true h
theorem pLe_f {a b : Int} (h : b < a) : pLe a b = false := decide_eq_false (by omega)
theorem pGt_t {a b : Int} (h : b < a) : pGt a b = true := decide_eq_true h
theorem pGt_f {a b : Int} (h : a ≤ b) : pGt a b = false := decide_eq_false (by omega)
theorem pGe_t {a b : Int} (h : b ≤ a) : pGe a b = true := decide_eq_true h
theorem pGe_f {a b : Int} (h : a < b) : pGe a b = false := decide_eq_false (by omega)
theorem pEq_t {a b : Int} (h : a = b) : pEq a b = true := by subst h; simp [pEq]
theorem pEq_f {a b : Int} (h : a ≠ b) : pEq a b = false := by simp [pEq, h]
theorem pNe_t {a b : Int} (h : a ≠ b) : pNe a b = true := by simp [pNe, h]
theorem pNe_f {a b : Int} (h : a = b) : pNe a b = false := by subst h; simp [pNe]
theorem pFit_t {A : Type} {xs ys : List A} (h : xs.length + ys.length ≤ 68719476736) : pFit xs ys = true := decide_eq_true h

theorem idx_n {A : Type} (xs : List A) (i : Nat) : idx xs (i : Int) = xs[i]? := by
  unfold idx; rw [if_pos (by omega)]; rfl
theorem idx_lt {A : Type} {xs : List A} {i : Nat} (h : i < xs.length) : idx xs (i : Int) = some xs[i] := by rw [idx_n]; simp [h]
end Go.AE
namespace Go.AE
theorem ifB_or {c d : Bool} : ifB c (some true) (some d) = some (c || d) := by cases c <;> rfl
theorem ifB_and {c d : Bool} : ifB c (some d) (some false) = some (c && d) := by cases c <;> rfl
theorem ifB_some {A : Type} {c : Bool} {a b : A} : ifB c (some a) (some b) = some (if c = true then a else b) := by cases c <;> rfl
theorem pNot_d {b : Bool} : pNot b = !b := rfl
theorem pGe_d {a b : Int} : pGe a b = decide (a ≥ b) := rfl
theorem pGt_d {a b : Int} : pGt a b = decide (a > b) := rfl
theorem pLe_d {a b : Int} : pLe a b = decide (a ≤ b) := rfl
theorem pEq_d {a b : Int} : pEq a b = decide (a = b) := by
  by_cases h : a = b
  · rw [pEq_t h, decide_eq_true h]
  · rw [pEq_f h, decide_eq_false h]
theorem pNe_d {a b : Int} : pNe a b = !decide (a = b) := by
  by_cases h : a = b
  · rw [pNe_f h, decide_eq_true h]; rfl
  · rw [pNe_t h, decide_eq_false h]; rfl
theorem pLen_d {A : Type} {xs : List A} : pLen xs = (xs.length : Int) := rfl

theorem succ_of {m N : Nat} (h : m < N) : ∃ q, N = q + 1 := ⟨N - 1, by omega⟩

theorem drop_c {A : Type} {l : List A} {i : Nat} (h : i < l.length) : l.drop i = l[i] :: l.drop (i + 1) := List.drop_eq_getElem_cons h

/-- a search: the first that is met -/
theorem find_loop {A R : Type} {P : A → Option Bool} {p : A → Bool} {xs : List A} (hx : xs.length ≤ 9223372036854775806) {step : List A × Int × Int × Unit → (List A × Int × Int × Unit → Option R) → (Unit ⊕ (Int × Unit) → Option R) → Option R}
    (hs : ∀ i kn kx, step (xs, (xs.length : Int), i, ()) kn kx = ifB (pLt i xs.length) (bindO (idx xs i) fun y => bindO (P y) fun b => ifB b (kx (.inr (i, ()))) (kn (xs, (xs.length : Int), pAdd .i64 i 1, ()))) (kx (.inl ())))
    (hP : ∀ x ∈ xs, P x = some (p x)) (k : Unit ⊕ (Int × Unit) → Option R) : ∀ (m i n : Nat), xs.length - i = m → i ≤ xs.length → m < n →
    loopP step n (xs, (xs.length : Int), (i : Int), ()) k = match (xs.drop i).findIdx? p with | none => k (.inl ()) | some j => k (.inr (((i + j : Nat) : Int), ())) := by
  intro m
  induction m with
  | zero =>
    intro i n hm hi hn
    obtain ⟨n, rfl⟩ := succ_of hn
    rw [loopP_s, hs, pLt_f (by omega), ifB_f, List.drop_eq_nil_of_le (by omega)]
    rfl
  | succ m ih =>
    intro i n hm hi hn
    obtain ⟨n, rfl⟩ := succ_of hn
    have hlt : i < xs.length := by omega
    rw [loopP_s, hs, pLt_t (by omega), ifB_t, idx_lt hlt, bindO_s, hP _ (List.getElem_mem hlt), bindO_s, drop_c hlt, List.findIdx?_cons]
    cases hp : p xs[i] with
    | true => rw [ifB_t]; rfl
    | false =>
      rw [ifB_f, pAdd_i (by omega) (by omega)]
      have := ih (i + 1) n (by omega) (by omega) (by omega)
      refine Eq.trans this ?_
      cases h : (xs.drop (i + 1)).findIdx? p with
      | none => simp
      | some j =>
        simp only [Bool.false_eq_true, if_false, Option.map_some]
        congr 4
        omega

theorem find_any {A : Type} {p : A → Bool} {xs : List A} : (match xs.findIdx? p with | none => (-1 : Int) | some j => (j : Int)) ≥ 0 ↔ xs.any p = true := by
  cases h : xs.findIdx? p with
  | none =>
    simp only [List.findIdx?_eq_none_iff] at h
    constructor
    · intro q; simp at q
    · intro q
      obtain ⟨x, hx, hp⟩ := List.any_eq_true.1 q
      rw [h x hx] at hp; cases hp
  | some j =>
    rw [List.findIdx?_eq_some_iff_getElem] at h
    obtain ⟨hj, hp, _⟩ := h
    constructor
    · intro _; exact List.any_eq_true.2 ⟨_, List.getElem_mem hj, hp⟩
    · intro _; simp

/-- a check of all: the first that fails ends it -/
theorem all_loop {A R : Type} {P : A → Option Bool} {p : A → Bool} {xs : List A} (hx : xs.length ≤ 9223372036854775806) {step : List A × Int × Unit → (List A × Int × Unit → Option R) → (Unit ⊕ (Bool × Unit) → Option R) → Option R}
    (hs : ∀ i kn kx, step (xs, i, ()) kn kx = ifB (pLt i xs.length) (bindO (idx xs i) fun y => bindO (P y) fun b => ifB (pNot b) (kx (.inr (false, ()))) (kn (xs, pAdd .i64 i 1, ()))) (kx (.inl ())))
    (hP : ∀ x ∈ xs, P x = some (p x)) (k : Unit ⊕ (Bool × Unit) → Option R) : ∀ (m i n : Nat), xs.length - i = m → i ≤ xs.length → m < n →
    loopP step n (xs, (i : Int), ()) k = if (xs.drop i).all p = true then k (.inl ()) else k (.inr (false, ())) := by
  intro m
  induction m with
  | zero =>
    intro i n hm hi hn
    obtain ⟨n, rfl⟩ := succ_of hn
    rw [loopP_s, hs, pLt_f (by omega), ifB_f, List.drop_eq_nil_of_le (by omega)]
    rfl
  | succ m ih =>
    intro i n hm hi hn
    obtain ⟨n, rfl⟩ := succ_of hn
    have hlt : i < xs.length := by omega
    rw [loopP_s, hs, pLt_t (by omega), ifB_t, idx_lt hlt, bindO_s, hP _ (List.getElem_mem hlt), bindO_s, drop_c hlt, List.all_cons]
    cases hp : p xs[i] with
    | false => simp [pNot_d, ifB_t]
    | true =>
      rw [pNot_d, Bool.not_true, ifB_f, pAdd_i (by omega) (by omega), Bool.true_and]
      exact ih (i + 1) n (by omega) (by omega) (by omega)

/-- a copy, element by element, into a row that is there -/
theorem copy_loop {A R : Type} {P : A → Option A} {f : A → A} {xs : List A} (hx : xs.length ≤ 9223372036854775806) {step : List A × Int × List A × Unit → (List A × Int × List A × Unit → Option R) → (List A × Unit → Option R) → Option R}
    (hs : ∀ i out kn kx, step (xs, i, out, ()) kn kx = ifB (pLt i xs.length) (bindO (idx xs i) fun y => bindO (P y) fun z => bindO (idx out i) fun _ => bindO (idx out i) fun _ => kn (xs, pAdd .i64 i 1, pSet out i z, ())) (kx (out, ())))
    (hP : ∀ x ∈ xs, P x = some (f x)) (k : List A × Unit → Option R) : ∀ (m i n : Nat) (out : List A), xs.length - i = m → i ≤ xs.length → m < n → out.length = xs.length → out.take i = (xs.map f).take i →
    loopP step n (xs, (i : Int), out, ()) k = k (xs.map f, ()) := by
  intro m
  induction m with
  | zero =>
    intro i n out hm hi hn ho ht
    obtain ⟨n, rfl⟩ := succ_of hn
    have e : out = xs.map f := by
      rw [List.take_of_length_le (by omega), List.take_of_length_le (by simp; omega)] at ht
      exact ht
    rw [loopP_s, hs, pLt_f (by omega), ifB_f, e]
  | succ m ih =>
    intro i n out hm hi hn ho ht
    obtain ⟨n, rfl⟩ := succ_of hn
    have hlt : i < xs.length := by omega
    rw [loopP_s, hs, pLt_t (by omega), ifB_t, idx_lt hlt, bindO_s, hP _ (List.getElem_mem hlt), bindO_s, idx_lt (by omega : i < out.length), bindO_s, bindO_s, pAdd_i (by omega) (by omega)]
    refine ih (i + 1) n (pSet out (i : Int) (f xs[i])) (by omega) (by omega) (by omega) (by simp [pSet, ho]) ?_
    rw [List.take_succ_eq_append_getElem (by simp [pSet]; omega), List.take_succ_eq_append_getElem (by simp; omega)]
    congr 1
    · rw [← ht]; simp [pSet, List.take_set_of_le]
    · simp [pSet]

/-- two rows, compared element by element -/
theorem eq_loop {A R : Type} {P : A → A → Option Bool} {xs ys : List A} (hx : xs.length ≤ 9223372036854775806) (hl : xs.length = ys.length) {step : List A × List A × Int × Unit → (List A × List A × Int × Unit → Option R) → (Unit ⊕ (Bool × Unit) → Option R) → Option R}
    (hs : ∀ i kn kx, step (xs, ys, i, ()) kn kx = ifB (pLt i xs.length) (bindO (idx xs i) fun x => bindO (idx ys i) fun y => bindO (P x y) fun b => ifB b (kx (.inr (false, ()))) (kn (xs, ys, pAdd .i64 i 1, ()))) (kx (.inl ())))
    (hP : ∀ x ∈ xs, ∀ y ∈ ys, ∃ b, P x y = some b ∧ (b = true ↔ x ≠ y)) (k : Unit ⊕ (Bool × Unit) → Option R) : ∀ (m i n : Nat), xs.length - i = m → i ≤ xs.length → m < n →
    (xs.drop i = ys.drop i → loopP step n (xs, ys, (i : Int), ()) k = k (.inl ())) ∧ (xs.drop i ≠ ys.drop i → loopP step n (xs, ys, (i : Int), ()) k = k (.inr (false, ()))) := by
  intro m
  induction m with
  | zero =>
    intro i n hm hi hn
    obtain ⟨n, rfl⟩ := succ_of hn
    rw [loopP_s, hs, pLt_f (by omega), ifB_f, List.drop_eq_nil_of_le (by omega), List.drop_eq_nil_of_le (by omega)]
    exact ⟨fun _ => rfl, fun h => absurd rfl h⟩
  | succ m ih =>
    intro i n hm hi hn
    obtain ⟨n, rfl⟩ := succ_of hn
    have hlt : i < xs.length := by omega
    have hlt2 : i < ys.length := by omega
    obtain ⟨b, hb, hbe⟩ := hP _ (List.getElem_mem hlt) _ (List.getElem_mem hlt2)
    rw [loopP_s, hs, pLt_t (by omega), ifB_t, idx_lt hlt, bindO_s, idx_lt hlt2, bindO_s, hb, bindO_s, drop_c hlt, drop_c hlt2, List.cons.injEq]
    obtain ⟨i1, i2⟩ := ih (i + 1) n (by omega) (by omega) (by omega)
    cases b with
    | true =>
      have := hbe.1 rfl
      exact ⟨fun h => absurd h.1 this, fun _ => by rw [ifB_t]⟩
    | false =>
      have he : xs[i] = ys[i] := Classical.byContradiction fun h => by cases hbe.2 h
      rw [ifB_f, pAdd_i (by omega) (by omega)]
      exact ⟨fun h => i1 h.2, fun h => i2 fun q => h (by rw [he, q])⟩

end Go.AE
namespace Go.AE.F
open Go.AE
theorem szInt64S_eq (N : Nat) (l : List Int) (a : Int) (h0 : 0 ≤ a) (ha : a ≤ 9223372036854775807) (hl : l.length ≤ 9223372036854775807) :
    laws_szInt64S N l a = some (if a - l.length < 0 then -1 else a - l.length) := by
  unfold laws_szInt64S
  rw [pLen_d, pSub_i (by omega) (by omega)]
  by_cases h : a - (l.length : Int) < 0
  · rw [pLt_t h, ifB_t, if_pos h]
  · rw [pLt_f (by omega), ifB_f, if_neg h]

/-- how many numbers lists hold, each list counted with one more -/
def sumLen (l : List (List Int)) : Nat := (l.map List.length).sum

theorem szInt64SS_loop {N : Nat} {R : Type} (l : List (List Int)) (hl : l.length ≤ 9223372036854775806) (hb : ∀ x ∈ l, x.length ≤ 9223372036854775807) (k : (Int × Unit) ⊕ (Int × Unit) → Option R) :
    ∀ (m i n : Nat) (a : Int), l.length - i = m → i ≤ l.length → m < n → 0 ≤ a → a ≤ 9223372036854775807 →
    loopP (laws_szInt64SS.l5 N) n (l, a, (i : Int), ()) k = if a - sumLen (l.drop i) < 0 then k (.inr (-1, ())) else k (.inl (a - sumLen (l.drop i), ())) := by
  intro m
  induction m with
  | zero =>
    intro i n a hm hi hn h0 ha
    obtain ⟨n, rfl⟩ := succ_of hn
    simp only [loopP_s, laws_szInt64SS.l5, pLen_d]
    rw [pLt_f (by omega), ifB_f, List.drop_eq_nil_of_le (by omega)]
    simp only [sumLen, List.map_nil, List.sum_nil]
    rw [if_neg (by omega)]; simp
  | succ m ih =>
    intro i n a hm hi hn h0 ha
    obtain ⟨n, rfl⟩ := succ_of hn
    have hlt : i < l.length := by omega
    simp only [loopP_s, laws_szInt64SS.l5, pLen_d]
    rw [pLt_t (by omega), ifB_t, idx_lt hlt, bindO_s, szInt64S_eq N _ _ h0 ha (hb _ (List.getElem_mem hlt)), bindO_s, drop_c hlt]
    have es : sumLen (l[i] :: l.drop (i + 1)) = l[i].length + sumLen (l.drop (i + 1)) := rfl
    rw [es]
    by_cases h : a - (l[i].length : Int) < 0
    · rw [if_pos h, pLt_t (by omega), ifB_t, if_pos (by omega)]
    · rw [if_neg h, pLt_f (by omega), ifB_f, pAdd_i (by omega) (by omega)]
      have := ih (i + 1) n (a - l[i].length) (by omega) (by omega) (by omega) (by omega) (by omega)
      refine Eq.trans this ?_
      by_cases h2 : a - (l[i].length : Int) - sumLen (l.drop (i + 1)) < 0
      · rw [if_pos h2, if_pos (by omega)]
      · rw [if_neg h2, if_neg (by omega)]
        congr 3; omega

theorem szInt64SS_eq (N : Nat) (l : List (List Int)) (a : Int) (h0 : 0 ≤ a) (ha : a ≤ 1048576) (hl : l.length ≤ 9223372036854775807) (hb : ∀ x ∈ l, x.length ≤ 9223372036854775807) (hN : 1048578 ≤ N) :
    laws_szInt64SS N l a = some (if a - l.length - sumLen l < 0 then -1 else a - l.length - sumLen l) := by
  unfold laws_szInt64SS
  rw [pLen_d, pSub_i (by omega) (by omega)]
  by_cases h : a - (l.length : Int) < 0
  · rw [pLt_t h, ifB_t, if_pos (by omega)]
  · rw [pLt_f (by omega), ifB_f]
    have := szInt64SS_loop (N := N) l (by omega) hb (onSum (fun d => let x44 := d.1; some x44) (fun d => let x45 := d.1; some x45)) _ 0 N (a - l.length) rfl (by omega) (by omega) (by omega) (by omega)
    refine Eq.trans this ?_
    rw [List.drop_zero]
    by_cases h2 : a - (l.length : Int) - sumLen l < 0
    · rw [if_pos h2, if_pos h2]; rfl
    · rw [if_neg h2, if_neg h2]; rfl

theorem repl_len {A : Type} (n : Nat) (x : A) : (pRepl (n : Int) x).length = n := by simp [pRepl]

theorem toInt64S_eq (N : Nat) (l : List Int) (hl : l.length ≤ 68719476736) (hN : l.length < N) : laws_toInt64S N l = some l := by
  unfold laws_toInt64S
  rw [pLen_d, pEq_t rfl, ifB_t, pLe_t (by omega), ifB_t, pLe_t (by omega), ifB_t]
  have := copy_loop (R := List Int) (P := some) (f := id) (xs := l) (by omega) (step := laws_toInt64S.l3 N) (fun i out kn kx => by simp only [laws_toInt64S.l3, bindO_s, pLen_d]) (fun _ _ => rfl) (fun d => let x55 := d.1; some x55) _ 0 N (pRepl (l.length : Int) 0) rfl (by omega) (by omega) (repl_len _ _) (by simp)
  refine Eq.trans this ?_
  simp

theorem mem_sum {l : List (List Int)} {x : List Int} (h : x ∈ l) : x.length ≤ sumLen l := by
  induction l with
  | nil => cases h
  | cons a l ih =>
    have es : sumLen (a :: l) = a.length + sumLen l := rfl
    rw [es]
    cases h with
    | head => omega
    | tail _ h => have := ih h; omega

theorem toInt64SS_eq (N : Nat) (l : List (List Int)) (hl : l.length ≤ 68719476736) (hb : ∀ x ∈ l, x.length ≤ 68719476736) (hN : l.length < N) (hNb : ∀ x ∈ l, x.length < N) : laws_toInt64SS N l = some l := by
  unfold laws_toInt64SS
  rw [pLen_d, pEq_t rfl, ifB_t, pLe_t (by omega), ifB_t, pLe_t (by omega), ifB_t]
  have := copy_loop (R := List (List Int)) (P := laws_toInt64S N) (f := id) (xs := l) (by omega) (step := laws_toInt64SS.l3 N) (fun i out kn kx => by simp only [laws_toInt64SS.l3, pLen_d]) (fun x hx => toInt64S_eq N x (hb x hx) (hNb x hx)) (fun d => let x67 := d.1; some x67) _ 0 N (pRepl (l.length : Int) []) rfl (by omega) (by omega) (repl_len _ _) (by simp)
  refine Eq.trans this ?_
  simp

theorem eqInt64S_eq (N : Nat) (a b : List Int) (ha : a.length ≤ 9223372036854775806) (hN : a.length < N) : laws_eqInt64S N a b = some (decide (a = b)) := by
  unfold laws_eqInt64S
  simp only [pLen_d]
  by_cases hl : a.length = b.length
  · rw [pNe_f (by omega), ifB_f]
    obtain ⟨h1, h2⟩ := eq_loop (R := Bool) (P := fun x y => some (pNe x y)) (xs := a) (ys := b) ha hl (step := laws_eqInt64S.l4 N) (fun i kn kx => by simp only [laws_eqInt64S.l4, bindO_s, pLen_d])
      (fun x _ y _ => ⟨_, rfl, by rw [pNe_d]; simp⟩) (onSum (fun _ => some true) (fun d => let x43 := d.1; some x43)) _ 0 N rfl (by omega) (by omega)
    rw [List.drop_zero, List.drop_zero] at h1 h2
    by_cases he : a = b
    · rw [decide_eq_true he]; exact h1 he
    · rw [decide_eq_false he]; exact h2 he
  · rw [pNe_t (by omega), ifB_t, decide_eq_false (fun h => hl (by rw [h]))]

theorem eqInt64SS_eq (N : Nat) (a b : List (List Int)) (ha : a.length ≤ 9223372036854775806) (hb : ∀ x ∈ a, x.length ≤ 9223372036854775806) (hN : a.length < N) (hNb : ∀ x ∈ a, x.length < N) : laws_eqInt64SS N a b = some (decide (a = b)) := by
  unfold laws_eqInt64SS
  simp only [pLen_d]
  by_cases hl : a.length = b.length
  · rw [pNe_f (by omega), ifB_f]
    obtain ⟨h1, h2⟩ := eq_loop (R := Bool) (P := fun x y => bindO (laws_eqInt64S N x y) fun b => some (pNot b)) (xs := a) (ys := b) ha hl (step := laws_eqInt64SS.l4 N) (fun i kn kx => by
        simp only [laws_eqInt64SS.l4, pLen_d]
        congr 1; congr 1; funext x; congr 1; funext y
        cases laws_eqInt64S N x y <;> rfl)
      (fun x hx y _ => ⟨_, by rw [eqInt64S_eq N x y (hb x hx) (hNb x hx)]; rfl, by rw [pNot_d]; simp⟩) (onSum (fun _ => some true) (fun d => let x55 := d.1; some x55)) _ 0 N rfl (by omega) (by omega)
    rw [List.drop_zero, List.drop_zero] at h1 h2
    by_cases he : a = b
    · rw [decide_eq_true he]; exact h1 he
    · rw [decide_eq_false he]; exact h2 he
  · rw [pNe_t (by omega), ifB_t, decide_eq_false (fun h => hl (by rw [h]))]

end Go.AE.F
namespace Go.AE.F
open Go.AE
/-- is it a point? -/
def ptG (a : Int) : Bool := decide (0 ≤ a) && decide (a ≤ 1114111) && !(decide (55296 ≤ a) && decide (a ≤ 57343))
/-- a point's class -/
def classG (a : Int) : Int :=
  if ptG a = true then (if a = 32 ∨ a = 9 ∨ a = 10 then 1 else if (97 ≤ a ∧ a ≤ 122) ∨ (65 ≤ a ∧ a ≤ 90) ∨ (48 ≤ a ∧ a ≤ 57) ∨ a = 95 ∨ 128 ≤ a then 2 else 3) else 0

theorem spec_l01Point_eq (N : Nat) (a : Int) : spec_l01Point N a = some (ptG a) := by
  unfold spec_l01Point ptG
  simp only [ifB_or, ifB_and, bindO_s, pNot_d, pGe_d, pLe_d]

theorem impl_within_eq (N : Nat) (a b c : Int) : impl_within N a b c = some (decide (b ≤ a) && decide (a ≤ c)) := by
  unfold impl_within
  simp only [ifB_and, bindO_s, pLe_d]

theorem impl_isPoint_eq (N : Nat) (a : Int) : impl_isPoint N a = some (ptG a) := by
  unfold impl_isPoint ptG
  simp only [impl_within_eq, ifB_and, bindO_s, pNot_d]

theorem if_b {A : Type} {b : Bool} {p : Prop} [Decidable p] (h : b = true ↔ p) (x y : A) : (if b = true then x else y) = if p then x else y := by
  by_cases hp : p
  · rw [if_pos hp, if_pos (h.2 hp)]
  · rw [if_neg hp, if_neg (fun q => hp (h.1 q))]

theorem spec_ClassOf_eq (N : Nat) (a : Int) : spec_ClassOf N a = some (classG a) := by
  unfold spec_ClassOf classG
  simp only [spec_l01Point_eq, ifB_or, ifB_and, ifB_some, bindO_s, pNot_d, pGe_d, pLe_d, pEq_d]
  congr 1
  cases hp : ptG a with
  | false => rfl
  | true =>
    simp only [Bool.not_true, Bool.false_eq_true, if_false, if_true]
    rw [if_b (p := a = 32 ∨ a = 9 ∨ a = 10) (by simp [or_assoc])]
    congr 1
    rw [if_b (p := (97 ≤ a ∧ a ≤ 122) ∨ (65 ≤ a ∧ a ≤ 90) ∨ (48 ≤ a ∧ a ≤ 57) ∨ a = 95 ∨ 128 ≤ a) (by simp [or_assoc])]

theorem impl_ClassOf_eq (N : Nat) (a : Int) : impl_ClassOf N a = some (classG a) := by
  unfold impl_ClassOf classG
  simp only [impl_isPoint_eq, impl_within_eq, ifB_or, ifB_and, ifB_some, bindO_s, pNot_d, pGe_d, pLe_d, pEq_d]
  congr 1
  cases hp : ptG a with
  | false => rfl
  | true =>
    simp only [Bool.not_true, Bool.false_eq_true, if_false, if_true]
    rw [if_b (p := a = 32 ∨ a = 9 ∨ a = 10) (by simp [or_assoc])]
    congr 1
    rw [if_b (p := (97 ≤ a ∧ a ≤ 122) ∨ (65 ≤ a ∧ a ≤ 90) ∨ (48 ≤ a ∧ a ≤ 57) ∨ a = 95 ∨ 128 ≤ a) (by simp; omega)]

end Go.AE.F
namespace Go.AE.F
open Go.AE
/-- a candidate is right -/
def candG (x : List Int) : Bool := decide (1 ≤ x.length) && decide (x.length ≤ 40) && x.all fun a => decide (classG a = 2)
def candsG (l : List (List Int)) : Bool := decide (l.length ≤ 40) && l.all candG

theorem impl_c1_c1_eq (N : Nat) (a : Int) : impl_CandsRight_c1_c1 N a = some (!decide (classG a = 2)) := by
  unfold impl_CandsRight_c1_c1
  rw [impl_ClassOf_eq, bindO_s, pNe_d]

theorem contains_c1_c1 (N : Nat) (l : List Int) (hl : l.length < N) (hb : l.length ≤ 9223372036854775806) : slices_ContainsFunc_Sint64_int64__impl_CandsRight_c1_c1 N l = some (l.any fun a => !decide (classG a = 2)) := by
  unfold slices_ContainsFunc_Sint64_int64__impl_CandsRight_c1_c1 slices_IndexFunc_Sint64_int64__impl_CandsRight_c1_c1
  have := find_loop (R := Int) (P := impl_CandsRight_c1_c1 N) (p := fun a => !decide (classG a = 2)) (xs := l) hb (step := slices_IndexFunc_Sint64_int64__impl_CandsRight_c1_c1.l2 N) (fun i kn kx => rfl) (fun x _ => impl_c1_c1_eq N x)
    (onSum (fun d => some (-1)) (fun d => let x43 := d.1; some x43)) _ 0 N rfl (by omega) (by omega)
  rw [List.drop_zero] at this
  rw [pLen_d, show (0 : Int) = ((0 : Nat) : Int) from rfl, this]
  have h := find_any (p := fun a => !decide (classG a = 2)) (xs := l)
  cases hf : l.findIdx? (fun a => !decide (classG a = 2)) with
  | none =>
    rw [hf] at h
    show some (pGe (-1) 0) = _
    rw [pGe_f (by omega)]
    congr 1
    cases ha : l.any (fun a => !decide (classG a = 2)) with
    | false => rfl
    | true => have := h.2 ha; simp at this
  | some j =>
    rw [hf] at h
    show some (pGe (((0 + j : Nat) : Int)) 0) = _
    rw [pGe_t (by omega)]
    congr 1
    exact (h.1 (by simp)).symm

theorem not_any {A : Type} {p : A → Bool} : ∀ {l : List A}, (!l.any fun a => !p a) = l.all p
  | [] => rfl
  | a :: l => by rw [List.any_cons, List.all_cons, ← not_any]; cases p a <;> simp

theorem impl_c1_eq (N : Nat) (l : List Int) (hl : l.length < N) (hb : l.length ≤ 9223372036854775806) : impl_CandsRight_c1 N l = some (!candG l) := by
  unfold impl_CandsRight_c1 impl_size_Sint64
  rw [contains_c1_c1 N l hl hb, bindO_s, impl_within_eq, bindO_s, bindO_s, ifB_or, bindO_s, pNot_d]
  congr 1
  unfold candG
  rw [← not_any (p := fun a => decide (classG a = 2)), pLen_d]
  rw [show decide ((1 : Int) ≤ (l.length : Int)) = decide (1 ≤ l.length) from by congr 1; simp; omega, show decide ((l.length : Int) ≤ (40 : Int)) = decide (l.length ≤ 40) from by congr 1; simp; omega]
  cases decide (1 ≤ l.length) <;> cases decide (l.length ≤ 40) <;> simp

theorem impl_CandsRight_eq (N : Nat) (l : List (List Int)) (hl : l.length < N) (hb : l.length ≤ 9223372036854775806) (hx : ∀ x ∈ l, x.length < N ∧ x.length ≤ 9223372036854775806) : impl_CandsRight N l = some (candsG l) := by
  unfold impl_CandsRight slices_ContainsFunc_S_Sint64__Sint64__impl_CandsRight_c1 slices_IndexFunc_S_Sint64__Sint64__impl_CandsRight_c1
  have := find_loop (R := Int) (P := impl_CandsRight_c1 N) (p := fun a => !candG a) (xs := l) hb (step := slices_IndexFunc_S_Sint64__Sint64__impl_CandsRight_c1.l2 N) (fun i kn kx => rfl) (fun x h => impl_c1_eq N x (hx x h).1 (hx x h).2)
    (onSum (fun d => some (-1)) (fun d => let x43 := d.1; some x43)) _ 0 N rfl (by omega) (by omega)
  rw [List.drop_zero] at this
  rw [pLen_d, show (0 : Int) = ((0 : Nat) : Int) from rfl, this]
  have h := find_any (p := fun a => !candG a) (xs := l)
  unfold candsG
  rw [← not_any (p := candG)]
  have e40 : pLe (l.length : Int) 40 = decide (l.length ≤ 40) := by rw [pLe_d]; congr 1; simp; omega
  rw [e40]
  cases hf : l.findIdx? (fun a => !candG a) with
  | none =>
    rw [hf] at h
    have ha : l.any (fun a => !candG a) = false := by
      cases ha : l.any (fun a => !candG a) with
      | false => rfl
      | true => have := h.2 ha; simp at this
    rw [ha]
    cases decide (l.length ≤ 40) <;> rfl
  | some j =>
    rw [hf] at h
    have ha : l.any (fun a => !candG a) = true := h.1 (by simp)
    rw [ha]
    show (bindO (ifB (decide (l.length ≤ 40)) (bindO (bindO (some ((0 + j : Nat) : Int)) fun y1 => some (pGe y1 0)) fun y3 => some (pNot y3)) (some false)) fun y2 => some y2) = _
    rw [bindO_s, pGe_t (by omega)]
    cases decide (l.length ≤ 40) <;> rfl

theorem spec_in_loop {N : Nat} {R : Type} (l : List (List Int)) (i : Nat) (hi : i < l.length) (hb : l[i].length ≤ 40) (k : (List (List Int) × Int × Unit) ⊕ (Bool × Unit) → Option R) :
    ∀ (m j n : Nat), l[i].length - j = m → j ≤ l[i].length → m < n →
    loopP (spec_CandsRight.l9 N) n (l, (i : Int), (j : Int), ()) k = if (l[i].drop j).all (fun a => decide (classG a = 2)) = true then k (.inl (l, (i : Int), ())) else k (.inr (false, ())) := by
  intro m
  induction m with
  | zero =>
    intro j n hm hj hn
    obtain ⟨n, rfl⟩ := succ_of hn
    simp only [loopP_s, spec_CandsRight.l9, pLen_d]
    rw [idx_lt hi, bindO_s, pLt_f (by omega), ifB_f, List.drop_eq_nil_of_le (by omega)]
    rfl
  | succ m ih =>
    intro j n hm hj hn
    obtain ⟨n, rfl⟩ := succ_of hn
    have hlt : j < l[i].length := by omega
    simp only [loopP_s, spec_CandsRight.l9, pLen_d]
    rw [idx_lt hi, bindO_s, pLt_t (by omega), ifB_t, bindO_s, idx_lt hlt, bindO_s, spec_ClassOf_eq, bindO_s, drop_c hlt, List.all_cons]
    by_cases hc : classG l[i][j] = 2
    · rw [pNe_f hc, ifB_f, pAdd_i (by omega) (by omega), decide_eq_true hc, Bool.true_and]
      exact ih (j + 1) n (by omega) (by omega) (by omega)
    · rw [pNe_t hc, ifB_t, decide_eq_false hc, Bool.false_and]
      simp

theorem spec_out_loop {N : Nat} {R : Type} (l : List (List Int)) (hl : l.length ≤ 40) (hN : 41 < N) (k : Unit ⊕ (Bool × Unit) → Option R) :
    ∀ (m i n : Nat), l.length - i = m → i ≤ l.length → m < n →
    loopP (spec_CandsRight.l4 N) n (l, (i : Int), ()) k = if (l.drop i).all candG = true then k (.inl ()) else k (.inr (false, ())) := by
  intro m
  induction m with
  | zero =>
    intro i n hm hi hn
    obtain ⟨n, rfl⟩ := succ_of hn
    simp only [loopP_s, spec_CandsRight.l4, pLen_d]
    rw [pLt_f (by omega), ifB_f, List.drop_eq_nil_of_le (by omega)]
    rfl
  | succ m ih =>
    intro i n hm hi hn
    obtain ⟨n, rfl⟩ := succ_of hn
    have hlt : i < l.length := by omega
    simp only [loopP_s, spec_CandsRight.l4, pLen_d]
    rw [pLt_t (by omega), ifB_t, idx_lt hlt, bindO_s, bindO_s, ifB_or, bindO_s, drop_c hlt, List.all_cons]
    by_cases h1 : l[i].length < 1
    · rw [pLt_t (by omega), Bool.true_or, ifB_t]
      have : candG l[i] = false := by unfold candG; rw [decide_eq_false (by omega)]; rfl
      rw [this]; simp
    · by_cases h2 : 40 < l[i].length
      · rw [pGt_t (by omega), Bool.or_true, ifB_t]
        have : candG l[i] = false := by unfold candG; rw [decide_eq_false (p := l[i].length ≤ 40) (by omega)]; simp
        rw [this]; simp
      · rw [pLt_f (by omega), pGt_f (by omega), Bool.or_self, ifB_f]
        have hin := spec_in_loop (N := N) l i hlt (by omega) (onSum (fun d => let x442 := d.1; let x443 := d.2.1; loopP (spec_CandsRight.l4 N) n (x442, pAdd .i64 x443 1, ()) k) (fun d => let x444 := d.1; k (.inr (x444, ())))) _ 0 N rfl (by omega) (by omega)
        rw [List.drop_zero] at hin
        refine Eq.trans hin ?_
        have hc : candG l[i] = l[i].all fun a => decide (classG a = 2) := by unfold candG; rw [decide_eq_true (by omega), decide_eq_true (by omega)]; rfl
        rw [hc]
        cases ha : l[i].all fun a => decide (classG a = 2) with
        | false => simp [onSum]
        | true =>
          simp only [if_true, onSum, Bool.true_and]
          rw [pAdd_i (by omega) (by omega)]
          exact ih (i + 1) n (by omega) (by omega) (by omega)

theorem spec_CandsRight_eq (N : Nat) (l : List (List Int)) (hN : 41 < N) : spec_CandsRight N l = some (candsG l) := by
  unfold spec_CandsRight candsG
  rw [pLen_d]
  by_cases h : l.length ≤ 40
  · rw [pGt_f (by omega), ifB_f, decide_eq_true h, Bool.true_and]
    have := spec_out_loop (N := N) l h hN (onSum (fun d => some true) (fun d => let x445 := d.1; some x445)) _ 0 N rfl (by omega) (by omega)
    rw [List.drop_zero] at this
    refine Eq.trans this ?_
    cases l.all candG <;> rfl
  · rw [pGt_t (by omega), ifB_t, decide_eq_false h]; rfl

end Go.AE.F
namespace Go.AE.F
open Go.AE
/-- numbers that count up -/
def cnt (k : Int) (n : Nat) : List Int := (List.range n).map fun i : Nat => k + (i : Int)
theorem cnt_len (k : Int) (n : Nat) : (cnt k n).length = n := by simp [cnt]
theorem cnt_get (k : Int) (n i : Nat) (h : i < n) : (cnt k n)[i]'(by rw [cnt_len]; exact h) = k + (i : Int) := by simp [cnt]

theorem mark_loop {N : Nat} {R : Type} (k0 : Int) (L : Nat) (hk : 0 ≤ k0) (hL : k0 + L ≤ 4611686018427387904) (kk : Int × List Int × Unit → Option R) : ∀ (m i n : Nat) (l : List Int), L - i = m → i ≤ L → m < n → l.length = L → l.take i = (cnt k0 L).take i →
    loopP (laws_markInt64S.l2 N) n (k0 + i, (i : Int), l, ()) kk = kk (k0 + L, cnt k0 L, ()) := by
  intro m
  induction m with
  | zero =>
    intro i n l hm hi hn hl ht
    obtain ⟨n, rfl⟩ := succ_of hn
    have hiL : i = L := by omega
    have e : l = cnt k0 L := by
      rw [List.take_of_length_le (by omega), List.take_of_length_le (by rw [cnt_len]; omega)] at ht
      exact ht
    simp only [loopP_s, laws_markInt64S.l2, pLen_d]
    rw [pLt_f (by omega), ifB_f, e, hiL]
  | succ m ih =>
    intro i n l hm hi hn hl ht
    obtain ⟨n, rfl⟩ := succ_of hn
    have hlt : i < l.length := by omega
    simp only [loopP_s, laws_markInt64S.l2, pLen_d]
    rw [pLt_t (by omega), ifB_t, idx_lt hlt, bindO_s, bindO_s, pAdd_i (by omega) (by omega), pAdd_i (by omega) (by omega)]
    have := ih (i + 1) n (pSet l (i : Int) (k0 + i)) (by omega) (by omega) (by omega) (by simp [pSet, hl]) (by
      rw [List.take_succ_eq_append_getElem (by simp [pSet]; omega), List.take_succ_eq_append_getElem (by rw [cnt_len]; omega)]
      congr 1
      · rw [← ht]; simp [pSet, List.take_set_of_le]
      · rw [cnt_get k0 L i (by omega)]; simp [pSet])
    refine Eq.trans ?_ this
    congr 2
    omega

theorem markInt64S_eq (N : Nat) (l : List Int) (k : Int) (hk : 0 ≤ k) (hL : k + l.length ≤ 4611686018427387904) (hN : l.length < N) : laws_markInt64S N l k = some (k + l.length, cnt k l.length) := by
  unfold laws_markInt64S
  have := mark_loop (N := N) k l.length hk hL (fun d => let x44 := d.1; let x45 := d.2.1; some (x44, x45)) _ 0 N l rfl (by omega) (by omega) rfl (by simp)
  rw [show k + ((0 : Nat) : Int) = k from by omega] at this
  exact this

theorem held_loop {N : Nat} {R : Type} (k0 : Int) (L : Nat) (hk : 0 ≤ k0) (hL : k0 + L ≤ 4611686018427387904) (kk : (Int × Unit) ⊕ (Int × Unit) → Option R) : ∀ (m i n : Nat), L - i = m → i ≤ L → m < n →
    loopP (laws_heldInt64S.l2 N) n (cnt k0 L, k0 + i, (i : Int), ()) kk = kk (.inl (k0 + L, ())) := by
  intro m
  induction m with
  | zero =>
    intro i n hm hi hn
    obtain ⟨n, rfl⟩ := succ_of hn
    have hiL : i = L := by omega
    simp only [loopP_s, laws_heldInt64S.l2, pLen_d]
    rw [pLt_f (by rw [cnt_len]; omega), ifB_f, hiL]
  | succ m ih =>
    intro i n hm hi hn
    obtain ⟨n, rfl⟩ := succ_of hn
    have hlt : i < (cnt k0 L).length := by rw [cnt_len]; omega
    simp only [loopP_s, laws_heldInt64S.l2, pLen_d]
    rw [pLt_t (by rw [cnt_len]; omega), ifB_t, idx_lt hlt, bindO_s, cnt_get k0 L i (by omega), pNe_f rfl, ifB_f, pAdd_i (by omega) (by omega), pAdd_i (by omega) (by omega)]
    have := ih (i + 1) n (by omega) (by omega) (by omega)
    refine Eq.trans ?_ this
    congr 3
    omega

theorem heldInt64S_eq (N : Nat) (L : Nat) (k : Int) (hk : 0 ≤ k) (hL : k + L ≤ 4611686018427387904) (hN : L < N) : laws_heldInt64S N (cnt k L) k = some (k + L) := by
  unfold laws_heldInt64S
  have := held_loop (N := N) k L hk hL (onSum (fun d => let x32 := d.1; some x32) (fun d => let x33 := d.1; some x33)) _ 0 N rfl (by omega) (by omega)
  rw [show k + ((0 : Nat) : Int) = k from by omega] at this
  exact this

theorem markSS_loop {N : Nat} {R : Type} (l0 : List (List Int)) (hN : ∀ x ∈ l0, x.length < N) (hS : sumLen l0 ≤ 4194304) (hl : l0.length ≤ 4194304) (kk : Int × List (List Int) × Unit → Option R) : ∀ (m i n : Nat) (k : Int) (l : List (List Int)), l0.length - i = m → i ≤ l0.length → m < n →
    l.length = l0.length → l.drop i = l0.drop i → 0 ≤ k → k + sumLen (l0.drop i) ≤ 4611686018427387904 →
    ∃ l', l'.length = l0.length ∧ loopP (laws_markInt64SS.l2 N) n (k, (i : Int), l, ()) kk = kk (k + sumLen (l0.drop i), l', ()) := by
  intro m
  induction m with
  | zero =>
    intro i n k l hm hi hn hll hd hk hs
    obtain ⟨n, rfl⟩ := succ_of hn
    refine ⟨l, hll, ?_⟩
    simp only [loopP_s, laws_markInt64SS.l2, pLen_d]
    rw [pLt_f (by omega), ifB_f, List.drop_eq_nil_of_le (as := l0) (by omega)]
    simp [sumLen]
  | succ m ih =>
    intro i n k l hm hi hn hll hd hk hs
    obtain ⟨n, rfl⟩ := succ_of hn
    have hlt : i < l0.length := by omega
    have hlt2 : i < l.length := by omega
    have ei : l[i] = l0[i] := by
      rw [drop_c hlt, drop_c hlt2] at hd
      exact (List.cons.inj hd).1
    have ed : l.drop (i + 1) = l0.drop (i + 1) := by
      rw [drop_c hlt, drop_c hlt2] at hd
      exact (List.cons.inj hd).2
    have es : sumLen (l0.drop i) = l0[i].length + sumLen (l0.drop (i + 1)) := by rw [drop_c hlt]; rfl
    rw [es] at hs
    obtain ⟨l', h1, h2⟩ := ih (i + 1) n (k + l0[i].length) (pSet l (i : Int) (cnt k l0[i].length)) (by omega) (by omega) (by omega) (by simp [pSet, hll]) (by
      rw [← ed]; simp only [pSet, Int.toNat_natCast]; exact List.drop_set_of_lt (by omega)) (by omega) (by omega)
    refine ⟨l', h1, ?_⟩
    simp only [loopP_s, laws_markInt64SS.l2, pLen_d]
    rw [pLt_t (by omega), ifB_t, idx_lt hlt2, bindO_s, bindO_s, bindO_s, ei, markInt64S_eq N l0[i] k hk (by omega) (hN _ (List.getElem_mem hlt)), bindO_s, bindO_s, pAdd_i (by omega) (by omega)]
    refine Eq.trans h2 ?_
    rw [es]
    congr 2
    omega

theorem markInt64SS_eq (N : Nat) (l : List (List Int)) (k : Int) (hk : 0 ≤ k) (hk2 : k ≤ 4194304) (hN : l.length < N) (hNx : ∀ x ∈ l, x.length < N) (hS : sumLen l ≤ 4194304) (hl : l.length ≤ 4194304) : ∃ l', laws_markInt64SS N l k = some (k + sumLen l, l') := by
  unfold laws_markInt64SS
  obtain ⟨l', _, h⟩ := markSS_loop (N := N) l hNx hS hl (fun d => let x80 := d.1; let x81 := d.2.1; some (x80, x81)) _ 0 N k l rfl (by omega) (by omega) rfl rfl hk (by rw [List.drop_zero]; omega)
  rw [List.drop_zero] at h
  exact ⟨l', h⟩

end Go.AE.F
namespace Go.AE.F
open Go.AE
def ptsG (l : List Int) : Bool := decide (l.length ≤ 300) && l.all ptG

theorem spec_PointsRight_eq (N : Nat) (l : List Int) (hN : 301 < N) : spec_PointsRight N l = some (ptsG l) := by
  unfold spec_PointsRight ptsG
  rw [pLen_d]
  by_cases h : l.length ≤ 300
  · rw [pGt_f (by omega), ifB_f, decide_eq_true h, Bool.true_and]
    have := all_loop (R := Bool) (P := spec_l01Point N) (p := ptG) (xs := l) (by omega) (step := spec_PointsRight.l4 N) (fun i kn kx => by simp only [spec_PointsRight.l4, pLen_d]) (fun x _ => spec_l01Point_eq N x)
      (onSum (fun d => some true) (fun d => let x37 := d.1; some x37)) _ 0 N rfl (by omega) (by omega)
    rw [List.drop_zero] at this
    refine Eq.trans this ?_
    cases l.all ptG <;> rfl
  · rw [pGt_t (by omega), ifB_t, decide_eq_false h]; rfl

/-- a search for what fails, over any kind -/
theorem contains_all {A : Type} {N : Nat} {P : A → Option Bool} {p : A → Bool} {l : List A} (hl : l.length < N) (hb : l.length ≤ 9223372036854775806) {step : {R : Type} → List A × Int × Int × Unit → (List A × Int × Int × Unit → Option R) → (Unit ⊕ (Int × Unit) → Option R) → Option R}
    (hs : ∀ i kn kx, step (R := Int) (l, (l.length : Int), i, ()) kn kx = ifB (pLt i l.length) (bindO (idx l i) fun y => bindO (P y) fun b => ifB b (kx (.inr (i, ()))) (kn (l, (l.length : Int), pAdd .i64 i 1, ()))) (kx (.inl ())))
    (hP : ∀ x ∈ l, P x = some (!p x)) :
    (bindO (loopP (R := Int) step N (l, (l.length : Int), (0 : Int), ()) (onSum (fun _ => some (-1)) (fun d => let x43 := d.1; some x43))) fun y1 => some (pGe y1 0)) = some (!l.all p) := by
  have := find_loop (R := Int) (P := P) (p := fun a => !p a) (xs := l) hb (step := step) hs hP (onSum (fun _ => some (-1)) (fun d => let x43 := d.1; some x43)) _ 0 N rfl (by omega) (by omega)
  rw [List.drop_zero] at this
  rw [show (0 : Int) = ((0 : Nat) : Int) from rfl, this]
  have h := find_any (p := fun a => !p a) (xs := l)
  rw [← not_any (p := p)]
  cases hf : l.findIdx? (fun a => !p a) with
  | none =>
    rw [hf] at h
    have ha : l.any (fun a => !p a) = false := by
      cases ha : l.any (fun a => !p a) with
      | false => rfl
      | true => have := h.2 ha; simp at this
    rw [ha]; rfl
  | some j =>
    rw [hf] at h
    have ha : l.any (fun a => !p a) = true := h.1 (by simp)
    rw [ha]
    show (bindO (some ((0 + j : Nat) : Int)) fun y1 => some (pGe y1 0)) = _
    rw [bindO_s, pGe_t (by omega)]; rfl

theorem impl_PointsRight_eq (N : Nat) (l : List Int) (hl : l.length < N) (hb : l.length ≤ 9223372036854775806) : impl_PointsRight N l = some (ptsG l) := by
  unfold impl_PointsRight slices_ContainsFunc_Sint64_int64__impl_PointsRight_c1 slices_IndexFunc_Sint64_int64__impl_PointsRight_c1 ptsG
  rw [pLen_d, contains_all (P := impl_PointsRight_c1 N) (p := ptG) (step := fun {R} => slices_IndexFunc_Sint64_int64__impl_PointsRight_c1.l2 (R := R) N) hl hb (fun i kn kx => rfl) (fun x _ => by unfold impl_PointsRight_c1; rw [impl_isPoint_eq, bindO_s, pNot_d]), bindO_s]
  have e : pLe (l.length : Int) 300 = decide (l.length ≤ 300) := by rw [pLe_d]; congr 1; simp; omega
  rw [e, ifB_and, bindO_s, pNot_d]
  simp

theorem spec_l01Same_eq (N : Nat) (a b : List Int) (ha : a.length ≤ 9223372036854775806) (hN : a.length < N) : spec_l01Same N a b = some (decide (a = b)) := by
  unfold spec_l01Same
  simp only [pLen_d]
  by_cases hl : a.length = b.length
  · rw [pNe_f (by omega), ifB_f]
    obtain ⟨h1, h2⟩ := eq_loop (R := Bool) (P := fun x y => some (pNe x y)) (xs := a) (ys := b) ha hl (step := spec_l01Same.l4 N) (fun i kn kx => by simp only [spec_l01Same.l4, bindO_s, pLen_d])
      (fun x _ y _ => ⟨_, rfl, by rw [pNe_d]; simp⟩) (onSum (fun _ => some true) (fun d => let x43 := d.1; some x43)) _ 0 N rfl (by omega) (by omega)
    rw [List.drop_zero, List.drop_zero] at h1 h2
    by_cases he : a = b
    · rw [decide_eq_true he]; exact h1 he
    · rw [decide_eq_false he]; exact h2 he
  · rw [pNe_t (by omega), ifB_t, decide_eq_false (fun h => hl (by rw [h]))]

theorem slEq_loop {N : Nat} {R : Type} (a b : List Int) (ha : a.length ≤ 9223372036854775806) (hl : a.length = b.length) (k : Unit ⊕ (Bool × Unit) → Option R) : ∀ (m i n : Nat), a.length - i = m → i ≤ a.length → m < n →
    loopP (slices_Equal_Sint64_int64.l4 N) n (a, b, (a.length : Int), (i : Int), ()) k = if a.drop i = b.drop i then k (.inl ()) else k (.inr (false, ())) := by
  intro m
  induction m with
  | zero =>
    intro i n hm hi hn
    obtain ⟨n, rfl⟩ := succ_of hn
    simp only [loopP_s, slices_Equal_Sint64_int64.l4]
    rw [pLt_f (by omega), ifB_f, List.drop_eq_nil_of_le (by omega), List.drop_eq_nil_of_le (by omega), if_pos rfl]
  | succ m ih =>
    intro i n hm hi hn
    obtain ⟨n, rfl⟩ := succ_of hn
    have h1 : i < a.length := by omega
    have h2 : i < b.length := by omega
    simp only [loopP_s, slices_Equal_Sint64_int64.l4]
    rw [pLt_t (by omega), ifB_t, idx_lt h1, bindO_s, idx_lt h2, bindO_s, drop_c h1, drop_c h2]
    by_cases he : a[i] = b[i]
    · rw [pNe_f he, ifB_f, pAdd_i (by omega) (by omega)]
      refine Eq.trans (ih (i + 1) n (by omega) (by omega) (by omega)) ?_
      by_cases hd : a.drop (i + 1) = b.drop (i + 1)
      · rw [if_pos hd, if_pos (by rw [he, hd])]
      · rw [if_neg hd, if_neg (fun q => hd (List.cons.inj q).2)]
    · rw [pNe_t he, ifB_t, if_neg (fun q => he (List.cons.inj q).1)]

theorem slices_Equal_eq (N : Nat) (a b : List Int) (ha : a.length ≤ 9223372036854775806) (hN : a.length < N) : slices_Equal_Sint64_int64 N a b = some (decide (a = b)) := by
  unfold slices_Equal_Sint64_int64
  simp only [pLen_d]
  by_cases hl : a.length = b.length
  · rw [pNe_f (by omega), ifB_f]
    have := slEq_loop (N := N) a b ha hl (onSum (fun _ => some true) (fun d => let x49 := d.1; some x49)) _ 0 N rfl (by omega) (by omega)
    rw [List.drop_zero, List.drop_zero] at this
    refine Eq.trans this ?_
    by_cases he : a = b
    · rw [decide_eq_true he, if_pos he]; rfl
    · rw [decide_eq_false he, if_neg he]; rfl
  · rw [pNe_t (by omega), ifB_t, decide_eq_false (fun h => hl (by rw [h]))]

def begG (x p : List Int) : Bool := decide (p.length ≤ x.length) && decide (x.take p.length = p)

theorem sub_take {A : Type} (x : List A) (n : Nat) : sub x 0 (n : Int) = x.take n := by simp [sub]

theorem spec_l06Begins_eq (N : Nat) (x p : List Int) (hx : x.length ≤ 9223372036854775806) (hN : x.length < N) : spec_l06Begins N x p = some (begG x p) := by
  unfold spec_l06Begins begG
  simp only [pLen_d]
  by_cases h : p.length ≤ x.length
  · rw [pGe_t (by omega), ifB_t, pLe_t (by omega), ifB_t, pLe_t (by omega), ifB_t, pLe_t (by omega), ifB_t, sub_take, spec_l01Same_eq N _ p (by simp; omega) (by simp; omega), decide_eq_true h]
    rfl
  · rw [pGe_f (by omega), ifB_f, decide_eq_false h]; rfl

theorem impl_begins_eq (N : Nat) (x p : List Int) (hx : x.length ≤ 9223372036854775806) (hN : x.length < N) : impl_begins N x p = some (begG x p) := by
  unfold impl_begins begG
  simp only [pLen_d]
  by_cases h : p.length ≤ x.length
  · rw [pGe_t (by omega), ifB_t, pLe_t (by omega), ifB_t, pLe_t (by omega), ifB_t, pLe_t (by omega), ifB_t, sub_take, slices_Equal_eq N _ p (by simp; omega) (by simp; omega), decide_eq_true h]
    rfl
  · rw [pGe_f (by omega), ifB_f, decide_eq_false h]; rfl

def idxG (p : List Int) : Int → List (List Int) → List Int
  | _, [] => []
  | i, x :: l => if begG x p = true then i :: idxG p (i + 1) l else idxG p (i + 1) l
def matG (p : List Int) (l : List (List Int)) : List (List Int) := l.filter fun x => begG x p

theorem idxG_len (p : List Int) : ∀ (l : List (List Int)) (i : Int), (idxG p i l).length ≤ l.length
  | [], i => by simp [idxG]
  | x :: l, i => by
    have := idxG_len p l (i + 1)
    simp only [idxG]
    split <;> simp <;> omega

theorem specMatch_loop {N : Nat} {R : Type} (l : List (List Int)) (p : List Int) (hl : l.length ≤ 400) (hx : ∀ x ∈ l, x.length ≤ 9223372036854775806 ∧ x.length < N) (k : List Int × Unit → Option R) :
    ∀ (m i n : Nat) (out : List Int), l.length - i = m → i ≤ l.length → m < n → out.length ≤ i →
    loopP (spec_CompMatch.l5 N) n (l, p, (i : Int), out, ()) k = k (out ++ idxG p i (l.drop i), ()) := by
  intro m
  induction m with
  | zero =>
    intro i n out hm hi hn ho
    obtain ⟨n, rfl⟩ := succ_of hn
    simp only [loopP_s, spec_CompMatch.l5, pLen_d]
    rw [pLt_f (by omega), ifB_f, List.drop_eq_nil_of_le (by omega)]
    simp [idxG]
  | succ m ih =>
    intro i n out hm hi hn ho
    obtain ⟨n, rfl⟩ := succ_of hn
    have hlt : i < l.length := by omega
    have hxi := hx _ (List.getElem_mem hlt)
    simp only [loopP_s, spec_CompMatch.l5, pLen_d]
    rw [pLt_t (by omega), ifB_t, idx_lt hlt, bindO_s, spec_l06Begins_eq N _ _ hxi.1 hxi.2, bindO_s, drop_c hlt]
    cases hb : begG l[i] p with
    | true =>
      rw [ifB_t, pFit_t (by simp; omega), ifB_t, bindO_s]
      simp only []
      rw [pAdd_i (by omega) (by omega)]
      refine Eq.trans (ih (i + 1) n _ (by omega) (by omega) (by omega) (by simp [pApp]; omega)) ?_
      simp only [idxG, hb, if_true, pApp, List.append_assoc, List.singleton_append]
      rfl
    | false =>
      rw [ifB_f, bindO_s]
      simp only []
      rw [pAdd_i (by omega) (by omega)]
      refine Eq.trans (ih (i + 1) n _ (by omega) (by omega) (by omega) (by omega)) ?_
      simp only [idxG, hb, Bool.false_eq_true, if_false]
      rfl

theorem implMatch_loop {N : Nat} {R : Type} (l : List (List Int)) (p : List Int) (hl : l.length ≤ 400) (hx : ∀ x ∈ l, x.length ≤ 9223372036854775806 ∧ x.length < N) (k : List (List Int) × List Int × Unit → Option R) :
    ∀ (m i n : Nat) (o1 : List (List Int)) (o2 : List Int), l.length - i = m → i ≤ l.length → m < n → o1.length ≤ i → o2.length ≤ i →
    loopP (impl_matches.l3 N) n (p, l, (l.length : Int), (i : Int), o1, o2, ()) k = k (o1 ++ matG p (l.drop i), o2 ++ idxG p i (l.drop i), ()) := by
  intro m
  induction m with
  | zero =>
    intro i n o1 o2 hm hi hn h1 h2
    obtain ⟨n, rfl⟩ := succ_of hn
    simp only [loopP_s, impl_matches.l3]
    rw [pLt_f (by omega), ifB_f, List.drop_eq_nil_of_le (by omega)]
    simp [idxG, matG]
  | succ m ih =>
    intro i n o1 o2 hm hi hn h1 h2
    obtain ⟨n, rfl⟩ := succ_of hn
    have hlt : i < l.length := by omega
    have hxi := hx _ (List.getElem_mem hlt)
    simp only [loopP_s, impl_matches.l3]
    rw [pLt_t (by omega), ifB_t, idx_lt hlt, bindO_s, impl_begins_eq N _ _ hxi.1 hxi.2, bindO_s, drop_c hlt]
    cases hb : begG l[i] p with
    | true =>
      rw [ifB_t, pFit_t (by simp; omega), ifB_t, pFit_t (by simp; omega), ifB_t, bindO_s]
      simp only []
      rw [pAdd_i (by omega) (by omega)]
      refine Eq.trans (ih (i + 1) n _ _ (by omega) (by omega) (by omega) (by simp [pApp]; omega) (by simp [pApp]; omega)) ?_
      simp only [idxG, matG, hb, if_true, pApp, List.append_assoc, List.singleton_append, List.filter_cons]
      rfl
    | false =>
      rw [ifB_f, bindO_s]
      simp only []
      rw [pAdd_i (by omega) (by omega)]
      refine Eq.trans (ih (i + 1) n _ _ (by omega) (by omega) (by omega) (by omega) (by omega)) ?_
      simp only [idxG, matG, hb, Bool.false_eq_true, if_false, List.filter_cons]
      rfl

/-- what is asked of candidates and a prefix -/
def askG (l : List (List Int)) (p : List Int) : Bool := decide (l.length ≤ 400) && decide (p.length ≤ 400) && candsG l && ptsG p
def matchG (l : List (List Int)) (p : List Int) : List Int := if askG l p = true then idxG p 0 l else []

theorem gt_not (n : Nat) (k : Nat) : pGt (n : Int) (k : Int) = !decide (n ≤ k) := by
  rw [pGt_d]
  by_cases h : n ≤ k
  · rw [decide_eq_true h, decide_eq_false (by omega)]; rfl
  · rw [decide_eq_false h, decide_eq_true (by omega)]; rfl

theorem spec_CompMatch_eq (N : Nat) (l : List (List Int)) (p : List Int) (hN : 401 < N) (hx : ∀ x ∈ l, x.length ≤ 9223372036854775806 ∧ x.length < N) : spec_CompMatch N l p = some (matchG l p) := by
  unfold spec_CompMatch matchG
  simp only [pLen_d]
  rw [show (400 : Int) = ((400 : Nat) : Int) from rfl, gt_not, gt_not, ifB_or, bindO_s, spec_CandsRight_eq N l (by omega), bindO_s, ifB_or, bindO_s, spec_PointsRight_eq N p (by omega), bindO_s, ifB_or, bindO_s, pNot_d, pNot_d]
  have e : (((!decide (l.length ≤ 400) || !decide (p.length ≤ 400)) || !candsG l) || !ptsG p) = !askG l p := by
    unfold askG
    cases decide (l.length ≤ 400) <;> cases decide (p.length ≤ 400) <;> cases candsG l <;> cases ptsG p <;> rfl
  rw [e]
  cases ha : askG l p with
  | false => rw [Bool.not_false, ifB_t]; rfl
  | true =>
    rw [Bool.not_true, ifB_f, if_pos rfl]
    have hl : l.length ≤ 400 := by
      unfold askG at ha
      simp only [Bool.and_eq_true, decide_eq_true_eq] at ha
      exact ha.1.1.1
    have := specMatch_loop (N := N) l p hl hx (fun d => let x95 := d.1; some x95) _ 0 N [] rfl (by omega) (by omega) (by simp)
    rw [List.drop_zero] at this
    exact this

end Go.AE.F
namespace Go.AE.F
open Go.AE
theorem pNot_same {A : Type} [DecidableEq A] (a : A) : pNot (decide (a = a)) = false := by rw [decide_eq_true rfl]; rfl

end Go.AE.F
namespace Go.AE.F
open Go.AE
/-- the greatest place at most n with p, or 0 -/
def dn (p : Nat → Bool) : Nat → Nat
  | 0 => 0
  | n + 1 => if p (n + 1) = true then n + 1 else dn p n

theorem dn_le (p : Nat → Bool) : ∀ n, dn p n ≤ n
  | 0 => Nat.le_refl 0
  | n + 1 => by
    unfold dn
    split
    · exact Nat.le_refl _
    · exact Nat.le_succ_of_le (dn_le p n)

theorem dn_self (p : Nat → Bool) (n : Nat) (h : p n = true) : dn p n = n := by
  cases n with
  | zero => rfl
  | succ n => unfold dn; rw [if_pos h]

theorem dn_and (p q : Nat → Bool) (hp : ∀ n, p (n + 1) = true → p n = true) : ∀ n, dn (fun i => p i && q i) n = dn q (dn p n)
  | 0 => rfl
  | n + 1 => by
    cases h : p (n + 1) with
    | false =>
      have e1 : dn (fun i => p i && q i) (n + 1) = dn (fun i => p i && q i) n := by
        rw [dn]; simp only [h, Bool.false_and, Bool.false_eq_true, if_false]
      have e2 : dn p (n + 1) = dn p n := by rw [dn]; simp only [h, Bool.false_eq_true, if_false]
      rw [e1, e2, dn_and p q hp n]
    | true =>
      have e2 : dn p (n + 1) = n + 1 := dn_self p _ h
      rw [e2]
      cases hq : q (n + 1) with
      | true => rw [dn_self q _ hq, dn_self _ _ (by simp only [h, hq]; rfl)]
      | false =>
        have e1 : dn (fun i => p i && q i) (n + 1) = dn (fun i => p i && q i) n := by
          rw [dn]; simp only [h, hq, Bool.true_and, Bool.false_eq_true, if_false]
        have e3 : dn q (n + 1) = dn q n := by rw [dn]; simp only [hq, Bool.false_eq_true, if_false]
        rw [e1, e3, dn_and p q hp n, dn_self p n (hp n h)]

/-- c begins with the first n of x -/
def begN (x c : List Int) (n : Nat) : Bool := begG c (x.take n)

theorem begN_dn (x c : List Int) (n : Nat) (h : begN x c (n + 1) = true) : begN x c n = true := by
  unfold begN begG at h ⊢
  simp only [Bool.and_eq_true, decide_eq_true_eq, List.length_take] at h ⊢
  obtain ⟨h1, h2⟩ := h
  refine ⟨by omega, ?_⟩
  have := congrArg (List.take n) h2
  rw [List.take_take, List.take_take] at this
  rw [show min n (n + 1) = n from by omega] at this
  rw [← this]
  by_cases hn : n ≤ x.length
  · congr 1; omega
  · congr 1; omega

theorem begN_0 (x c : List Int) : begN x c 0 = true := by
  unfold begN begG
  simp

/-- the longest first part of x with which all begin -/
def comN (x : List Int) (cs : List (List Int)) (n : Nat) : Nat := dn (fun i => cs.all fun c => begN x c i) n

theorem comN_cons (x c : List Int) (cs : List (List Int)) (n : Nat) : comN x (c :: cs) n = comN x cs (dn (begN x c) n) := by
  unfold comN
  rw [← dn_and (begN x c) _ (begN_dn x c)]
  rfl

theorem comN_nil (x : List Int) (n : Nat) : comN x [] n = n := dn_self _ _ rfl

end Go.AE.F
namespace Go.AE.F
open Go.AE
theorem same_self {R : Type} (a : Option R) : same a a = a := if_pos rfl

theorem clone_eq (N : Nat) (a : List Int) (h : a.length ≤ 68719476736) : slices_Clone_Sint64_int64 N a = some a := by
  unfold slices_Clone_Sint64_int64 slices_Clone_Sint64_int64.g
  rw [pFit_t (by simp; exact h), pLen_d]
  simp only [ifB_t]
  cases a with
  | nil =>
    rw [pEq_t (by simp), ifB_t]
    exact same_self _
  | cons x l =>
    rw [pEq_f (by simp; omega), ifB_f]
    rfl

theorem copy_eq (N : Nat) (a : List Int) (h : a.length ≤ 68719476736) : spec_l01Copy N a = some a := by
  unfold spec_l01Copy
  rw [pFit_t (by simp; exact h), ifB_t]
  rfl

theorem idx_mat (p : List Int) : ∀ (l : List (List Int)) (i : Nat), (idxG p i l).length = (matG p l).length ∧
    ∀ (j : Nat) (h : j < (idxG p i l).length), ∃ t : Nat, (idxG p i l)[j] = ((i + t : Nat) : Int) ∧ t < l.length ∧ l[t]? = (matG p l)[j]?
  | [], i => ⟨rfl, fun j h => by simp [idxG] at h⟩
  | x :: l, i => by
    have ih := idx_mat p l (i + 1)
    cases hb : begG x p with
    | false =>
      have e1 : idxG p i (x :: l) = idxG p ((i + 1 : Nat) : Int) l := by simp only [idxG, hb, Bool.false_eq_true, if_false]; rfl
      have e2 : matG p (x :: l) = matG p l := by simp only [matG, List.filter_cons, hb, Bool.false_eq_true, if_false]
      rw [e1, e2]
      refine ⟨ih.1, fun j h => ?_⟩
      obtain ⟨t, h1, h2, h3⟩ := ih.2 j h
      exact ⟨t + 1, by rw [h1]; omega, by simp; omega, by simpa using h3⟩
    | true =>
      have e1 : idxG p i (x :: l) = (i : Int) :: idxG p ((i + 1 : Nat) : Int) l := by simp only [idxG, hb, if_true]; rfl
      have e2 : matG p (x :: l) = x :: matG p l := by simp only [matG, List.filter_cons, hb, if_true]
      rw [e2]
      refine ⟨by rw [e1, List.length_cons, List.length_cons, ih.1], fun j h => ?_⟩
      have ej : (idxG p i (x :: l))[j] = ((i : Int) :: idxG p ((i + 1 : Nat) : Int) l)[j]'(by rw [← e1]; exact h) := by simp only [e1]
      rw [ej]
      cases j with
      | zero => exact ⟨0, by simp, by simp, rfl⟩
      | succ j =>
        have hj : j < (idxG p ((i + 1 : Nat) : Int) l).length := by
          rw [e1, List.length_cons] at h; omega
        obtain ⟨t, h1, h2, h3⟩ := ih.2 j hj
        refine ⟨t + 1, ?_, by simp; omega, by simpa using h3⟩
        rw [List.getElem_cons_succ, h1]; omega

theorem specCut_loop {N : Nat} {R : Type} (l : List (List Int)) (ms : List Int) (i : Nat) (hi : i < ms.length) (t : Nat) (ht : t < l.length) (hm : ms[i] = (t : Int)) (x : List Int) (hc : l[t].length ≤ 9223372036854775806 ∧ l[t].length < N)
    (hx : x.length ≤ 9223372036854775806) (k : List (List Int) × Int × List Int × List Int × Unit → Option R) :
    ∀ (n fuel : Nat), n ≤ x.length → n < fuel →
    loopP (spec_CompCommon.l10 N) fuel (l, (i : Int), ms, x.take n, ()) k = k (l, (i : Int), ms, x.take (dn (begN x l[t]) n), ()) := by
  intro n
  induction n with
  | zero =>
    intro fuel hn hf
    obtain ⟨f, rfl⟩ := succ_of hf
    simp only [loopP_s, spec_CompCommon.l10]
    rw [idx_lt hi, bindO_s, bindO_s, hm, idx_lt ht, bindO_s, spec_l06Begins_eq N _ _ hc.1 hc.2, bindO_s]
    have : begG l[t] (x.take 0) = true := begN_0 x _
    rw [this, pNot_d, Bool.not_true, ifB_f]
    rfl
  | succ n ih =>
    intro fuel hn hf
    obtain ⟨f, rfl⟩ := succ_of hf
    simp only [loopP_s, spec_CompCommon.l10]
    rw [idx_lt hi, bindO_s, bindO_s, hm, idx_lt ht, bindO_s, spec_l06Begins_eq N _ _ hc.1 hc.2, bindO_s]
    cases hb : begN x l[t] (n + 1) with
    | true =>
      have : begG l[t] (x.take (n + 1)) = true := hb
      rw [this, pNot_d, Bool.not_true, ifB_f, dn_self _ _ hb]
    | false =>
      have : begG l[t] (x.take (n + 1)) = false := hb
      have e : (x.take (n + 1)).length = n + 1 := by rw [List.length_take]; omega
      rw [this, pNot_d, Bool.not_false, ifB_t, pLe_t (by omega), ifB_t, pLen_d, e, pSub_i (by omega) (by omega), pLe_t (by omega), ifB_t, pLe_t (by omega), ifB_t]
      have e2 : ((n + 1 : Nat) : Int) - 1 = (n : Int) := by omega
      rw [e2, sub_take, List.take_take, show min n (n + 1) = n from by omega]
      rw [ih f (by omega) (by omega)]
      rw [show dn (begN x l[t]) (n + 1) = dn (begN x l[t]) n from by rw [dn]; simp only [hb, Bool.false_eq_true, if_false]]

theorem specCom_loop {N : Nat} {R : Type} (p : List Int) (l : List (List Int)) (hl : l.length ≤ 400) (hx : ∀ x ∈ l, x.length ≤ 9223372036854775806 ∧ x.length < N) (x : List Int) (hx1 : x.length ≤ 9223372036854775806) (hx2 : x.length < N) (k : List Int × Unit → Option R) :
    ∀ (r i n fuel : Nat), (idxG p 0 l).length - i = r → i ≤ (idxG p 0 l).length → r < fuel → n ≤ x.length →
    loopP (spec_CompCommon.l8 N) fuel (l, (i : Int), idxG p 0 l, x.take n, ()) k = k (x.take (comN x ((matG p l).drop i) n), ()) := by
  have hm := idx_mat p l 0
  have hlen := idxG_len p l 0
  intro r
  induction r with
  | zero =>
    intro i n fuel hr hi hf hn
    obtain ⟨f, rfl⟩ := succ_of hf
    simp only [loopP_s, spec_CompCommon.l8, pLen_d]
    rw [pLt_f (by omega), ifB_f, List.drop_eq_nil_of_le (by have := hm.1; simp at this; omega), comN_nil]
  | succ r ih =>
    intro i n fuel hr hi hf hn
    obtain ⟨f, rfl⟩ := succ_of hf
    have hlt : i < (idxG p 0 l).length := by omega
    have hlt2 : i < (matG p l).length := by have := hm.1; simp at this; omega
    obtain ⟨t, h1, h2, h3⟩ := hm.2 i hlt
    have h1' : (idxG p 0 l)[i] = (t : Int) := by
      have h4 := h1
      simp only [Nat.zero_add] at h4
      exact h4
    have h5 : l[t] = (matG p l)[i] := by
      rw [List.getElem?_eq_getElem h2, List.getElem?_eq_getElem hlt2] at h3
      exact Option.some.inj h3
    have hc := hx _ (List.getElem_mem h2)
    simp only [loopP_s, spec_CompCommon.l8, pLen_d]
    rw [pLt_t (by omega), ifB_t, specCut_loop l (idxG p 0 l) i hlt t h2 h1' x hc hx1 _ n N hn (by omega)]
    simp only []
    rw [pAdd_i (by omega) (by omega), h5, drop_c hlt2, comN_cons]
    exact ih (i + 1) _ f (by omega) (by omega) (by omega) (Nat.le_trans (dn_le _ _) hn)

/-- the longest points with which all candidates that match begin -/
def comG (l : List (List Int)) (p : List Int) : List Int :=
  if (decide (l.length ≤ 400) && ptsG p) = false then [] else
  if candsG l = false then p else
  match matG p l with
  | [] => p
  | x :: f => x.take (comN x (x :: f) x.length)

theorem spec_CompCommon_eq (N : Nat) (l : List (List Int)) (p : List Int) (hN : 401 < N) (hp : p.length ≤ 68719476736) (hx : ∀ x ∈ l, x.length ≤ 1048576 ∧ x.length < N) : spec_CompCommon N l p = some (comG l p) := by
  have hx' : ∀ x ∈ l, x.length ≤ 9223372036854775806 ∧ x.length < N := fun x h => by have := hx x h; omega
  unfold spec_CompCommon comG
  simp only [pLen_d]
  rw [show (400 : Int) = ((400 : Nat) : Int) from rfl, gt_not, gt_not, ifB_or, bindO_s, spec_PointsRight_eq N p (by omega), bindO_s, ifB_or, bindO_s, pNot_d]
  have e : ((!decide (l.length ≤ 400) || !decide (p.length ≤ 400)) || !ptsG p) = !(decide (l.length ≤ 400) && ptsG p) := by
    unfold ptsG
    by_cases h : p.length ≤ 300
    · rw [decide_eq_true (show p.length ≤ 400 by omega)]
      cases decide (l.length ≤ 400) <;> cases (decide (p.length ≤ 300) && p.all ptG) <;> rfl
    · rw [decide_eq_false h]
      cases decide (l.length ≤ 400) <;> cases decide (p.length ≤ 400) <;> rfl
  rw [e]
  cases ha : (decide (l.length ≤ 400) && ptsG p) with
  | false => rw [Bool.not_false, ifB_t, if_pos rfl]
  | true =>
    rw [Bool.not_true, ifB_f, spec_CompMatch_eq N l p hN hx', bindO_s, if_neg (by simp)]
    have ha' := ha
    unfold ptsG at ha'
    simp only [Bool.and_eq_true, decide_eq_true_eq] at ha'
    have hl : l.length ≤ 400 := ha'.1
    have hpl : p.length ≤ 400 := by have := ha'.2.1; omega
    have hpt : ptsG p = true := by
      have hh := ha
      simp only [Bool.and_eq_true] at hh
      exact hh.2
    have hask : askG l p = candsG l := by
      unfold askG
      rw [decide_eq_true hl, decide_eq_true hpl, hpt]
      cases candsG l <;> rfl
    cases hcl : candsG l with
    | false =>
      have : matchG l p = [] := by unfold matchG; rw [hask, hcl]; rfl
      rw [this, pEq_t (by simp), ifB_t, copy_eq N p hp, bindO_s, if_pos rfl]
    | true =>
      have : matchG l p = idxG p 0 l := by unfold matchG; rw [hask, hcl]; rfl
      rw [this, if_neg (by simp)]
      have hm := idx_mat p l 0
      have hm1 : (idxG p 0 l).length = (matG p l).length := hm.1
      cases hf : matG p l with
      | nil =>
        rw [hf] at hm1
        rw [pEq_t (by rw [hm1]; rfl), ifB_t, copy_eq N p hp, bindO_s]
      | cons x f =>
        rw [hf, List.length_cons] at hm1
        have h0 : 0 < (idxG p 0 l).length := by omega
        obtain ⟨t, h1, h2, h3⟩ := hm.2 0 h0
        have h1' : (idxG p 0 l)[0] = (t : Int) := by
          have h4 := h1
          simp only [Nat.zero_add] at h4
          exact h4
        have h5 : l[t] = x := by
          rw [List.getElem?_eq_getElem h2, hf] at h3
          exact Option.some.inj h3
        have i0 : idx (idxG p 0 l) 0 = some (t : Int) := by
          have := idx_lt h0
          rw [h1'] at this
          exact this
        have hc := hx _ (List.getElem_mem h2)
        rw [h5] at hc
        rw [pEq_f (by omega), ifB_f, i0, bindO_s, bindO_s, idx_lt h2, bindO_s, h5, copy_eq N x (by omega), bindO_s]
        have := specCom_loop (N := N) p l hl hx' x (by omega) hc.2 (fun d => let x379 := d.1; some x379) _ 1 x.length N rfl (by omega) (by have := idxG_len p l 0; omega) (Nat.le_refl _)
        rw [List.take_length, hf] at this
        refine Eq.trans this ?_
        simp only [List.drop_succ_cons, List.drop_zero]
        rw [comN_cons]
        have hs : begN x x x.length = true := by
          unfold begN begG
          simp
        rw [dn_self _ _ hs]

theorem c1_eq (N : Nat) (c x : List Int) (f : List (List Int)) (n : Nat) (hn : n ≤ x.length) (hc : c.length ≤ 9223372036854775806 ∧ c.length < N) : impl_common_c1 N c (x :: f) (n : Int) = some (!begN x c n) := by
  unfold impl_common_c1
  have : idx (x :: f) 0 = some x := rfl
  rw [this, bindO_s, pLe_t (by omega), ifB_t, pLe_t (by omega), ifB_t, pLen_d, pLe_t (by omega), ifB_t, sub_take, impl_begins_eq N _ _ hc.1 hc.2, bindO_s]
  rfl

theorem comIdx_loop {N : Nat} (x : List Int) (f : List (List Int)) (n : Nat) (hn : n ≤ x.length) (cs : List (List Int)) (hcs : cs.length ≤ 400) (hx : ∀ c ∈ cs, c.length ≤ 9223372036854775806 ∧ c.length < N) :
    ∀ (m j fuel : Nat), cs.length - j = m → j ≤ cs.length → m < fuel →
    ∃ v : Int, loopP (slices_IndexFunc_S_Sint64__Sint64__impl_common_c1.l2 N) fuel (cs, x :: f, (n : Int), (cs.length : Int), (j : Int), ()) (onSum (fun _ => some (-1)) (fun d => let x55 := d.1; some x55)) = some v ∧ pGe v 0 = !((cs.drop j).all fun c => begN x c n) := by
  intro m
  induction m with
  | zero =>
    intro j fuel hm hj hf
    obtain ⟨g, rfl⟩ := succ_of hf
    refine ⟨-1, ?_, ?_⟩
    · simp only [loopP_s, slices_IndexFunc_S_Sint64__Sint64__impl_common_c1.l2]
      rw [pLt_f (by omega), ifB_f]
      rfl
    · rw [List.drop_eq_nil_of_le (by omega)]
      rfl
  | succ m ih =>
    intro j fuel hm hj hf
    obtain ⟨g, rfl⟩ := succ_of hf
    have hlt : j < cs.length := by omega
    have hc := hx _ (List.getElem_mem hlt)
    simp only [loopP_s, slices_IndexFunc_S_Sint64__Sint64__impl_common_c1.l2]
    rw [pLt_t (by omega), ifB_t, idx_lt hlt, bindO_s, c1_eq N _ x f n hn hc, bindO_s, drop_c hlt, List.all_cons]
    cases hb : begN x cs[j] n with
    | false =>
      refine ⟨(j : Int), ?_, ?_⟩
      · rw [Bool.not_false, ifB_t]; rfl
      · rw [pGe_t (by omega)]; rfl
    | true =>
      rw [Bool.not_true, ifB_f, pAdd_i (by omega) (by omega), Bool.true_and]
      exact ih (j + 1) g (by omega) (by omega) (by omega)

theorem comAny_eq (N : Nat) (x : List Int) (f : List (List Int)) (n : Nat) (hn : n ≤ x.length) (hN : 401 < N) (hcs : (x :: f).length ≤ 400) (hx : ∀ c ∈ x :: f, c.length ≤ 9223372036854775806 ∧ c.length < N) :
    slices_ContainsFunc_S_Sint64__Sint64__impl_common_c1 N (x :: f) (x :: f) (n : Int) = some (!((x :: f).all fun c => begN x c n)) := by
  unfold slices_ContainsFunc_S_Sint64__Sint64__impl_common_c1 slices_IndexFunc_S_Sint64__Sint64__impl_common_c1
  obtain ⟨v, h1, h2⟩ := comIdx_loop (N := N) x f n hn (x :: f) hcs hx _ 0 N rfl (by omega) (by omega)
  rw [pLen_d]
  refine Eq.trans (congrArg (fun m => bindO m fun y1 => some (pGe y1 0)) h1) ?_
  rw [bindO_s, h2, List.drop_zero]

theorem implCut_loop {N : Nat} {R : Type} (x : List Int) (f : List (List Int)) (hx1 : x.length ≤ 9223372036854775806) (hN : 401 < N) (hcs : (x :: f).length ≤ 400) (hx : ∀ c ∈ x :: f, c.length ≤ 9223372036854775806 ∧ c.length < N) (k : List (List Int) × Int × Unit → Option R) :
    ∀ (n fuel : Nat), n ≤ x.length → n < fuel →
    loopP (impl_common.l5 N) fuel (x :: f, (n : Int), ()) k = k (x :: f, (comN x (x :: f) n : Nat), ()) := by
  intro n
  induction n with
  | zero =>
    intro fuel hn hf
    obtain ⟨g, rfl⟩ := succ_of hf
    simp only [loopP_s, impl_common.l5]
    rw [comAny_eq N x f 0 hn hN hcs hx, bindO_s]
    have : ((x :: f).all fun c => begN x c 0) = true := by
      rw [List.all_eq_true]; intro c _; exact begN_0 x c
    rw [this, Bool.not_true, ifB_f]
    rfl
  | succ n ih =>
    intro fuel hn hf
    obtain ⟨g, rfl⟩ := succ_of hf
    simp only [loopP_s, impl_common.l5]
    rw [comAny_eq N x f (n + 1) hn hN hcs hx, bindO_s]
    cases hb : ((x :: f).all fun c => begN x c (n + 1)) with
    | true =>
      rw [Bool.not_true, ifB_f, show comN x (x :: f) (n + 1) = n + 1 from dn_self _ _ hb]
    | false =>
      rw [Bool.not_false, ifB_t, pSub_i (by omega) (by omega), show ((n + 1 : Nat) : Int) - 1 = (n : Int) from by omega, ih g (by omega) (by omega)]
      rw [show comN x (x :: f) (n + 1) = comN x (x :: f) n from by unfold comN; rw [dn]; simp only [hb, Bool.false_eq_true, if_false]]

theorem impl_common_eq (N : Nat) (l : List (List Int)) (p : List Int) (hl : l.length ≤ 400) (hN : 401 < N) (hx : ∀ x ∈ l, x.length ≤ 9223372036854775806 ∧ x.length < N) :
    impl_common N l p = some (match matG p l with | [] => p | x :: f => x.take (comN x (x :: f) x.length)) := by
  have hmm : impl_matches N l p = some (matG p l, idxG p 0 l) := by
    unfold impl_matches
    have := implMatch_loop (N := N) l p hl hx (fun d => let x110 := d.1; let x111 := d.2.1; some (x110, x111)) _ 0 N [] [] rfl (by omega) (by omega) (by simp) (by simp)
    rw [List.drop_zero, List.nil_append, List.nil_append] at this
    rw [pLen_d]
    exact this
  unfold impl_common
  rw [hmm, bindO_s]
  have hsub : (matG p l).length ≤ l.length := List.length_filter_le _ _
  have hmem : ∀ c ∈ matG p l, c.length ≤ 9223372036854775806 ∧ c.length < N := fun c hc => hx c (List.mem_filter.1 hc).1
  simp only [pLen_d]
  cases hf : matG p l with
  | nil => rfl
  | cons x f =>
    rw [hf] at hsub hmem
    have i0 : idx (x :: f) 0 = some x := rfl
    have hxx := hmem x (by simp)
    rw [pEq_f (by simp; omega), ifB_f, i0, bindO_s, bindO_s, implCut_loop x f hxx.1 hN (by omega) hmem _ x.length N (Nat.le_refl _) hxx.2]
    simp only []
    have hle : comN x (x :: f) x.length ≤ x.length := dn_le _ _
    rw [i0, bindO_s, bindO_s, pLe_t (by omega), ifB_t, pLe_t (by omega), ifB_t, pLe_t (by omega), ifB_t, sub_take]

end Go.AE.F
namespace Go.AE.F
open Go.AE
abbrev BufT := List Int × Int × Int × Unit

/-- a right buffer -/
def bufG (b : BufT) : Bool := ptsG b.1 && decide (0 ≤ b.2.1) && decide (b.2.1 ≤ b.1.length) && decide (0 ≤ b.2.2.1) && decide (b.2.2.1 ≤ b.1.length)

theorem bufG_iff {b : BufT} : bufG b = true ↔ ptsG b.1 = true ∧ 0 ≤ b.2.1 ∧ b.2.1 ≤ b.1.length ∧ 0 ≤ b.2.2.1 ∧ b.2.2.1 ≤ b.1.length := by
  unfold bufG
  simp only [Bool.and_eq_true, decide_eq_true_eq, and_assoc]

theorem ptsG_len {l : List Int} (h : ptsG l = true) : l.length ≤ 300 := by
  unfold ptsG at h
  simp only [Bool.and_eq_true, decide_eq_true_eq] at h
  exact h.1

theorem spec_BufRight_eq (N : Nat) (b : BufT) (hN : 301 < N) : spec_BufRight N b = some (bufG b) := by
  unfold spec_BufRight bufG
  rw [spec_PointsRight_eq N b.1 hN]
  simp only [bindO_s, ifB_and, pGe_d, pLe_d, pLen_d, ge_iff_le]

theorem impl_size_eq (N : Nat) (l : List Int) (h : l.length ≤ 9223372036854775807) : impl_size_Sint64 N l = some (l.length : Int) := by
  unfold impl_size_Sint64
  rw [pLen_d]
  first | done | rfl | (simp only [pConv]; rw [wrap_i64 (by omega) (by omega)])

theorem impl_BufRight_eq (N : Nat) (b : BufT) (hl : b.1.length < N) (hb : b.1.length ≤ 9223372036854775806) : impl_BufRight N b = some (bufG b) := by
  unfold impl_BufRight impl_Buf_isPlace bufG
  rw [impl_PointsRight_eq N b.1 hl hb]
  simp only [impl_size_eq N b.1 (by omega), impl_within_eq, bindO_s, ifB_and, Bool.and_assoc]

theorem szBuf_eq (N : Nat) (b : BufT) (a : Int) (h0 : 0 ≤ a) (ha : a ≤ 9223372036854775807) (hl : b.1.length ≤ 9223372036854775807) :
    laws_szBuf N b a = some (if a - b.1.length < 0 then -1 else a - b.1.length) := by
  unfold laws_szBuf
  rw [szInt64S_eq N b.1 a h0 ha hl, bindO_s]
  by_cases h : a - (b.1.length : Int) < 0
  · rw [if_pos h, pLt_t (by omega), ifB_t]
  · rw [if_neg h, pLt_f (by omega), ifB_f]

theorem toBuf_eq (N : Nat) (b : BufT) (hl : b.1.length ≤ 68719476736) (hN : b.1.length < N) : laws_toBuf N b = some b := by
  unfold laws_toBuf
  rw [toInt64S_eq N b.1 hl hN]
  rfl

theorem eqInt64S_self (N : Nat) (l : List Int) (hl : l.length ≤ 9223372036854775806) (hN : l.length < N) : laws_eqInt64S N l l = some true := by
  rw [eqInt64S_eq N l l hl hN, decide_eq_true rfl]

theorem eqBuf_self (N : Nat) (b : BufT) (hl : b.1.length ≤ 9223372036854775806) (hN : b.1.length < N) : laws_eqBuf N b b = some true := by
  unfold laws_eqBuf
  rw [eqInt64S_eq N b.1 b.1 hl hN, bindO_s, pNot_same, ifB_f, pNe_f rfl, ifB_f, pNe_f rfl, ifB_f]

theorem markBuf_eq (N : Nat) (b : BufT) (k : Int) (hk : 0 ≤ k) (hL : k + b.1.length ≤ 4611686018427387904) (hN : b.1.length < N) : laws_markBuf N b k = some (k + b.1.length, (cnt k b.1.length, b.2)) := by
  unfold laws_markBuf
  rw [markInt64S_eq N b.1 k hk hL hN]
  rfl

end Go.AE.F
namespace Go.AE.F
open Go.AE
/-- where the word that ends at n begins -/
def wordAt (ps : List Int) : Nat → Nat
  | 0 => 0
  | n + 1 => match ps[n]? with
    | some p => if classG p = 2 then wordAt ps n else n + 1
    | none => n + 1

theorem wordAt_le (ps : List Int) : ∀ n, wordAt ps n ≤ n
  | 0 => Nat.le_refl _
  | n + 1 => by
    unfold wordAt
    split
    · split
      · have := wordAt_le ps n; omega
      · omega
    · omega

theorem specWord_loop {N : Nat} {R : Type} (b : BufT) (hb : b.1.length ≤ 300) (k : Int × Unit → Option R) : ∀ (n m : Nat), n ≤ b.1.length → n < m →
    loopP (spec_l15Word.l2 N) m ((n : Int), b, ()) k = k ((wordAt b.1 n : Int), ()) := by
  intro n
  induction n with
  | zero =>
    intro m hn hm
    obtain ⟨m, rfl⟩ := succ_of hm
    simp only [loopP_s, spec_l15Word.l2]
    rw [pGt_f (by omega), ifB_f, bindO_s, ifB_f]
    rfl
  | succ n ih =>
    intro m hn hm
    obtain ⟨m, rfl⟩ := succ_of hm
    have hlt : n < b.1.length := by omega
    simp only [loopP_s, spec_l15Word.l2]
    rw [pGt_t (by omega), ifB_t, pSub_i (by omega) (by omega), show ((n + 1 : Nat) : Int) - 1 = (n : Int) by omega, idx_lt hlt, bindO_s, spec_ClassOf_eq, bindO_s, bindO_s]
    unfold wordAt
    rw [List.getElem?_eq_getElem hlt]
    simp only
    by_cases h : classG b.1[n] = 2
    · rw [pEq_t h, ifB_t, if_pos h, ih m (by omega) (by omega)]
    · rw [pEq_f h, ifB_f, if_neg h]

theorem implWord_loop {N : Nat} {R : Type} (b : BufT) (hb : b.1.length ≤ 300) (k : BufT × Int × Unit → Option R) : ∀ (n m : Nat), n ≤ b.1.length → n < m →
    loopP (impl_Buf_ahead.l2 N) m (b, (n : Int), ()) k = k (b, (wordAt b.1 n : Int), ()) := by
  intro n
  induction n with
  | zero =>
    intro m hn hm
    obtain ⟨m, rfl⟩ := succ_of hm
    simp only [loopP_s, impl_Buf_ahead.l2]
    rw [pGt_f (by omega), ifB_f, bindO_s, ifB_f]
    rfl
  | succ n ih =>
    intro m hn hm
    obtain ⟨m, rfl⟩ := succ_of hm
    have hlt : n < b.1.length := by omega
    simp only [loopP_s, impl_Buf_ahead.l2]
    rw [pGt_t (by omega), ifB_t, pSub_i (by omega) (by omega), show ((n + 1 : Nat) : Int) - 1 = (n : Int) by omega]
    unfold impl_Buf_isWord
    rw [idx_lt hlt, bindO_s, impl_ClassOf_eq, bindO_s, bindO_s, bindO_s]
    unfold wordAt
    rw [List.getElem?_eq_getElem hlt]
    simp only
    by_cases h : classG b.1[n] = 2
    · rw [pEq_t h, ifB_t, if_pos h, ih m (by omega) (by omega)]
    · rw [pEq_f h, ifB_f, if_neg h]

/-- the word ahead of a right buffer's cursor -/
def aheadG (b : BufT) : List Int := sub b.1 (wordAt b.1 b.2.1.toNat : Int) b.2.1
def wordG (b : BufT) : List Int := if bufG b = true then aheadG b else []

theorem impl_ahead_eq (N : Nat) (b : BufT) (h : bufG b = true) (hN : 301 < N) : impl_Buf_ahead N b = some (aheadG b) := by
  obtain ⟨h1, h2, h3, h4, h5⟩ := bufG_iff.1 h
  have hl := ptsG_len h1
  unfold impl_Buf_ahead
  have hc : ((b.2.1.toNat : Nat) : Int) = b.2.1 := by omega
  have := implWord_loop (N := N) (R := List Int) b hl (fun d =>
    let x54 := d.1;
    let x55 := d.2.1;
    ifB (pLe 0 x55) (ifB (pLe x55 x54.2.1) (ifB (pLe x54.2.1 (pLen x54.1)) (some (sub x54.1 x55 x54.2.1)) none) none) none) b.2.1.toNat N (by omega) (by omega)
  rw [hc] at this
  refine Eq.trans this ?_
  have hw := wordAt_le b.1 b.2.1.toNat
  simp only [pLen_d]
  rw [pLe_t (by omega), ifB_t, pLe_t (by omega), ifB_t, pLe_t (by omega), ifB_t]
  rfl

theorem aheadG_len (b : BufT) : (aheadG b).length ≤ b.1.length := by
  unfold aheadG sub
  simp only [List.length_drop, List.length_take]
  omega

theorem spec_WordAhead_eq (N : Nat) (b : BufT) (hb : b.1.length ≤ 68719476736) (hN : 301 < N) : spec_WordAhead N b = some (wordG b) := by
  unfold spec_WordAhead wordG
  rw [spec_BufRight_eq N b hN, bindO_s, pNot_d]
  cases h : bufG b with
  | false => rfl
  | true =>
    obtain ⟨h1, h2, h3, h4, h5⟩ := bufG_iff.1 h
    have hl := ptsG_len h1
    have hc : ((b.2.1.toNat : Nat) : Int) = b.2.1 := by omega
    have hw := wordAt_le b.1 b.2.1.toNat
    have e : spec_l15Word N b = some (wordAt b.1 b.2.1.toNat : Int) := by
      unfold spec_l15Word
      have := specWord_loop (N := N) (R := Int) b hl (fun d => let x63 := d.1; some x63) b.2.1.toNat N (by omega) (by omega)
      rw [hc] at this
      exact this
    have ha := aheadG_len b
    rw [e, bindO_s, pLen_d, pLe_t (by omega), pLe_t (by omega), pLe_t (by omega)]
    simp only [Bool.not_true, ifB_f, ifB_t, if_true]
    have : spec_l01Copy N (sub b.1 (wordAt b.1 b.2.1.toNat : Int) b.2.1) = some (aheadG b) := copy_eq N _ (by unfold aheadG at ha; omega)
    rw [this]
    rfl

end Go.AE.F
namespace Go.AE.F
open Go.AE
set_option maxRecDepth 100000
theorem dn_max (p : Nat → Bool) (m : Nat) (hm : p m = true) : ∀ n, m ≤ n → m ≤ dn p n
  | 0, h => h
  | n + 1, h => by
    unfold dn
    split
    · exact h
    · rename_i q
      by_cases e : m = n + 1
      · rw [e] at hm; exact absurd hm q
      · exact dn_max p m hm n (by omega)

/-- the points with which all that match begin -/
def comM (l : List (List Int)) (p : List Int) : List Int := match matG p l with | [] => p | x :: f => x.take (comN x (x :: f) x.length)

theorem com_pre (l : List (List Int)) (p : List Int) : begG (comM l p) p = true := by
  unfold comM
  cases hf : matG p l with
  | nil => unfold begG; simp
  | cons y f =>
    show begG (y.take (comN y (y :: f) y.length)) p = true
    have hall : ∀ c ∈ y :: f, begG c p = true := fun c hc => by rw [← hf] at hc; exact (List.mem_filter.1 hc).2
    have hy := hall y (by simp)
    unfold begG at hy
    simp only [Bool.and_eq_true, decide_eq_true_eq] at hy
    have hm : ((y :: f).all fun c => begN y c p.length) = true := List.all_eq_true.2 fun c hc => by
      unfold begN
      rw [hy.2]
      exact hall c hc
    have := dn_max (fun i => (y :: f).all fun c => begN y c i) p.length hm y.length hy.1
    have h2 : p.length ≤ comN y (y :: f) y.length := this
    unfold begG
    rw [List.take_take, Nat.min_eq_left h2, hy.2, List.length_take, decide_eq_true rfl, decide_eq_true (by omega)]
    rfl

end Go.AE.F
namespace Go.AE.F
open Go.AE
abbrev OutT := BufT × List Int × Int × Unit

/-- where a place stands after points from a up to b have been replaced by d more -/
def mvG (p a b d : Int) : Int := if p ≤ a then p else if p < b then a else p + d
def failG (c : Int) : OutT := (([], (0, (0, ()))), ([], (c, ())))
/-- what replacing comes to -/
def replG (b : BufT) (i j : Int) (ps : List Int) : OutT :=
  if i < 0 ∨ j < i ∨ (b.1.length : Int) < j then failG 8 else
  if 300 < (b.1.length : Int) - (j - i) + ps.length then failG 5 else
  ((sub b.1 0 i ++ ps ++ sub b.1 j b.1.length, ((if i = j ∧ b.2.1 = i then i + ps.length else mvG b.2.1 i j (ps.length - (j - i))), (mvG b.2.2.1 i j (ps.length - (j - i)), ()))), (sub b.1 i j, (0, ())))

theorem spec_moved_eq (N : Nat) (p a b d : Int) (h1 : -4611686018427387904 ≤ p + d) (h2 : p + d ≤ 4611686018427387904) : spec_l02Moved N p a b d = some (mvG p a b d) := by
  unfold spec_l02Moved mvG
  by_cases e1 : p ≤ a
  · rw [pLe_t e1, ifB_t, if_pos e1]
  · rw [pLe_f (by omega), ifB_f, if_neg e1]
    by_cases e2 : p < b
    · rw [pLt_t e2, ifB_t, if_pos e2]
    · rw [pLt_f (by omega), ifB_f, if_neg e2, pAdd_i (by omega) (by omega)]

theorem impl_moved_eq (N : Nat) (p a b d : Int) (h1 : -4611686018427387904 ≤ p + d) (h2 : p + d ≤ 4611686018427387904) : impl_replace_c1 N p a b d = some (mvG p a b d) := by
  unfold impl_replace_c1 mvG
  by_cases e1 : p ≤ a
  · rw [pLe_t e1, ifB_t, if_pos e1]
  · rw [pLe_f (by omega), ifB_f, if_neg e1]
    by_cases e2 : p < b
    · rw [pLt_t e2, ifB_t, if_pos e2]
    · rw [pLt_f (by omega), ifB_f, if_neg e2, pAdd_i (by omega) (by omega)]

theorem sub_len {A : Type} (x : List A) (i j : Int) (h0 : 0 ≤ i) (h1 : i ≤ j) (h2 : j ≤ x.length) : ((sub x i j).length : Int) = j - i := by
  unfold sub
  simp only [List.length_drop, List.length_take]
  omega

theorem grow_eq (N : Nat) (n : Int) (h0 : 0 ≤ n) (h1 : n ≤ 68719476736) : slices_Grow_Sint64_int64 N [] n = some [] := by
  unfold slices_Grow_Sint64_int64
  simp only [pLen_d, List.length_nil]
  rw [pLt_f (by omega), ifB_f]
  have e : pSub .i64 n (pSub .i64 0 ((0 : Nat) : Int)) = n := by
    rw [pSub_i (a := 0) (by omega) (by omega), pSub_i (by omega) (by omega)]; omega
  rw [e]
  by_cases h : n > 0
  · rw [pGt_t h, ifB_t, pEq_t rfl, ifB_t, ifB_t, pLe_t h0, ifB_t, pLe_t h1, ifB_t, pLe_t (Int.le_refl _), ifB_t, pLe_t (by omega), ifB_t, pLe_t (by omega), ifB_t]
    rfl
  · rw [pGt_f (by omega), ifB_f]

theorem concat3_eq (N : Nat) (x y z : List Int) (h : x.length + y.length + z.length ≤ 100000) (hN : 4 ≤ N) : slices_Concat_Sint64_int64 N [x, y, z] = some (x ++ y ++ z) := by
  obtain ⟨M, rfl⟩ : ∃ M, N = M + 4 := ⟨N - 4, by omega⟩
  unfold slices_Concat_Sint64_int64
  have i0 : idx [x, y, z] 0 = some x := rfl
  have i1 : idx [x, y, z] (0 + 1) = some y := rfl
  have i2 : idx [x, y, z] (0 + 1 + 1) = some z := rfl
  have l3 : pLen [x, y, z] = 3 := rfl
  simp only [loopP_s, slices_Concat_Sint64_int64.l3, slices_Concat_Sint64_int64.l11, l3]
  have a1 : pAdd .i64 0 (1 : Int) = 0 + 1 := rfl
  have a2 : pAdd .i64 (0 + 1) (1 : Int) = 0 + 1 + 1 := rfl
  have a3 : pAdd .i64 (0 + 1 + 1) (1 : Int) = 3 := rfl
  have b1 : pLt 0 3 = true := rfl
  have b2 : pLt (0 + 1) 3 = true := rfl
  have b3 : pLt (0 + 1 + 1) 3 = true := rfl
  have b4 : pLt 3 3 = false := rfl
  have s1 : pAdd .i64 0 (pLen x) = x.length := by rw [pLen_d, pAdd_i (by omega) (by omega)]; omega
  have s2 : pAdd .i64 (x.length : Int) (pLen y) = x.length + y.length := by rw [pLen_d, pAdd_i (by omega) (by omega)]
  have s3 : pAdd .i64 ((x.length : Int) + y.length) (pLen z) = x.length + y.length + z.length := by rw [pLen_d, pAdd_i (by omega) (by omega)]
  have p1 : pLt (x.length : Int) 0 = false := pLt_f (by omega)
  have p2 : pLt ((x.length : Int) + y.length) 0 = false := pLt_f (by omega)
  have p3 : pLt ((x.length : Int) + y.length + z.length) 0 = false := pLt_f (by omega)
  have g : slices_Grow_Sint64_int64 (M + 4) [] ((x.length : Int) + y.length + z.length) = some [] := grow_eq _ _ (by omega) (by omega)
  have f1 : pFit ([] : List Int) x = true := pFit_t (by simp; omega)
  have f2 : pFit (pApp [] x) y = true := pFit_t (by simp [pApp]; omega)
  have f3 : pFit (pApp (pApp [] x) y) z = true := pFit_t (by simp [pApp]; omega)
  simp only [b1, ifB_t, i0, bindO_s, s1, p1, ifB_f, a1, b2, i1, s2, p2, a2, b3, i2, s3, p3, a3, b4, g, f1, f2, f3]
  rfl

/-- replacing, as the program does it -/
theorem impl_replace_eq (N : Nat) (b : BufT) (i j : Int) (ps : List Int) (hb : bufG b = true) (hp : ps.length ≤ 4000) (hi : -4611686018427387904 ≤ i ∧ i ≤ 4611686018427387904) (hj : -4611686018427387904 ≤ j ∧ j ≤ 4611686018427387904) (hN : 4 ≤ N) :
    impl_replace N b i j ps = some (replG b i j ps) := by
  obtain ⟨h1, h2, h3, h4, h5⟩ := bufG_iff.1 hb
  have hl := ptsG_len h1
  unfold impl_replace replG
  rw [impl_size_eq N b.1 (by omega), impl_size_eq N ps (by omega)]
  simp only [bindO_s]
  by_cases e1 : i < 0
  · rw [pLt_t e1, ifB_t, if_pos (Or.inl e1)]; rfl
  rw [pLt_f (by omega), ifB_f]
  by_cases e2 : j < i
  · rw [pGt_t e2, ifB_t, if_pos (Or.inr (Or.inl e2))]; rfl
  rw [pGt_f (by omega), ifB_f]
  by_cases e3 : (b.1.length : Int) < j
  · rw [pGt_t e3, ifB_t, if_pos (Or.inr (Or.inr e3))]; rfl
  rw [pGt_f (by omega), ifB_f, if_neg (by omega)]
  have d1 : pSub .i64 j i = j - i := pSub_i (by omega) (by omega)
  have d2 : pSub .i64 (ps.length : Int) (j - i) = ps.length - (j - i) := pSub_i (by omega) (by omega)
  have d3 : pAdd .i64 (b.1.length : Int) (ps.length - (j - i)) = b.1.length + (ps.length - (j - i)) := pAdd_i (by omega) (by omega)
  rw [d1, d2, d3]
  by_cases e4 : 300 < (b.1.length : Int) - (j - i) + ps.length
  · rw [pGt_t (by omega), ifB_t, if_pos e4]; rfl
  rw [pGt_f (by omega), ifB_f, if_neg e4]
  simp only [pLen_d]
  have l1 := sub_len b.1 0 i (by omega) (by omega) (by omega)
  have l2 := sub_len b.1 j b.1.length (by omega) (by omega) (by omega)
  have l3 := sub_len b.1 i j (by omega) (by omega) (by omega)
  have q1 : pLe 0 0 = true := rfl
  have q2 : pLe 0 i = true := pLe_t (by omega)
  have q3 : pLe i (b.1.length : Int) = true := pLe_t (by omega)
  have q4 : pLe 0 j = true := pLe_t (by omega)
  have q5 : pLe j (b.1.length : Int) = true := pLe_t (by omega)
  have q6 : pLe (b.1.length : Int) (b.1.length : Int) = true := pLe_t (Int.le_refl _)
  have q7 : pLe i j = true := pLe_t (by omega)
  have c := concat3_eq N (sub b.1 0 i) ps (sub b.1 j b.1.length) (by omega) hN
  have k := clone_eq N (sub b.1 i j) (by omega)
  have m1 := impl_moved_eq N b.2.1 i j (ps.length - (j - i)) (by omega) (by omega)
  have m2 := impl_moved_eq N b.2.2.1 i j (ps.length - (j - i)) (by omega) (by omega)
  have a1 : pAdd .i64 i (ps.length : Int) = i + ps.length := pAdd_i (by omega) (by omega)
  simp only [q1, q2, q3, q4, q5, q6, q7, ifB_t, c, k, m1, m2, bindO_s, a1]
  by_cases e5 : i = j
  · by_cases e6 : b.2.1 = i
    · rw [pEq_t e5, ifB_t, bindO_s, pEq_t e6, ifB_t, if_pos ⟨e5, e6⟩]
    · rw [pEq_t e5, ifB_t, bindO_s, pEq_f e6, ifB_f, if_neg (fun h => e6 h.2)]
  · rw [pEq_f e5, ifB_f, bindO_s, ifB_f, if_neg (fun h => e5 h.1)]

/-- replacing, as the reference tells it -/
theorem spec_Replace_eq (N : Nat) (b : BufT) (i j : Int) (ps : List Int) (hb : bufG b = true) (hp : ptsG ps = true) (hi : -4611686018427387904 ≤ i ∧ i ≤ 4611686018427387904) (hj : -4611686018427387904 ≤ j ∧ j ≤ 4611686018427387904) (hN : 301 < N) :
    spec_BufReplace N b i j ps = some (replG b i j ps) := by
  obtain ⟨h1, h2, h3, h4, h5⟩ := bufG_iff.1 hb
  have hl := ptsG_len h1
  have hpl := ptsG_len hp
  unfold spec_BufReplace replG
  rw [spec_BufRight_eq N b hN, spec_PointsRight_eq N ps hN, hb, hp]
  have n1 : pNot true = false := rfl
  have g1 : pGt (ps.length : Int) 400 = false := pGt_f (by omega)
  simp only [pLen_d, bindO_s, n1, ifB_f, g1]
  by_cases e1 : i < 0
  · rw [pLt_t e1, ifB_t, bindO_s, ifB_t, bindO_s, ifB_t, if_pos (Or.inl e1)]; rfl
  rw [pLt_f (by omega), ifB_f, bindO_s]
  by_cases e2 : j < i
  · rw [pGt_t e2, ifB_t, bindO_s, ifB_t, if_pos (Or.inr (Or.inl e2))]; rfl
  rw [pGt_f (by omega), ifB_f, bindO_s]
  by_cases e3 : (b.1.length : Int) < j
  · rw [pGt_t e3, ifB_t, if_pos (Or.inr (Or.inr e3))]; rfl
  rw [pGt_f (a := j) (by omega), ifB_f, if_neg (by omega)]
  have d1 : pSub .i64 j i = j - i := pSub_i (by omega) (by omega)
  have d2 : pSub .i64 (ps.length : Int) (j - i) = ps.length - (j - i) := pSub_i (by omega) (by omega)
  have d3 : pSub .i64 (b.1.length : Int) (j - i) = b.1.length - (j - i) := pSub_i (by omega) (by omega)
  have d4 : pAdd .i64 ((b.1.length : Int) - (j - i)) ps.length = b.1.length - (j - i) + ps.length := pAdd_i (by omega) (by omega)
  rw [d1, d2, d3, d4]
  by_cases e4 : 300 < (b.1.length : Int) - (j - i) + ps.length
  · rw [pGt_t (by omega), ifB_t, if_pos e4]; rfl
  rw [pGt_f (by omega), ifB_f, if_neg e4]
  have l1 := sub_len b.1 0 i (by omega) (by omega) (by omega)
  have l2 := sub_len b.1 j b.1.length (by omega) (by omega) (by omega)
  have l3 := sub_len b.1 i j (by omega) (by omega) (by omega)
  have q1 : pLe 0 0 = true := rfl
  have q2 : pLe 0 i = true := pLe_t (by omega)
  have q3 : pLe i (b.1.length : Int) = true := pLe_t (by omega)
  have q4 : pLe 0 j = true := pLe_t (by omega)
  have q5 : pLe j (b.1.length : Int) = true := pLe_t (by omega)
  have q6 : pLe (b.1.length : Int) (b.1.length : Int) = true := pLe_t (Int.le_refl _)
  have q7 : pLe i j = true := pLe_t (by omega)
  have c := copy_eq N (sub b.1 0 i) (by omega)
  have k := copy_eq N (sub b.1 i j) (by omega)
  have m1 := spec_moved_eq N b.2.1 i j (ps.length - (j - i)) (by omega) (by omega)
  have m2 := spec_moved_eq N b.2.2.1 i j (ps.length - (j - i)) (by omega) (by omega)
  have a1 : pAdd .i64 i (ps.length : Int) = i + ps.length := pAdd_i (by omega) (by omega)
  have f1 : pFit (sub b.1 0 i) ps = true := pFit_t (by omega)
  have f2 : pFit (pApp (sub b.1 0 i) ps) (sub b.1 j b.1.length) = true := pFit_t (by simp only [pApp, List.length_append]; omega)
  simp only [q1, q2, q3, q4, q5, q6, q7, ifB_t, c, k, m1, m2, bindO_s, a1, f1, f2]
  by_cases e5 : i = j
  · by_cases e6 : b.2.1 = i
    · rw [pEq_t e5, ifB_t, bindO_s, pEq_t e6, ifB_t, if_pos ⟨e5, e6⟩]; rfl
    · rw [pEq_t e5, ifB_t, bindO_s, pEq_f e6, ifB_f, if_neg (fun h => e6 h.2)]; rfl
  · rw [pEq_f e5, ifB_f, bindO_s, ifB_f, if_neg (fun h => e5 h.1)]; rfl

theorem replG_len (b : BufT) (i j : Int) (ps : List Int) (hb : b.1.length ≤ 1000) : (replG b i j ps).1.1.length ≤ 300 ∧ (replG b i j ps).2.1.length ≤ 1000 := by
  unfold replG
  split
  · exact ⟨by simp [failG], by simp [failG]⟩
  · split
    · exact ⟨by simp [failG], by simp [failG]⟩
    · rename_i h1 h2
      have l1 := sub_len b.1 0 i (by omega) (by omega) (by omega)
      have l2 := sub_len b.1 j b.1.length (by omega) (by omega) (by omega)
      have l3 := sub_len b.1 i j (by omega) (by omega) (by omega)
      exact ⟨by simp only [List.length_append]; omega, by show (sub b.1 i j).length ≤ 1000; omega⟩

theorem eqBufOut_self (N : Nat) (o : OutT) (h1 : o.1.1.length ≤ 1000) (h2 : o.2.1.length ≤ 1000) (hN : 1001 < N) : laws_eqBufOut N o o = some true := by
  unfold laws_eqBufOut
  have e1 : pNot true = false := rfl
  rw [eqBuf_self N o.1 (by omega) (by omega), bindO_s, e1, ifB_f, eqInt64S_self N _ (by omega) (by omega), bindO_s, e1, ifB_f, pNe_f rfl, ifB_f]

theorem markBufOut_eq (N : Nat) (o : OutT) (h1 : o.1.1.length ≤ 1000) (h2 : o.2.1.length ≤ 1000) (hN : 1001 < N) : laws_markBufOut N o 1 = some ((1 : Int) + o.1.1.length + o.2.1.length, ((cnt 1 o.1.1.length, o.1.2), (cnt (1 + o.1.1.length) o.2.1.length, o.2.2))) := by
  unfold laws_markBufOut
  rw [markBuf_eq N o.1 1 (by omega) (by omega) (by omega), bindO_s, markInt64S_eq N o.2.1 _ (by omega) (by omega) (by omega), bindO_s]

theorem heldBuf_eq (N : Nat) (n : Nat) (k : Int) (r : Int × Int × Unit) (hk : 0 ≤ k) (h1 : k + n ≤ 4611686018427387904) (hN : n < N) : laws_heldBuf N (cnt k n, r) k = some (k + n) := by
  unfold laws_heldBuf
  rw [heldInt64S_eq N n k hk h1 hN, bindO_s, pLt_f (by omega), ifB_f]

theorem heldBufOut_eq (N : Nat) (n m : Nat) (r : Int × Int × Unit) (q : Int × Unit) (h1 : n ≤ 1000) (h2 : m ≤ 1000) (hN : 1001 < N) : laws_heldBufOut N ((cnt 1 n, r), (cnt (1 + n) m, q)) 1 = some ((1 : Int) + n + m) := by
  unfold laws_heldBufOut
  rw [heldBuf_eq N n 1 r (by omega) (by omega) (by omega), bindO_s, pLt_f (by omega), ifB_f, heldInt64S_eq N m _ (by omega) (by omega) (by omega), bindO_s, pLt_f (by omega), ifB_f]

theorem class2 {a : Int} (h : classG a = 2) : ptG a = true := by
  cases hp : ptG a with
  | true => rfl
  | false => unfold classG at h; rw [hp] at h; simp at h

theorem cand_pts {x : List Int} (h : candG x = true) : ptsG x = true ∧ x.length ≤ 40 := by
  unfold candG at h
  simp only [Bool.and_eq_true, decide_eq_true_eq, List.all_eq_true] at h
  refine ⟨?_, h.1.2⟩
  unfold ptsG
  simp only [Bool.and_eq_true, decide_eq_true_eq, List.all_eq_true]
  exact ⟨by omega, fun a ha => class2 (h.2 a ha)⟩

theorem ptsG_sub {x y : List Int} (h : ptsG x = true) (hs : y.Sublist x) : ptsG y = true := by
  unfold ptsG at h ⊢
  simp only [Bool.and_eq_true, decide_eq_true_eq, List.all_eq_true] at h ⊢
  exact ⟨Nat.le_trans hs.length_le h.1, fun a ha => h.2 a (hs.subset ha)⟩

theorem sub_sublist {A : Type} (x : List A) (i j : Int) : (sub x i j).Sublist x := by
  unfold sub
  exact (List.drop_sublist _ _).trans (List.take_sublist _ _)

theorem ahead_pts {b : BufT} (h : bufG b = true) : ptsG (aheadG b) = true := ptsG_sub (bufG_iff.1 h).1 (sub_sublist _ _ _)

/-- the points that completing a word types -/
def putG (l : List (List Int)) (w : List Int) : List Int := (comM l w).drop w.length ++ if (matG w l).length = 1 then [32] else []
/-- what completing the word ahead comes to -/
def compPutG (b : BufT) (l : List (List Int)) : OutT :=
  if (decide (l.length ≤ 400)) = false then failG 2 else
  if (bufG b && candsG l) = false then failG 1 else
  if (matG (aheadG b) l).length = 0 then failG 4 else
  replG b b.2.1 b.2.1 (putG l (aheadG b))

theorem mat_facts {l : List (List Int)} {w : List Int} (hc : candsG l = true) (hm : (matG w l).length ≠ 0) : w.length ≤ (comM l w).length ∧ (comM l w).length ≤ 40 ∧ ptsG (comM l w) = true := by
  have hpre := com_pre l w
  unfold begG at hpre
  simp only [Bool.and_eq_true, decide_eq_true_eq] at hpre
  refine ⟨hpre.1, ?_⟩
  cases hf : matG w l with
  | nil => rw [hf] at hm; exact absurd rfl hm
  | cons x f =>
    have hx : x ∈ l := (List.mem_filter.1 (show x ∈ matG w l by rw [hf]; simp)).1
    unfold candsG at hc
    simp only [Bool.and_eq_true, List.all_eq_true] at hc
    obtain ⟨c1, c2⟩ := cand_pts (hc.2 x hx)
    have e : comM l w = x.take (comN x (x :: f) x.length) := by unfold comM; rw [hf]
    rw [e]
    exact ⟨by rw [List.length_take]; omega, ptsG_sub c1 (List.take_sublist _ _)⟩

theorem put_pts {l : List (List Int)} {w : List Int} (hc : candsG l = true) (hm : (matG w l).length ≠ 0) : ptsG (putG l w) = true ∧ (putG l w).length ≤ 41 := by
  obtain ⟨_, h2, h3⟩ := mat_facts hc hm
  have hl : (putG l w).length ≤ 41 := by
    unfold putG
    split <;> simp <;> omega
  refine ⟨?_, hl⟩
  have h4 := ptsG_sub h3 (List.drop_sublist w.length _)
  unfold ptsG at h4 ⊢
  simp only [Bool.and_eq_true, decide_eq_true_eq, List.all_eq_true] at h4 ⊢
  refine ⟨by omega, fun a ha => ?_⟩
  unfold putG at ha
  rw [List.mem_append] at ha
  rcases ha with ha | ha
  · exact h4.2 a ha
  · split at ha
    · have : a = 32 := by simpa using ha
      rw [this]; rfl
    · cases ha

theorem sub_drop {A : Type} (x : List A) (n : Nat) : sub x (n : Int) (x.length : Int) = x.drop n := by simp [sub]

theorem spec_CompPut_eq (N : Nat) (b : BufT) (l : List (List Int)) (hN : 401 < N) (hb : b.1.length ≤ 68719476736) (hx : ∀ x ∈ l, x.length ≤ 1048576 ∧ x.length < N) : spec_CompPut N b l = some (compPutG b l) := by
  have hx' : ∀ x ∈ l, x.length ≤ 9223372036854775806 ∧ x.length < N := fun x h => by have := hx x h; omega
  unfold spec_CompPut compPutG
  rw [pLen_d, show (400 : Int) = ((400 : Nat) : Int) from rfl, gt_not]
  cases h1 : decide (l.length ≤ 400) with
  | false => rfl
  | true =>
    rw [Bool.not_true, ifB_f, if_neg (by simp), spec_BufRight_eq N b (by omega), bindO_s, pNot_d]
    cases h2 : bufG b with
    | false => rfl
    | true =>
      rw [Bool.not_true, ifB_f, spec_CandsRight_eq N l (by omega), bindO_s, bindO_s, pNot_d, Bool.true_and]
      cases h3 : candsG l with
      | false => rfl
      | true =>
        have hw : wordG b = aheadG b := by unfold wordG; rw [if_pos h2]
        have hap := ahead_pts h2
        have hal := ptsG_len hap
        have ask : askG l (aheadG b) = true := by
          unfold askG; rw [h1, h3, hap, decide_eq_true (by omega)]; rfl
        have hmt : matchG l (aheadG b) = idxG (aheadG b) 0 l := by unfold matchG; rw [if_pos ask]
        have him := (idx_mat (aheadG b) l 0).1
        have hcg : comG l (aheadG b) = comM l (aheadG b) := by unfold comG comM; rw [h1, hap, h3]; simp <;> rfl
        rw [Bool.not_true, ifB_f, if_neg (by simp), spec_WordAhead_eq N b hb (by omega), bindO_s, hw, spec_CompMatch_eq N l _ hN hx', bindO_s, hmt]
        have e0 : pLen (idxG (aheadG b) 0 l) = ((matG (aheadG b) l).length : Int) := by rw [pLen_d]; exact congrArg _ him
        rw [e0]
        by_cases h4 : (matG (aheadG b) l).length = 0
        · rw [if_pos h4, pEq_t (by omega), ifB_t]; rfl
        · obtain ⟨f1, f2, f3⟩ := mat_facts h3 h4
          obtain ⟨p1, p2⟩ := put_pts h3 h4
          obtain ⟨_, b2, b3, _, _⟩ := bufG_iff.1 h2
          have hbl := ptsG_len (bufG_iff.1 h2).1
          rw [if_neg h4, pEq_f (by omega), ifB_f, spec_CompCommon_eq N l _ hN (by omega) hx, bindO_s, hcg]
          simp only [pLen_d]
          rw [pLe_t (by omega), ifB_t, pLe_t (by omega), ifB_t, pLe_t (by omega), ifB_t, sub_drop, copy_eq N _ (by simp; omega), bindO_s]
          by_cases h5 : (matG (aheadG b) l).length = 1
          · have e5 : putG l (aheadG b) = pApp ((comM l (aheadG b)).drop (aheadG b).length) [32] := by unfold putG pApp; rw [if_pos h5]
            rw [pEq_t (by omega), ifB_t, pFit_t (by simp; omega), ifB_t, ← e5]
            unfold spec_BufInsert
            rw [spec_Replace_eq N b _ _ _ h2 p1 (by omega) (by omega) (by omega)]
            rfl
          · have e5 : putG l (aheadG b) = (comM l (aheadG b)).drop (aheadG b).length := by unfold putG; rw [if_neg h5, List.append_nil]
            rw [pEq_f (by omega), ifB_f, ← e5]
            unfold spec_BufInsert
            rw [spec_Replace_eq N b _ _ _ h2 p1 (by omega) (by omega) (by omega)]
            rfl

theorem impl_CompPut_eq (N : Nat) (b : BufT) (l : List (List Int)) (hN : 401 < N) (hb : b.1.length ≤ 68719476736) (hbN : b.1.length < N) (hl : l.length ≤ 1048576) (hlN : l.length < N) (hx : ∀ x ∈ l, x.length ≤ 1048576 ∧ x.length < N) : impl_CompPut N b l = some (compPutG b l) := by
  have hx' : ∀ x ∈ l, x.length < N ∧ x.length ≤ 9223372036854775806 := fun x h => by have := hx x h; omega
  unfold impl_CompPut compPutG impl_isMany
  simp only [pLen_d]
  rw [show (400 : Int) = ((400 : Nat) : Int) from rfl, gt_not, bindO_s]
  cases h1 : decide (l.length ≤ 400) with
  | false => rfl
  | true =>
    have hl4 : l.length ≤ 400 := of_decide_eq_true h1
    rw [Bool.not_true, ifB_f, if_neg (by simp), impl_BufRight_eq N b hbN (by omega), bindO_s, pNot_d]
    cases h2 : bufG b with
    | false => rfl
    | true =>
      rw [Bool.not_true, ifB_f, impl_CandsRight_eq N l hlN (by omega) hx', bindO_s, bindO_s, pNot_d, Bool.true_and]
      cases h3 : candsG l with
      | false => rfl
      | true =>
        have hap := ahead_pts h2
        have hal := ptsG_len hap
        have hmm : impl_matches N l (aheadG b) = some (matG (aheadG b) l, idxG (aheadG b) 0 l) := by
          unfold impl_matches
          have := implMatch_loop (N := N) l (aheadG b) hl4 (fun x h => ⟨(hx' x h).2, (hx' x h).1⟩) (fun d => let x110 := d.1; let x111 := d.2.1; some (x110, x111)) _ 0 N [] [] rfl (by omega) (by omega) (by simp) (by simp)
          rw [List.drop_zero, List.nil_append, List.nil_append] at this
          rw [pLen_d]
          exact this
        rw [Bool.not_true, ifB_f, if_neg (by simp), impl_ahead_eq N b h2 (by omega), bindO_s, hmm, bindO_s]
        dsimp only
        by_cases h4 : (matG (aheadG b) l).length = 0
        · rw [if_pos h4, pEq_t (by omega), ifB_t]; rfl
        · obtain ⟨f1, f2, f3⟩ := mat_facts h3 h4
          obtain ⟨p1, p2⟩ := put_pts h3 h4
          obtain ⟨_, b2, b3, _, _⟩ := bufG_iff.1 h2
          have hbl := ptsG_len (bufG_iff.1 h2).1
          have hcm : impl_common N l (aheadG b) = some (comM l (aheadG b)) := impl_common_eq N l _ hl4 hN (fun x h => ⟨(hx' x h).2, (hx' x h).1⟩)
          rw [if_neg h4, pEq_f (by omega), ifB_f, hcm, bindO_s]
          rw [pLe_t (by omega), ifB_t, pLe_t (by omega), ifB_t, pLe_t (by omega), ifB_t, sub_drop, clone_eq N _ (by simp; omega), bindO_s]
          by_cases h5 : (matG (aheadG b) l).length = 1
          · have e5 : putG l (aheadG b) = pApp ((comM l (aheadG b)).drop (aheadG b).length) [32] := by unfold putG pApp; rw [if_pos h5]
            rw [pEq_t (by omega), ifB_t, pFit_t (by simp; omega), ifB_t, ← e5, impl_replace_eq N b _ _ _ h2 (by omega) (by omega) (by omega) (by omega)]
            rfl
          · have e5 : putG l (aheadG b) = (comM l (aheadG b)).drop (aheadG b).length := by unfold putG; rw [if_neg h5, List.append_nil]
            rw [pEq_f (by omega), ifB_f, ← e5, impl_replace_eq N b _ _ _ h2 (by omega) (by omega) (by omega) (by omega)]
            rfl

theorem compPutG_len (b : BufT) (l : List (List Int)) : (compPutG b l).1.1.length ≤ 300 ∧ (compPutG b l).2.1.length ≤ 1000 := by
  unfold compPutG
  split
  · exact ⟨by simp [failG], by simp [failG]⟩
  · split
    · exact ⟨by simp [failG], by simp [failG]⟩
    · rename_i _ h
      split
      · exact ⟨by simp [failG], by simp [failG]⟩
      · refine replG_len _ _ _ _ ?_
        simp only [Bool.and_eq_false_iff, not_or, Bool.not_eq_false] at h
        have := ptsG_len (bufG_iff.1 h.1).1
        omega

theorem pure_FnExactCompPut (b : BufT) (h : (b.1.length ≤ 9223372036854775807 ∧ ∀ a ∈ b.1, IntKind.i64.min ≤ a ∧ a ≤ IntKind.i64.max) ∧ (IntKind.i64.min ≤ b.2.1 ∧ b.2.1 ≤ IntKind.i64.max) ∧ (IntKind.i64.min ≤ b.2.2.1 ∧ b.2.2.1 ≤ IntKind.i64.max) ∧ True)
    (l : List (List Int)) (h2 : l.length ≤ 9223372036854775807 ∧ ∀ x ∈ l, x.length ≤ 9223372036854775807 ∧ ∀ a ∈ x, IntKind.i64.min ≤ a ∧ a ≤ IntKind.i64.max) : ∃ N, laws_FnExactCompPut N b l = some true := by
  refine ⟨1048600, ?_⟩
  unfold laws_FnExactCompPut
  rw [szBuf_eq _ b 1048576 (by omega) (by omega) h.1.1, bindO_s]
  by_cases hs : (1048576 : Int) - b.1.length < 0
  · rw [if_pos hs, pLt_t (by omega), ifB_t]
  rw [if_neg hs, pLt_f (by omega), ifB_f, szInt64SS_eq _ l _ (by omega) (by omega) h2.1 (fun x hx => (h2.2 x hx).1) (by omega), bindO_s]
  by_cases hs2 : (1048576 : Int) - b.1.length - l.length - sumLen l < 0
  · rw [if_pos hs2, pLt_t (by omega), ifB_t]
  rw [if_neg hs2, pLt_f (by omega), ifB_f]
  have hl : l.length ≤ 1048576 := by omega
  have hbl : b.1.length ≤ 1048576 := by omega
  have hx : ∀ x ∈ l, x.length ≤ 1048576 := fun x hx => by have := mem_sum hx; omega
  have hx2 : ∀ x ∈ l, x.length ≤ 9223372036854775806 ∧ x.length < 1048600 := fun x h => by have := hx x h; omega
  have hx3 : ∀ x ∈ l, x.length ≤ 1048576 ∧ x.length < 1048600 := fun x h => by have := hx x h; omega
  obtain ⟨g1, g2⟩ := compPutG_len b l
  have c0 : laws_toBuf 1048600 b = some b := toBuf_eq _ b (by omega) (by omega)
  have c1 : laws_toInt64SS 1048600 l = some l := toInt64SS_eq _ l (by omega) (fun x h => by have := hx x h; omega) (by omega) (fun x h => by have := hx x h; omega)
  have c2 : spec_CompPut 1048600 b l = some (compPutG b l) := spec_CompPut_eq _ b l (by omega) (by omega) hx3
  have c3 : impl_CompPut 1048600 b l = some (compPutG b l) := impl_CompPut_eq _ b l (by omega) (by omega) (by omega) hl (by omega) hx3
  have c4 : laws_eqBufOut 1048600 (compPutG b l) (compPutG b l) = some true := eqBufOut_self _ _ (by omega) (by omega) (by omega)
  have c5 : laws_eqBuf 1048600 b b = some true := eqBuf_self _ b (by omega) (by omega)
  have c6 : laws_eqInt64SS 1048600 l l = some true := by rw [eqInt64SS_eq _ l l (by omega) (fun x h => (hx2 x h).1) (by omega) (fun x h => (hx2 x h).2), decide_eq_true rfl]
  have c7 : laws_markBuf 1048600 b 1 = some ((1 : Int) + b.1.length, (cnt 1 b.1.length, b.2)) := markBuf_eq _ b 1 (by omega) (by omega) (by omega)
  obtain ⟨l', c8⟩ := markInt64SS_eq 1048600 l ((1 : Int) + b.1.length) (by omega) (by omega) (by omega) (fun x h => (hx2 x h).2) (by omega) (by omega)
  have c9 := markBufOut_eq 1048600 (compPutG b l) (by omega) (by omega) (by omega)
  have c10 := heldBufOut_eq 1048600 (compPutG b l).1.1.length (compPutG b l).2.1.length (compPutG b l).1.2 (compPutG b l).2.2 (by omega) (by omega) (by omega)
  have e1 : pNot true = false := rfl
  have e4 : pLt ((1 : Int) + b.1.length + sumLen l) 0 = false := pLt_f (by omega)
  have e5 : pLt ((1 : Int) + (compPutG b l).1.1.length + (compPutG b l).2.1.length) 0 = false := pLt_f (by omega)
  have e6 : pNe ((1 : Int) + (compPutG b l).1.1.length + (compPutG b l).2.1.length) ((1 : Int) + (compPutG b l).1.1.length + (compPutG b l).2.1.length) = false := pNe_f rfl
  simp only [c0, c1, c2, c3, c4, c5, c6, c7, c8, c9, c10, bindO_s, e1, ifB_f, e4, e5, e6]

end Go.AE.F
