/- Plain laws of those functions. -/
import Derived.Test.YtafnggbmcbpffaaXRingPushF2
import Derived.IntWalk
namespace Go.AE
theorem ifB_t {R : Type} {a b : Option R} : ifB true a b = a := rfl
theorem ifB_f {R : Type} {a b : Option R} : ifB false a b = b := rfl
theorem bindO_s {A R : Type} {x : A} {f : A → Option R} : bindO (some x) f = f x := rfl
theorem loopP_s {D E R : Type} {step : D → (D → Option R) → (E → Option R) → Option R} {n : Nat} {d : D} {k : E → Option R} : loopP step (n + 1) d k = step d (fun d' => loopP step n d' k) k := rfl
theorem wrap_i64 {n : Int} (h1 : -9223372036854775808 ≤ n) (h2 : n ≤ 9223372036854775807) : IntKind.i64.wrap n = n := IntWalk.i64_in n ⟨h1, h2⟩
theorem pAdd_i {a b : Int} (h1 : -9223372036854775808 ≤ a + b) (h2 : a + b ≤ 9223372036854775807) : pAdd .i64 a b = a + b := wrap_i64 h1 h2
theorem pSub_i {a b : Int} (h1 : -9223372036854775808 ≤ a - b) (h2 : a - b ≤ 9223372036854775807) : pSub .i64 a b = a - b := wrap_i64 h1 h2
theorem pLt_t {a b : Int} (h : a < b) : pLt a b = true := decide_eq_true h
theorem pLt_f {a b : Int} (h : b ≤ a) : pLt a b = false := decide_eq_false (by omega)
theorem pLe_t {a b : Int} (h : a ≤ b) : pLe a b = true := decide_eq_true h
theorem pGt_t {a b : Int} (h : b < a) : pGt a b = true := decide_eq_true h
theorem pGt_f {a b : Int} (h : a ≤ b) : pGt a b = false := decide_eq_false (by omega)
theorem pGe_t {a b : Int} (h : b ≤ a) : pGe a b = true := decide_eq_true h
theorem pEq_t {a b : Int} (h : a = b) : pEq a b = true := by subst h; simp [pEq]
theorem pEq_f {a b : Int} (h : a ≠ b) : pEq a b = false := by simp [pEq, h]
theorem pNe_t {a b : Int} (h : a ≠ b) : pNe a b = true := by simp [pNe, h]
theorem pNe_f {a b : Int} (h : a = b) : pNe a b = false := by subst h; simp [pNe]
theorem pFit_t {A : Type} {xs ys : List A} (h : xs.length + ys.length ≤ 68719476736) : pFit xs ys = true := decide_eq_true h
theorem idx_n {A : Type} (xs : List A) (i : Nat) : idx xs (i : Int) = xs[i]? := by
  unfold idx; rw [if_pos (by omega)]; rfl
theorem idx_lt {A : Type} {xs : List A} {i : Nat} (h : i < xs.length) : idx xs (i : Int) = some xs[i] := by rw [idx_n]; simp [h]
end Go.AE
namespace Go.AE
theorem ifB_or {c d : Bool} : ifB c (some true) (some d) = some (c || d) := by cases c <;> rfl
theorem ifB_and {c d : Bool} : ifB c (some d) (some false) = some (c && d) := by cases c <;> rfl
theorem pNot_d {b : Bool} : pNot b = !b := rfl
theorem pGe_d {a b : Int} : pGe a b = decide (a ≥ b) := rfl
theorem pGt_d {a b : Int} : pGt a b = decide (a > b) := rfl
theorem pLe_d {a b : Int} : pLe a b = decide (a ≤ b) := rfl
theorem pLt_d {a b : Int} : pLt a b = decide (a < b) := rfl
theorem pEq_d {a b : Int} : pEq a b = decide (a = b) := by
  by_cases h : a = b
  · rw [pEq_t h, decide_eq_true h]
  · rw [pEq_f h, decide_eq_false h]
theorem pNe_d {a b : Int} : pNe a b = !decide (a = b) := by
  by_cases h : a = b
  · rw [pNe_f h, decide_eq_true h]; rfl
  · rw [pNe_t h, decide_eq_false h]; rfl
theorem pLen_d {A : Type} {xs : List A} : pLen xs = (xs.length : Int) := rfl
theorem succ_of {m N : Nat} (h : m < N) : ∃ q, N = q + 1 := ⟨N - 1, by omega⟩
theorem drop_c {A : Type} {l : List A} {i : Nat} (h : i < l.length) : l.drop i = l[i] :: l.drop (i + 1) := List.drop_eq_getElem_cons h
theorem find_loop {A R : Type} {P : A → Option Bool} {p : A → Bool} {xs : List A} (hx : xs.length ≤ 9223372036854775806) {step : List A × Int × Int × Unit → (List A × Int × Int × Unit → Option R) → (Unit ⊕ (Int × Unit) → Option R) → Option R}
    (hs : ∀ i kn kx, step (xs, (xs.length : Int), i, ()) kn kx = ifB (pLt i xs.length) (bindO (idx xs i) fun y => bindO (P y) fun b => ifB b (kx (.inr (i, ()))) (kn (xs, (xs.length : Int), pAdd .i64 i 1, ()))) (kx (.inl ())))
    (hP : ∀ x ∈ xs, P x = some (p x)) (k : Unit ⊕ (Int × Unit) → Option R) : ∀ (m i n : Nat), xs.length - i = m → i ≤ xs.length → m < n →
    loopP step n (xs, (xs.length : Int), (i : Int), ()) k = match (xs.drop i).findIdx? p with | none => k (.inl ()) | some j => k (.inr (((i + j : Nat) : Int), ())) := by
  intro m
  induction m with
  | zero =>
    intro i n hm hi hn
    obtain ⟨n, rfl⟩ := succ_of hn
    rw [loopP_s, hs, pLt_f (by omega), ifB_f, List.drop_eq_nil_of_le (by omega)]
    rfl
  | succ m ih =>
    intro i n hm hi hn
    obtain ⟨n, rfl⟩ := succ_of hn
    have hlt : i < xs.length := by omega
    rw [loopP_s, hs, pLt_t (by omega), ifB_t, idx_lt hlt, bindO_s, hP _ (List.getElem_mem hlt), bindO_s, drop_c hlt, List.findIdx?_cons]
    cases hp : p xs[i] with
    | true => rw [ifB_t]; rfl
    | false =>
      rw [ifB_f, pAdd_i (by omega) (by omega)]
      have := ih (i + 1) n (by omega) (by omega) (by omega)
      refine Eq.trans this ?_
      cases h : (xs.drop (i + 1)).findIdx? p with
      | none => simp
      | some j =>
        simp only [Bool.false_eq_true, if_false, Option.map_some]
        congr 4
        omega
theorem find_any {A : Type} {p : A → Bool} {xs : List A} : (match xs.findIdx? p with | none => (-1 : Int) | some j => (j : Int)) ≥ 0 ↔ xs.any p = true := by
  cases h : xs.findIdx? p with
  | none =>
    simp only [List.findIdx?_eq_none_iff] at h
    constructor
    · intro q; simp at q
    · intro q
      obtain ⟨x, hx, hp⟩ := List.any_eq_true.1 q
      rw [h x hx] at hp; cases hp
  | some j =>
    rw [List.findIdx?_eq_some_iff_getElem] at h
    obtain ⟨hj, hp, _⟩ := h
    constructor
    · intro _; exact List.any_eq_true.2 ⟨_, List.getElem_mem hj, hp⟩
    · intro _; simp
theorem all_loop {A R : Type} {P : A → Option Bool} {p : A → Bool} {xs : List A} (hx : xs.length ≤ 9223372036854775806) {step : List A × Int × Unit → (List A × Int × Unit → Option R) → (Unit ⊕ (Bool × Unit) → Option R) → Option R}
    (hs : ∀ i kn kx, step (xs, i, ()) kn kx = ifB (pLt i xs.length) (bindO (idx xs i) fun y => bindO (P y) fun b => ifB (pNot b) (kx (.inr (false, ()))) (kn (xs, pAdd .i64 i 1, ()))) (kx (.inl ())))
    (hP : ∀ x ∈ xs, P x = some (p x)) (k : Unit ⊕ (Bool × Unit) → Option R) : ∀ (m i n : Nat), xs.length - i = m → i ≤ xs.length → m < n →
    loopP step n (xs, (i : Int), ()) k = if (xs.drop i).all p = true then k (.inl ()) else k (.inr (false, ())) := by
  intro m
  induction m with
  | zero =>
    intro i n hm hi hn
    obtain ⟨n, rfl⟩ := succ_of hn
    rw [loopP_s, hs, pLt_f (by omega), ifB_f, List.drop_eq_nil_of_le (by omega)]
    rfl
  | succ m ih =>
    intro i n hm hi hn
    obtain ⟨n, rfl⟩ := succ_of hn
    have hlt : i < xs.length := by omega
    rw [loopP_s, hs, pLt_t (by omega), ifB_t, idx_lt hlt, bindO_s, hP _ (List.getElem_mem hlt), bindO_s, drop_c hlt, List.all_cons]
    cases hp : p xs[i] with
    | false => simp [pNot_d, ifB_t]
    | true =>
      rw [pNot_d, Bool.not_true, ifB_f, pAdd_i (by omega) (by omega), Bool.true_and]
      exact ih (i + 1) n (by omega) (by omega) (by omega)
theorem copy_loop {A R : Type} {P : A → Option A} {f : A → A} {xs : List A} (hx : xs.length ≤ 9223372036854775806) {step : List A × Int × List A × Unit → (List A × Int × List A × Unit → Option R) → (List A × Unit → Option R) → Option R}
    (hs : ∀ i out kn kx, step (xs, i, out, ()) kn kx = ifB (pLt i xs.length) (bindO (idx xs i) fun y => bindO (P y) fun z => bindO (idx out i) fun _ => bindO (idx out i) fun _ => kn (xs, pAdd .i64 i 1, pSet out i z, ())) (kx (out, ())))
    (hP : ∀ x ∈ xs, P x = some (f x)) (k : List A × Unit → Option R) : ∀ (m i n : Nat) (out : List A), xs.length - i = m → i ≤ xs.length → m < n → out.length = xs.length → out.take i = (xs.map f).take i →
    loopP step n (xs, (i : Int), out, ()) k = k (xs.map f, ()) := by
  intro m
  induction m with
  | zero =>
    intro i n out hm hi hn ho ht
    obtain ⟨n, rfl⟩ := succ_of hn
    have e : out = xs.map f := by
      rw [List.take_of_length_le (by omega), List.take_of_length_le (by simp; omega)] at ht
      exact ht
    rw [loopP_s, hs, pLt_f (by omega), ifB_f, e]
  | succ m ih =>
    intro i n out hm hi hn ho ht
    obtain ⟨n, rfl⟩ := succ_of hn
    have hlt : i < xs.length := by omega
    rw [loopP_s, hs, pLt_t (by omega), ifB_t, idx_lt hlt, bindO_s, hP _ (List.getElem_mem hlt), bindO_s, idx_lt (by omega : i < out.length), bindO_s, bindO_s, pAdd_i (by omega) (by omega)]
    refine ih (i + 1) n (pSet out (i : Int) (f xs[i])) (by omega) (by omega) (by omega) (by simp [pSet, ho]) ?_
    rw [List.take_succ_eq_append_getElem (by simp [pSet]; omega), List.take_succ_eq_append_getElem (by simp; omega)]
    congr 1
    · rw [← ht]; simp [pSet, List.take_set_of_le]
    · simp [pSet]
theorem eq_loop {A R : Type} {P : A → A → Option Bool} {xs ys : List A} (hx : xs.length ≤ 9223372036854775806) (hl : xs.length = ys.length) {step : List A × List A × Int × Unit → (List A × List A × Int × Unit → Option R) → (Unit ⊕ (Bool × Unit) → Option R) → Option R}
    (hs : ∀ i kn kx, step (xs, ys, i, ()) kn kx = ifB (pLt i xs.length) (bindO (idx xs i) fun x => bindO (idx ys i) fun y => bindO (P x y) fun b => ifB b (kx (.inr (false, ()))) (kn (xs, ys, pAdd .i64 i 1, ()))) (kx (.inl ())))
    (hP : ∀ x ∈ xs, ∀ y ∈ ys, ∃ b, P x y = some b ∧ (b = true ↔ x ≠ y)) (k : Unit ⊕ (Bool × Unit) → Option R) : ∀ (m i n : Nat), xs.length - i = m → i ≤ xs.length → m < n →
    (xs.drop i = ys.drop i → loopP step n (xs, ys, (i : Int), ()) k = k (.inl ())) ∧ (xs.drop i ≠ ys.drop i → loopP step n (xs, ys, (i : Int), ()) k = k (.inr (false, ()))) := by
  intro m
  induction m with
  | zero =>
    intro i n hm hi hn
    obtain ⟨n, rfl⟩ := succ_of hn
    rw [loopP_s, hs, pLt_f (by omega), ifB_f, List.drop_eq_nil_of_le (by omega), List.drop_eq_nil_of_le (by omega)]
    exact ⟨fun _ => rfl, fun h => absurd rfl h⟩
  | succ m ih =>
    intro i n hm hi hn
    obtain ⟨n, rfl⟩ := succ_of hn
    have hlt : i < xs.length := by omega
    have hlt2 : i < ys.length := by omega
    obtain ⟨b, hb, hbe⟩ := hP _ (List.getElem_mem hlt) _ (List.getElem_mem hlt2)
    rw [loopP_s, hs, pLt_t (by omega), ifB_t, idx_lt hlt, bindO_s, idx_lt hlt2, bindO_s, hb, bindO_s, drop_c hlt, drop_c hlt2, List.cons.injEq]
    obtain ⟨i1, i2⟩ := ih (i + 1) n (by omega) (by omega) (by omega)
    cases b with
    | true =>
      have := hbe.1 rfl
      exact ⟨fun h => absurd h.1 this, fun _ => by rw [ifB_t]⟩
    | false =>
      have he : xs[i] = ys[i] := Classical.byContradiction fun h => by cases hbe.2 h
      rw [ifB_f, pAdd_i (by omega) (by omega)]
      exact ⟨fun h => i1 h.2, fun h => i2 fun q => h (by rw [he, q])⟩
end Go.AE
namespace Go.AE.F
open Go.AE
theorem szInt64S_eq (N : Nat) (l : List Int) (a : Int) (h0 : 0 ≤ a) (ha : a ≤ 9223372036854775807) (hl : l.length ≤ 9223372036854775807) :
    laws_szInt64S N l a = some (if a - l.length < 0 then -1 else a - l.length) := by
  unfold laws_szInt64S
  rw [pLen_d, pSub_i (by omega) (by omega)]
  by_cases h : a - (l.length : Int) < 0
  · rw [pLt_t h, ifB_t, if_pos h]
  · rw [pLt_f (by omega), ifB_f, if_neg h]
def sumLen (l : List (List Int)) : Nat := (l.map List.length).sum
theorem szInt64SS_loop {N : Nat} {R : Type} (l : List (List Int)) (hl : l.length ≤ 9223372036854775806) (hb : ∀ x ∈ l, x.length ≤ 9223372036854775807) (k : (Int × Unit) ⊕ (Int × Unit) → Option R) :
    ∀ (m i n : Nat) (a : Int), l.length - i = m → i ≤ l.length → m < n → 0 ≤ a → a ≤ 9223372036854775807 →
    loopP (laws_szInt64SS.l5 N) n (l, a, (i : Int), ()) k = if a - sumLen (l.drop i) < 0 then k (.inr (-1, ())) else k (.inl (a - sumLen (l.drop i), ())) := by
  intro m
  induction m with
  | zero =>
    intro i n a hm hi hn h0 ha
    obtain ⟨n, rfl⟩ := succ_of hn
    simp only [loopP_s, laws_szInt64SS.l5, pLen_d]
    rw [pLt_f (by omega), ifB_f, List.drop_eq_nil_of_le (by omega)]
    simp only [sumLen, List.map_nil, List.sum_nil]
    rw [if_neg (by omega)]; simp
  | succ m ih =>
    intro i n a hm hi hn h0 ha
    obtain ⟨n, rfl⟩ := succ_of hn
    have hlt : i < l.length := by omega
    simp only [loopP_s, laws_szInt64SS.l5, pLen_d]
    rw [pLt_t (by omega), ifB_t, idx_lt hlt, bindO_s, szInt64S_eq N _ _ h0 ha (hb _ (List.getElem_mem hlt)), bindO_s, drop_c hlt]
    have es : sumLen (l[i] :: l.drop (i + 1)) = l[i].length + sumLen (l.drop (i + 1)) := rfl
    rw [es]
    by_cases h : a - (l[i].length : Int) < 0
    · rw [if_pos h, pLt_t (by omega), ifB_t, if_pos (by omega)]
    · rw [if_neg h, pLt_f (by omega), ifB_f, pAdd_i (by omega) (by omega)]
      have := ih (i + 1) n (a - l[i].length) (by omega) (by omega) (by omega) (by omega) (by omega)
      refine Eq.trans this ?_
      by_cases h2 : a - (l[i].length : Int) - sumLen (l.drop (i + 1)) < 0
      · rw [if_pos h2, if_pos (by omega)]
      · rw [if_neg h2, if_neg (by omega)]
        congr 3; omega
theorem szInt64SS_eq (N : Nat) (l : List (List Int)) (a : Int) (h0 : 0 ≤ a) (ha : a ≤ 1048576) (hl : l.length ≤ 9223372036854775807) (hb : ∀ x ∈ l, x.length ≤ 9223372036854775807) (hN : 1048578 ≤ N) :
    laws_szInt64SS N l a = some (if a - l.length - sumLen l < 0 then -1 else a - l.length - sumLen l) := by
  unfold laws_szInt64SS
  rw [pLen_d, pSub_i (by omega) (by omega)]
  by_cases h : a - (l.length : Int) < 0
  · rw [pLt_t h, ifB_t, if_pos (by omega)]
  · rw [pLt_f (by omega), ifB_f]
    have := szInt64SS_loop (N := N) l (by omega) hb (onSum (fun d => let x44 := d.1; some x44) (fun d => let x45 := d.1; some x45)) _ 0 N (a - l.length) rfl (by omega) (by omega) (by omega) (by omega)
    refine Eq.trans this ?_
    rw [List.drop_zero]
    by_cases h2 : a - (l.length : Int) - sumLen l < 0
    · rw [if_pos h2, if_pos h2]; rfl
    · rw [if_neg h2, if_neg h2]; rfl
theorem repl_len {A : Type} (n : Nat) (x : A) : (pRepl (n : Int) x).length = n := by simp [pRepl]
theorem toInt64S_eq (N : Nat) (l : List Int) (hl : l.length ≤ 68719476736) (hN : l.length < N) : laws_toInt64S N l = some l := by
  unfold laws_toInt64S
  rw [pLen_d, pEq_t rfl, ifB_t, pLe_t (by omega), ifB_t, pLe_t (by omega), ifB_t]
  have := copy_loop (R := List Int) (P := some) (f := id) (xs := l) (by omega) (step := laws_toInt64S.l3 N) (fun i out kn kx => by simp only [laws_toInt64S.l3, bindO_s, pLen_d]) (fun _ _ => rfl) (fun d => let x55 := d.1; some x55) _ 0 N (pRepl (l.length : Int) 0) rfl (by omega) (by omega) (repl_len _ _) (by simp)
  refine Eq.trans this ?_
  simp
theorem mem_sum {l : List (List Int)} {x : List Int} (h : x ∈ l) : x.length ≤ sumLen l := by
  induction l with
  | nil => cases h
  | cons a l ih =>
    have es : sumLen (a :: l) = a.length + sumLen l := rfl
    rw [es]
    cases h with
    | head => omega
    | tail _ h => have := ih h; omega
theorem toInt64SS_eq (N : Nat) (l : List (List Int)) (hl : l.length ≤ 68719476736) (hb : ∀ x ∈ l, x.length ≤ 68719476736) (hN : l.length < N) (hNb : ∀ x ∈ l, x.length < N) : laws_toInt64SS N l = some l := by
  unfold laws_toInt64SS
  rw [pLen_d, pEq_t rfl, ifB_t, pLe_t (by omega), ifB_t, pLe_t (by omega), ifB_t]
  have := copy_loop (R := List (List Int)) (P := laws_toInt64S N) (f := id) (xs := l) (by omega) (step := laws_toInt64SS.l3 N) (fun i out kn kx => by simp only [laws_toInt64SS.l3, pLen_d]) (fun x hx => toInt64S_eq N x (hb x hx) (hNb x hx)) (fun d => let x67 := d.1; some x67) _ 0 N (pRepl (l.length : Int) []) rfl (by omega) (by omega) (repl_len _ _) (by simp)
  refine Eq.trans this ?_
  simp
theorem eqInt64S_eq (N : Nat) (a b : List Int) (ha : a.length ≤ 9223372036854775806) (hN : a.length < N) : laws_eqInt64S N a b = some (decide (a = b)) := by
  unfold laws_eqInt64S
  simp only [pLen_d]
  by_cases hl : a.length = b.length
  · rw [pNe_f (by omega), ifB_f]
    obtain ⟨h1, h2⟩ := eq_loop (R := Bool) (P := fun x y => some (pNe x y)) (xs := a) (ys := b) ha hl (step := laws_eqInt64S.l4 N) (fun i kn kx => by simp only [laws_eqInt64S.l4, bindO_s, pLen_d])
      (fun x _ y _ => ⟨_, rfl, by rw [pNe_d]; simp⟩) (onSum (fun _ => some true) (fun d => let x43 := d.1; some x43)) _ 0 N rfl (by omega) (by omega)
    rw [List.drop_zero, List.drop_zero] at h1 h2
    by_cases he : a = b
    · rw [decide_eq_true he]; exact h1 he
    · rw [decide_eq_false he]; exact h2 he
  · rw [pNe_t (by omega), ifB_t, decide_eq_false (fun h => hl (by rw [h]))]
theorem eqInt64SS_eq (N : Nat) (a b : List (List Int)) (ha : a.length ≤ 9223372036854775806) (hb : ∀ x ∈ a, x.length ≤ 9223372036854775806) (hN : a.length < N) (hNb : ∀ x ∈ a, x.length < N) : laws_eqInt64SS N a b = some (decide (a = b)) := by
  unfold laws_eqInt64SS
  simp only [pLen_d]
  by_cases hl : a.length = b.length
  · rw [pNe_f (by omega), ifB_f]
    obtain ⟨h1, h2⟩ := eq_loop (R := Bool) (P := fun x y => bindO (laws_eqInt64S N x y) fun b => some (pNot b)) (xs := a) (ys := b) ha hl (step := laws_eqInt64SS.l4 N) (fun i kn kx => by
        simp only [laws_eqInt64SS.l4, pLen_d]
        congr 1; congr 1; funext x; congr 1; funext y
        cases laws_eqInt64S N x y <;> rfl)
      (fun x hx y _ => ⟨_, by rw [eqInt64S_eq N x y (hb x hx) (hNb x hx)]; rfl, by rw [pNot_d]; simp⟩) (onSum (fun _ => some true) (fun d => let x55 := d.1; some x55)) _ 0 N rfl (by omega) (by omega)
    rw [List.drop_zero, List.drop_zero] at h1 h2
    by_cases he : a = b
    · rw [decide_eq_true he]; exact h1 he
    · rw [decide_eq_false he]; exact h2 he
  · rw [pNe_t (by omega), ifB_t, decide_eq_false (fun h => hl (by rw [h]))]
end Go.AE.F
namespace Go.AE.F
open Go.AE
def ptG (a : Int) : Bool := decide (0 ≤ a) && decide (a ≤ 1114111) && !(decide (55296 ≤ a) && decide (a ≤ 57343))
theorem spec_l01Point_eq (N : Nat) (a : Int) : spec_l01Point N a = some (ptG a) := by
  unfold spec_l01Point ptG
  simp only [ifB_or, ifB_and, bindO_s, pNot_d, pGe_d, pLe_d]
theorem impl_within_eq (N : Nat) (a b c : Int) : impl_within N a b c = some (decide (b ≤ a) && decide (a ≤ c)) := by
  unfold impl_within
  simp only [ifB_and, bindO_s, pLe_d]
theorem impl_isPoint_eq (N : Nat) (a : Int) : impl_isPoint N a = some (ptG a) := by
  unfold impl_isPoint ptG
  simp only [impl_within_eq, ifB_and, bindO_s, pNot_d]
end Go.AE.F
namespace Go.AE.F
open Go.AE
theorem not_any {A : Type} {p : A → Bool} : ∀ {l : List A}, (!l.any fun a => !p a) = l.all p
  | [] => rfl
  | a :: l => by rw [List.any_cons, List.all_cons, ← not_any]; cases p a <;> simp
end Go.AE.F
