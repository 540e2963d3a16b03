/- Plain laws of those functions. -/
import Derived.Test.YtbhhlcmjlhpehaaLYankF1
import Derived.IntWalk
namespace Go.AE
theorem ifB_t {R : Type} {a b : Option R} : ifB true a b = a := rfl
theorem ifB_f {R : Type} {a b : Option R} : ifB false a b = b := rfl
theorem bindO_s {A R : Type} {x : A} {f : A → Option R} : bindO (some x) f = f x := rfl
theorem loopP_s {D E R : Type} {step : D → (D → Option R) → (E → Option R) → Option R} {n : Nat} {d : D} {k : E → Option R} : loopP step (n + 1) d k = step d (fun d' => loopP step n d' k) k := rfl

theorem wrap_i64 {n : Int} (h1 : -9223372036854775808 ≤ n) (h2 : n ≤ 9223372036854775807) : IntKind.i64.wrap n = n := IntWalk.i64_in n ⟨h1, h2⟩
theorem pAdd_i {a b : Int} (h1 : -9223372036854775808 ≤ a + b) (h2 : a + b ≤ 9223372036854775807) : pAdd .i64 a b = a + b := wrap_i64 h1 h2
theorem pSub_i {a b : Int} (h1 : -9223372036854775808 ≤ a - b) (h2 : a - b ≤ 9223372036854775807) : pSub .i64 a b = a - b := wrap_i64 h1 h2

theorem pLt_t {a b : Int} (h : a < b) : pLt a b = true := decide_eq_true h
theorem pLt_f {a b : Int} (h : b ≤ a) : pLt a b = false := decide_eq_false (by omega)
theorem pLe_t {a b : Int} (h : a ≤ b) : pLe a b = true := decide_eq_true h
theorem pLe_f {a b : Int} (h : b < a) : pLe a b = false := decide_eq_false (by omega)
theorem pGt_t {a b : Int} (h : b < a) : pGt a b = true := decide_eq_true h
theorem pGt_f {a b : Int} (h : a ≤ b) : pGt a b = false := decide_eq_false (by omega)
theorem pGe_t {a b : Int} (h : b ≤ a) : pGe a b = true := decide_eq_true h
theorem pEq_t {a b : Int} (h : a = b) : pEq a b = true := by subst h; simp [pEq]
theorem pEq_f {a b : Int} (h : a ≠ b) : pEq a b = false := by simp [pEq, h]
theorem pNe_t {a b : Int} (h : a ≠ b) : pNe a b = true := by simp [pNe, h]
theorem pNe_f {a b : Int} (h : a = b) : pNe a b = false := by subst h; simp [pNe]
theorem pFit_t {A : Type} {xs ys : List A} (h : xs.length + ys.length ≤ 68719476736) : pFit xs ys = true := decide_eq_true h

theorem idx_n {A : Type} (xs : List A) (i : Nat) : idx xs (i : Int) = xs[i]? := by
  unfold idx; rw [if_pos (by omega)]; rfl
theorem idx_lt {A : Type} {xs : List A} {i : Nat} (h : i < xs.length) : idx xs (i : Int) = some xs[i] := by rw [idx_n]; simp [h]
end Go.AE
namespace Go.AE
theorem ifB_or {c d : Bool} : ifB c (some true) (some d) = some (c || d) := by cases c <;> rfl
theorem ifB_and {c d : Bool} : ifB c (some d) (some false) = some (c && d) := by cases c <;> rfl
theorem pNot_d {b : Bool} : pNot b = !b := rfl
theorem pGe_d {a b : Int} : pGe a b = decide (a ≥ b) := rfl
theorem pGt_d {a b : Int} : pGt a b = decide (a > b) := rfl
theorem pLe_d {a b : Int} : pLe a b = decide (a ≤ b) := rfl
theorem pLt_d {a b : Int} : pLt a b = decide (a < b) := rfl
theorem pEq_d {a b : Int} : pEq a b = decide (a = b) := by
  by_cases h : a = b
  · rw [pEq_t h, decide_eq_true h]
  · rw [pEq_f h, decide_eq_false h]
theorem pNe_d {a b : Int} : pNe a b = !decide (a = b) := by
  by_cases h : a = b
  · rw [pNe_f h, decide_eq_true h]; rfl
  · rw [pNe_t h, decide_eq_false h]; rfl
theorem pLen_d {A : Type} {xs : List A} : pLen xs = (xs.length : Int) := rfl

theorem succ_of {m N : Nat} (h : m < N) : ∃ q, N = q + 1 := ⟨N - 1, by omega⟩

theorem drop_c {A : Type} {l : List A} {i : Nat} (h : i < l.length) : l.drop i = l[i] :: l.drop (i + 1) := List.drop_eq_getElem_cons h

/-- a search: the first that is met -/
theorem find_loop {A R : Type} {P : A → Option Bool} {p : A → Bool} {xs : List A} (hx : xs.length ≤ 9223372036854775806) {step : List A × Int × Int × Unit → (List A × Int × Int × Unit → Option R) → (Unit ⊕ (Int × Unit) → Option R) → Option R}
    (hs : ∀ i kn kx, step (xs, (xs.length : Int), i, ()) kn kx = ifB (pLt i xs.length) (bindO (idx xs i) fun y => bindO (P y) fun b => ifB b (kx (.inr (i, ()))) (kn (xs, (xs.length : Int), pAdd .i64 i 1, ()))) (kx (.inl ())))
    (hP : ∀ x ∈ xs, P x = some (p x)) (k : Unit ⊕ (Int × Unit) → Option R) : ∀ (m i n : Nat), xs.length - i = m → i ≤ xs.length → m < n →
    loopP step n (xs, (xs.length : Int), (i : Int), ()) k = match (xs.drop i).findIdx? p with | none => k (.inl ()) | some j => k (.inr (((i + j : Nat) : Int), ())) := by
  intro m
  induction m with
  | zero =>
    intro i n hm hi hn
    obtain ⟨n, rfl⟩ := succ_of hn
    rw [loopP_s, hs, pLt_f (by omega), ifB_f, List.drop_eq_nil_of_le (by omega)]
    rfl
  | succ m ih =>
    intro i n hm hi hn
    obtain ⟨n, rfl⟩ := succ_of hn
    have hlt : i < xs.length := by omega
    rw [loopP_s, hs, pLt_t (by omega), ifB_t, idx_lt hlt, bindO_s, hP _ (List.getElem_mem hlt), bindO_s, drop_c hlt, List.findIdx?_cons]
    cases hp : p xs[i] with
    | true => rw [ifB_t]; rfl
    | false =>
      rw [ifB_f, pAdd_i (by omega) (by omega)]
      have := ih (i + 1) n (by omega) (by omega) (by omega)
      refine Eq.trans this ?_
      cases h : (xs.drop (i + 1)).findIdx? p with
      | none => simp
      | some j =>
        simp only [Bool.false_eq_true, if_false, Option.map_some]
        congr 4
        omega

theorem find_any {A : Type} {p : A → Bool} {xs : List A} : (match xs.findIdx? p with | none => (-1 : Int) | some j => (j : Int)) ≥ 0 ↔ xs.any p = true := by
  cases h : xs.findIdx? p with
  | none =>
    simp only [List.findIdx?_eq_none_iff] at h
    constructor
    · intro q; simp at q
    · intro q
      obtain ⟨x, hx, hp⟩ := List.any_eq_true.1 q
      rw [h x hx] at hp; cases hp
  | some j =>
    rw [List.findIdx?_eq_some_iff_getElem] at h
    obtain ⟨hj, hp, _⟩ := h
    constructor
    · intro _; exact List.any_eq_true.2 ⟨_, List.getElem_mem hj, hp⟩
    · intro _; simp

/-- a check of all: the first that fails ends it -/
theorem all_loop {A R : Type} {P : A → Option Bool} {p : A → Bool} {xs : List A} (hx : xs.length ≤ 9223372036854775806) {step : List A × Int × Unit → (List A × Int × Unit → Option R) → (Unit ⊕ (Bool × Unit) → Option R) → Option R}
    (hs : ∀ i kn kx, step (xs, i, ()) kn kx = ifB (pLt i xs.length) (bindO (idx xs i) fun y => bindO (P y) fun b => ifB (pNot b) (kx (.inr (false, ()))) (kn (xs, pAdd .i64 i 1, ()))) (kx (.inl ())))
    (hP : ∀ x ∈ xs, P x = some (p x)) (k : Unit ⊕ (Bool × Unit) → Option R) : ∀ (m i n : Nat), xs.length - i = m → i ≤ xs.length → m < n →
    loopP step n (xs, (i : Int), ()) k = if (xs.drop i).all p = true then k (.inl ()) else k (.inr (false, ())) := by
  intro m
  induction m with
  | zero =>
    intro i n hm hi hn
    obtain ⟨n, rfl⟩ := succ_of hn
    rw [loopP_s, hs, pLt_f (by omega), ifB_f, List.drop_eq_nil_of_le (by omega)]
    rfl
  | succ m ih =>
    intro i n hm hi hn
    obtain ⟨n, rfl⟩ := succ_of hn
    have hlt : i < xs.length := by omega
    rw [loopP_s, hs, pLt_t (by omega), ifB_t, idx_lt hlt, bindO_s, hP _ (List.getElem_mem hlt), bindO_s, drop_c hlt, List.all_cons]
    cases hp : p xs[i] with
    | false => simp [pNot_d, ifB_t]
    | true =>
      rw [pNot_d, Bool.not_true, ifB_f, pAdd_i (by omega) (by omega), Bool.true_and]
      exact ih (i + 1) n (by omega) (by omega) (by omega)

/-- two rows, compared element by element -/
theorem eq_loop {A R : Type} {P : A → A → Option Bool} {xs ys : List A} (hx : xs.length ≤ 9223372036854775806) (hl : xs.length = ys.length) {step : List A × List A × Int × Unit → (List A × List A × Int × Unit → Option R) → (Unit ⊕ (Bool × Unit) → Option R) → Option R}
    (hs : ∀ i kn kx, step (xs, ys, i, ()) kn kx = ifB (pLt i xs.length) (bindO (idx xs i) fun x => bindO (idx ys i) fun y => bindO (P x y) fun b => ifB b (kx (.inr (false, ()))) (kn (xs, ys, pAdd .i64 i 1, ()))) (kx (.inl ())))
    (hP : ∀ x ∈ xs, ∀ y ∈ ys, ∃ b, P x y = some b ∧ (b = true ↔ x ≠ y)) (k : Unit ⊕ (Bool × Unit) → Option R) : ∀ (m i n : Nat), xs.length - i = m → i ≤ xs.length → m < n →
    (xs.drop i = ys.drop i → loopP step n (xs, ys, (i : Int), ()) k = k (.inl ())) ∧ (xs.drop i ≠ ys.drop i → loopP step n (xs, ys, (i : Int), ()) k = k (.inr (false, ()))) := by
  intro m
  induction m with
  | zero =>
    intro i n hm hi hn
    obtain ⟨n, rfl⟩ := succ_of hn
    rw [loopP_s, hs, pLt_f (by omega), ifB_f, List.drop_eq_nil_of_le (by omega), List.drop_eq_nil_of_le (by omega)]
    exact ⟨fun _ => rfl, fun h => absurd rfl h⟩
  | succ m ih =>
    intro i n hm hi hn
    obtain ⟨n, rfl⟩ := succ_of hn
    have hlt : i < xs.length := by omega
    have hlt2 : i < ys.length := by omega
    obtain ⟨b, hb, hbe⟩ := hP _ (List.getElem_mem hlt) _ (List.getElem_mem hlt2)
    rw [loopP_s, hs, pLt_t (by omega), ifB_t, idx_lt hlt, bindO_s, idx_lt hlt2, bindO_s, hb, bindO_s, drop_c hlt, drop_c hlt2, List.cons.injEq]
    obtain ⟨i1, i2⟩ := ih (i + 1) n (by omega) (by omega) (by omega)
    cases b with
    | true =>
      have := hbe.1 rfl
      exact ⟨fun h => absurd h.1 this, fun _ => by rw [ifB_t]⟩
    | false =>
      have he : xs[i] = ys[i] := Classical.byContradiction fun h => by cases hbe.2 h
      rw [ifB_f, pAdd_i (by omega) (by omega)]
      exact ⟨fun h => i1 h.2, fun h => i2 fun q => h (by rw [he, q])⟩

end Go.AE
namespace Go.AE.F
open Go.AE
/-- is it a point? -/
def ptG (a : Int) : Bool := decide (0 ≤ a) && decide (a ≤ 1114111) && !(decide (55296 ≤ a) && decide (a ≤ 57343))
theorem spec_l01Point_eq (N : Nat) (a : Int) : spec_l01Point N a = some (ptG a) := by
  unfold spec_l01Point ptG
  simp only [ifB_or, ifB_and, bindO_s, pNot_d, pGe_d, pLe_d]

theorem impl_within_eq (N : Nat) (a b c : Int) : impl_within N a b c = some (decide (b ≤ a) && decide (a ≤ c)) := by
  unfold impl_within
  simp only [ifB_and, bindO_s, pLe_d]

theorem impl_isPoint_eq (N : Nat) (a : Int) : impl_isPoint N a = some (ptG a) := by
  unfold impl_isPoint ptG
  simp only [impl_within_eq, ifB_and, bindO_s, pNot_d]

end Go.AE.F
namespace Go.AE.F
open Go.AE
theorem not_any {A : Type} {p : A → Bool} : ∀ {l : List A}, (!l.any fun a => !p a) = l.all p
  | [] => rfl
  | a :: l => by rw [List.any_cons, List.all_cons, ← not_any]; cases p a <;> simp

end Go.AE.F
namespace Go.AE.F
open Go.AE
def ptsG (l : List Int) : Bool := decide (l.length ≤ 300) && l.all ptG

theorem spec_PointsRight_eq (N : Nat) (l : List Int) (hN : 301 < N) : spec_PointsRight N l = some (ptsG l) := by
  unfold spec_PointsRight ptsG
  rw [pLen_d]
  by_cases h : l.length ≤ 300
  · rw [pGt_f (by omega), ifB_f, decide_eq_true h, Bool.true_and]
    have := all_loop (R := Bool) (P := spec_l01Point N) (p := ptG) (xs := l) (by omega) (step := spec_PointsRight.l4 N) (fun i kn kx => by simp only [spec_PointsRight.l4, pLen_d]) (fun x _ => spec_l01Point_eq N x)
      (onSum (fun d => some true) (fun d => let x37 := d.1; some x37)) _ 0 N rfl (by omega) (by omega)
    rw [List.drop_zero] at this
    refine Eq.trans this ?_
    cases l.all ptG <;> rfl
  · rw [pGt_t (by omega), ifB_t, decide_eq_false h]; rfl

/-- a search for what fails, over any kind -/
theorem contains_all {A : Type} {N : Nat} {P : A → Option Bool} {p : A → Bool} {l : List A} (hl : l.length < N) (hb : l.length ≤ 9223372036854775806) {step : {R : Type} → List A × Int × Int × Unit → (List A × Int × Int × Unit → Option R) → (Unit ⊕ (Int × Unit) → Option R) → Option R}
    (hs : ∀ i kn kx, step (R := Int) (l, (l.length : Int), i, ()) kn kx = ifB (pLt i l.length) (bindO (idx l i) fun y => bindO (P y) fun b => ifB b (kx (.inr (i, ()))) (kn (l, (l.length : Int), pAdd .i64 i 1, ()))) (kx (.inl ())))
    (hP : ∀ x ∈ l, P x = some (!p x)) :
    (bindO (loopP (R := Int) step N (l, (l.length : Int), (0 : Int), ()) (onSum (fun _ => some (-1)) (fun d => let x43 := d.1; some x43))) fun y1 => some (pGe y1 0)) = some (!l.all p) := by
  have := find_loop (R := Int) (P := P) (p := fun a => !p a) (xs := l) hb (step := step) hs hP (onSum (fun _ => some (-1)) (fun d => let x43 := d.1; some x43)) _ 0 N rfl (by omega) (by omega)
  rw [List.drop_zero] at this
  rw [show (0 : Int) = ((0 : Nat) : Int) from rfl, this]
  have h := find_any (p := fun a => !p a) (xs := l)
  rw [← not_any (p := p)]
  cases hf : l.findIdx? (fun a => !p a) with
  | none =>
    rw [hf] at h
    have ha : l.any (fun a => !p a) = false := by
      cases ha : l.any (fun a => !p a) with
      | false => rfl
      | true => have := h.2 ha; simp at this
    rw [ha]; rfl
  | some j =>
    rw [hf] at h
    have ha : l.any (fun a => !p a) = true := h.1 (by simp)
    rw [ha]
    show (bindO (some ((0 + j : Nat) : Int)) fun y1 => some (pGe y1 0)) = _
    rw [bindO_s, pGe_t (by omega)]; rfl

theorem impl_PointsRight_eq (N : Nat) (l : List Int) (hl : l.length < N) (hb : l.length ≤ 9223372036854775806) : impl_PointsRight N l = some (ptsG l) := by
  unfold impl_PointsRight slices_ContainsFunc_Sint64_int64__impl_PointsRight_c1 slices_IndexFunc_Sint64_int64__impl_PointsRight_c1 ptsG
  rw [pLen_d, contains_all (P := impl_PointsRight_c1 N) (p := ptG) (step := fun {R} => slices_IndexFunc_Sint64_int64__impl_PointsRight_c1.l2 (R := R) N) hl hb (fun i kn kx => rfl) (fun x _ => by unfold impl_PointsRight_c1; rw [impl_isPoint_eq, bindO_s, pNot_d]), bindO_s]
  have e : pLe (l.length : Int) 300 = decide (l.length ≤ 300) := by rw [pLe_d]; congr 1; simp; omega
  rw [e, ifB_and, bindO_s, pNot_d]
  simp

end Go.AE.F
namespace Go.AE.F
open Go.AE
theorem same_self {R : Type} (a : Option R) : same a a = a := if_pos rfl

theorem clone_eq (N : Nat) (a : List Int) (h : a.length ≤ 68719476736) : slices_Clone_Sint64_int64 N a = some a := by
  unfold slices_Clone_Sint64_int64 slices_Clone_Sint64_int64.g
  rw [pFit_t (by simp; exact h), pLen_d]
  simp only [ifB_t]
  cases a with
  | nil =>
    rw [pEq_t (by simp), ifB_t]
    exact same_self _
  | cons x l =>
    rw [pEq_f (by simp; omega), ifB_f]
    rfl

theorem copy_eq (N : Nat) (a : List Int) (h : a.length ≤ 68719476736) : spec_l01Copy N a = some a := by
  unfold spec_l01Copy
  rw [pFit_t (by simp; exact h), ifB_t]
  rfl

end Go.AE.F
namespace Go.AE.F
open Go.AE
abbrev BufT := List Int × Int × Int × Unit

/-- a right buffer -/
def bufG (b : BufT) : Bool := ptsG b.1 && decide (0 ≤ b.2.1) && decide (b.2.1 ≤ b.1.length) && decide (0 ≤ b.2.2.1) && decide (b.2.2.1 ≤ b.1.length)

theorem bufG_iff {b : BufT} : bufG b = true ↔ ptsG b.1 = true ∧ 0 ≤ b.2.1 ∧ b.2.1 ≤ b.1.length ∧ 0 ≤ b.2.2.1 ∧ b.2.2.1 ≤ b.1.length := by
  unfold bufG
  simp only [Bool.and_eq_true, decide_eq_true_eq, and_assoc]

theorem ptsG_len {l : List Int} (h : ptsG l = true) : l.length ≤ 300 := by
  unfold ptsG at h
  simp only [Bool.and_eq_true, decide_eq_true_eq] at h
  exact h.1

theorem spec_BufRight_eq (N : Nat) (b : BufT) (hN : 301 < N) : spec_BufRight N b = some (bufG b) := by
  unfold spec_BufRight bufG
  rw [spec_PointsRight_eq N b.1 hN]
  simp only [bindO_s, ifB_and, pGe_d, pLe_d, pLen_d, ge_iff_le]

theorem impl_size_eq (N : Nat) (l : List Int) (h : l.length ≤ 9223372036854775807) : impl_size_Sint64 N l = some (l.length : Int) := by
  unfold impl_size_Sint64
  rw [pLen_d]
  first | done | rfl | (simp only [pConv]; rw [wrap_i64 (by omega) (by omega)])

theorem impl_BufRight_eq (N : Nat) (b : BufT) (hl : b.1.length < N) (hb : b.1.length ≤ 9223372036854775806) : impl_BufRight N b = some (bufG b) := by
  unfold impl_BufRight impl_Buf_isPlace bufG
  rw [impl_PointsRight_eq N b.1 hl hb]
  simp only [impl_size_eq N b.1 (by omega), impl_within_eq, bindO_s, ifB_and, Bool.and_assoc]

end Go.AE.F
namespace Go.AE.F
open Go.AE
theorem wrap_u64 (a : Int) : IntKind.u64.wrap a = a % 18446744073709551616 := rfl
theorem conv_u64 (a : Int) : 0 ≤ pConv .u64 a ∧ pConv .u64 a < 18446744073709551616 := by
  unfold pConv
  rw [wrap_u64]; omega

/-- where numbers are drawn from -/
abbrev SrcT := List Int × Int × Int × Int × Unit
def srcOk (s : SrcT) : Prop := s.1.length ≤ 1048576 ∧ 0 ≤ s.2.1 ∧ s.2.1 ≤ s.1.length ∧ 0 ≤ s.2.2.2.1 ∧ s.2.2.2.1 ≤ 12

theorem src_loop {N : Nat} {R : Type} (c : List Int) (hc : c.length ≤ 1048576) (k : List Int × SrcT × Unit → Option R) : ∀ (m i n : Nat) (st : Int), 64 - i = m → i ≤ 64 → m < n →
    ∃ st', loopP (spec_l01Source.l3 N) n (c, (i : Int), (c, (0, (st, (0, ())))), ()) k = k (c, (c, (0, (st', (0, ())))), ()) := by
  intro m
  induction m with
  | zero =>
    intro i n st hm hi hn
    obtain ⟨n, rfl⟩ := succ_of hn
    refine ⟨st, ?_⟩
    rw [loopP_s]
    unfold spec_l01Source.l3
    simp only []
    rw [ifB_and, bindO_s, pLt_f (a := (i : Int)) (b := 64) (by omega), Bool.and_false, ifB_f]
  | succ m ih =>
    intro i n st hm hi hn
    obtain ⟨n, rfl⟩ := succ_of hn
    rw [loopP_s]
    unfold spec_l01Source.l3
    simp only []
    rw [ifB_and, bindO_s, pLen_d]
    by_cases hl : i < c.length
    · rw [pLt_t (by omega), pLt_t (by omega), Bool.and_self, ifB_t, idx_lt hl, bindO_s, pAdd_i (by omega) (by omega)]
      exact ih (i + 1) n _ (by omega) (by omega) (by omega)
    · exact ⟨st, by rw [pLt_f (by omega), Bool.false_and, ifB_f]⟩

theorem source_ok (N : Nat) (c : List Int) (hc : c.length ≤ 1048576) (hN : 64 < N) : ∃ s, spec_l01Source N c = some s ∧ srcOk s := by
  unfold spec_l01Source
  obtain ⟨st, h⟩ := src_loop (N := N) c hc (fun d =>
    let x18 := d.1;
    let x19 := d.2.1;
    ifB (pEq 20 0) (
      none) (
      ifB (pGt (pQuo Go.IntKind.i64 (pLen x18) 20) 12) (
        some (x19.1, (x19.2.1, (x19.2.2.1, (12, x19.2.2.2.2))))) (
        some (x19.1, (x19.2.1, (x19.2.2.1, ((pQuo Go.IntKind.i64 (pLen x18) 20), x19.2.2.2.2))))))) _ 0 N 88172645463325252 rfl (by omega) (by omega)
  have hq : pQuo .i64 (pLen c) 20 = (c.length : Int) / 20 := IntWalk.i64_quo _ _ ⟨by rw [pLen_d]; omega, by rw [pLen_d]; omega, by omega⟩
  simp only [hq, show pEq 20 0 = false from rfl, ifB_f] at h
  by_cases hg : (c.length : Int) / 20 > 12
  · rw [pGt_t hg, ifB_t] at h
    exact ⟨_, h, hc, by simp, by simp, by simp, by simp⟩
  · rw [pGt_f (by omega), ifB_f] at h
    refine ⟨_, h, hc, by simp, by simp, ?_, ?_⟩
    · show (0 : Int) ≤ (c.length : Int) / 20
      omega
    · show (c.length : Int) / 20 ≤ 12
      omega

theorem n_ok (N : Nat) (s : SrcT) (k : Int) (hs : srcOk s) (hk : k ≤ 4611686018427387904) : ∃ v s', spec_l01Src_n N s k = some (v, s') ∧ srcOk s' ∧ 0 ≤ v ∧ (k ≤ 1 → v = 0) ∧ (1 < k → v < k) := by
  obtain ⟨h1, h2, h3, h4, h5⟩ := hs
  unfold spec_l01Src_n
  by_cases hk1 : k ≤ 1
  · rw [pLe_t hk1, ifB_t]
    exact ⟨0, s, rfl, ⟨h1, h2, h3, h4, h5⟩, by omega, fun _ => rfl, fun h => by omega⟩
  · have hc : pConv .u64 k = k := IntWalk.u64_in k ⟨by omega, by omega⟩
    have hr : ∀ x y : Int, 0 ≤ pConv .i64 (pRem (pAdd .u64 x y) k) ∧ pConv .i64 (pRem (pAdd .u64 x y) k) < k := fun x y => by
      have ⟨a, _⟩ := conv_u64 (x + y)
      have e : pRem (pAdd .u64 x y) k = (pAdd .u64 x y) % k := Int.tmod_eq_emod_of_nonneg a
      have b1 := Int.emod_nonneg (pAdd .u64 x y) (show k ≠ 0 by omega)
      have b2 := Int.emod_lt_of_pos (pAdd .u64 x y) (show 0 < k by omega)
      rw [e]
      have e2 : pConv .i64 (pAdd .u64 x y % k) = pAdd .u64 x y % k := wrap_i64 (by omega) (by omega)
      rw [e2]
      exact ⟨b1, b2⟩
    rw [pLe_f (by omega), ifB_f, hc]
    simp only [show pLt 13 0 = false from rfl, show pLt 7 0 = false from rfl, show pLt 17 0 = false from rfl, show pLt 20 0 = false from rfl, ifB_f, pEq_f (show k ≠ 0 by omega)]
    by_cases hp : s.2.1 < s.1.length
    · obtain ⟨p, hp'⟩ : ∃ p : Nat, s.2.1 = (p : Int) := ⟨s.2.1.toNat, by omega⟩
      have hlt : p < s.1.length := by omega
      have hi : idx s.1 s.2.1 = some s.1[p] := by rw [hp']; exact idx_lt hlt
      rw [pLen_d, pLt_t hp, ifB_t, hi, bindO_s]
      refine ⟨_, _, rfl, ⟨h1, ?_, ?_, h4, h5⟩, (hr _ _).1, fun h => by omega, fun _ => (hr _ _).2⟩
      · show 0 ≤ pAdd .i64 s.2.1 1
        rw [pAdd_i (by omega) (by omega)]; omega
      · show pAdd .i64 s.2.1 1 ≤ _
        rw [pAdd_i (by omega) (by omega)]
        show _ ≤ (s.1.length : Int)
        omega
    · rw [pLen_d, pLt_f (by omega), ifB_f]
      exact ⟨_, _, rfl, ⟨h1, h2, h3, h4, h5⟩, (hr _ _).1, fun h => by omega, fun _ => (hr _ _).2⟩

theorem one_ok (N : Nat) (s : SrcT) (k : Int) (hs : srcOk s) (hk : k ≤ 4611686018427387904) : ∃ b s', spec_l01Src_one N s k = some (b, s') ∧ srcOk s' := by
  obtain ⟨v, s', h, hs', _⟩ := n_ok N s k hs hk
  exact ⟨_, s', by unfold spec_l01Src_one; rw [h, bindO_s], hs'⟩

end Go.AE.F
namespace Go.AE.F
open Go.AE
set_option maxRecDepth 100000
theorem lwSame_eq (N : Nat) (a b : List Int) (ha : a.length ≤ 9223372036854775806) (hN : a.length < N) : laws_lwSame N a b = some (decide (a = b)) := by
  unfold laws_lwSame
  simp only [pLen_d]
  by_cases hl : a.length = b.length
  · rw [pNe_f (by omega), ifB_f]
    obtain ⟨h1, h2⟩ := eq_loop (R := Bool) (P := fun x y => some (pNe x y)) (xs := a) (ys := b) ha hl (step := laws_lwSame.l4 N) (fun i kn kx => by simp only [laws_lwSame.l4, bindO_s, pLen_d])
      (fun x _ y _ => ⟨_, rfl, by rw [pNe_d]; simp⟩) (onSum (fun _ => some true) (fun d => let x43 := d.1; some x43)) _ 0 N rfl (by omega) (by omega)
    rw [List.drop_zero, List.drop_zero] at h1 h2
    by_cases he : a = b
    · rw [decide_eq_true he]; exact h1 he
    · rw [decide_eq_false he]; exact h2 he
  · rw [pNe_t (by omega), ifB_t, decide_eq_false (fun h => hl (by rw [h]))]

end Go.AE.F
namespace Go.AE.F
open Go.AE
/-- it comes to something of which P holds -/
def Tot {A : Type} (P : A → Prop) (o : Option A) : Prop := ∃ x, o = some x ∧ P x
theorem Tot.bind {A B : Type} {P : A → Prop} {Q : B → Prop} {o : Option A} {f : A → Option B} (h : Tot P o) (k : ∀ x, P x → Tot Q (f x)) : Tot Q (bindO o f) := by
  obtain ⟨x, h1, h2⟩ := h
  rw [h1, bindO_s]; exact k x h2
theorem Tot.ite {A : Type} {P : A → Prop} {c : Bool} {a b : Option A} (h1 : c = true → Tot P a) (h2 : c = false → Tot P b) : Tot P (ifB c a b) := by
  cases c with
  | true => exact h1 rfl
  | false => exact h2 rfl
theorem Tot.both {A : Type} {P : A → Prop} {c : Bool} {a b : Option A} (h1 : Tot P a) (h2 : Tot P b) : Tot P (ifB c a b) := Tot.ite (fun _ => h1) (fun _ => h2)
theorem Tot.ret {A : Type} {P : A → Prop} {x : A} (h : P x) : Tot P (some x) := ⟨x, rfl, h⟩
theorem Tot.fit {A B : Type} {P : B → Prop} {xs ys : List A} {a : Option B} (h : xs.length + ys.length ≤ 68719476736) (h1 : Tot P a) : Tot P (ifB (pFit xs ys) a none) := by rw [pFit_t h]; exact h1

theorem nT (N : Nat) (s : SrcT) (k : Int) (hs : srcOk s) (hk : k ≤ 4611686018427387904) : Tot (fun r : Int × SrcT => srcOk r.2 ∧ 0 ≤ r.1 ∧ (k ≤ 1 → r.1 = 0) ∧ (1 < k → r.1 < k)) (spec_l01Src_n N s k) := by
  obtain ⟨v, s', h, h1, h2, h3, h4⟩ := n_ok N s k hs hk
  exact ⟨(v, s'), h, h1, h2, h3, h4⟩
theorem oneT (N : Nat) (s : SrcT) (k : Int) (hs : srcOk s) (hk : k ≤ 4611686018427387904) : Tot (fun r : Bool × SrcT => srcOk r.2) (spec_l01Src_one N s k) := by
  obtain ⟨v, s', h, h1⟩ := one_ok N s k hs hk
  exact ⟨(v, s'), h, h1⟩
theorem idxT {A : Type} (l : List A) (i : Int) (h0 : 0 ≤ i) (h1 : i < l.length) : Tot (fun x => x ∈ l) (idx l i) := by
  obtain ⟨p, rfl⟩ : ∃ p : Nat, i = (p : Int) := ⟨i.toNat, by omega⟩
  exact ⟨_, idx_lt (by omega), List.getElem_mem _⟩

theorem point_tot (N : Nat) (s : SrcT) (hs : srcOk s) : Tot (fun r : Int × SrcT => srcOk r.2) (spec_l01Src_point N s) := by
  unfold spec_l01Src_point
  refine Tot.bind (nT N s 14 hs (by omega)) fun r h => ?_
  refine Tot.both (Tot.ret h.1) (Tot.both (Tot.ret h.1) (Tot.both ?_ (Tot.both ?_ (Tot.both ?_ (Tot.both ?_ (Tot.both ?_ ?_))))))
  · refine Tot.bind (nT N _ 5 h.1 (by omega)) fun q hq => ?_
    have := hq.2.2.2 (by omega)
    exact Tot.bind (idxT _ _ hq.2.1 (by simp; omega)) fun _ _ => Tot.bind (idxT _ _ hq.2.1 (by simp; omega)) fun _ _ => Tot.ret hq.1
  · refine Tot.bind (nT N _ 20 h.1 (by omega)) fun q hq => ?_
    have := hq.2.2.2 (by omega)
    exact Tot.bind (idxT _ _ hq.2.1 (by simp; omega)) fun _ _ => Tot.bind (idxT _ _ hq.2.1 (by simp; omega)) fun _ _ => Tot.ret hq.1
  · refine Tot.bind (nT N _ 8 h.1 (by omega)) fun q hq => ?_
    have := hq.2.2.2 (by omega)
    exact Tot.bind (idxT _ _ hq.2.1 (by simp; omega)) fun _ _ => Tot.bind (idxT _ _ hq.2.1 (by simp; omega)) fun _ _ => Tot.ret hq.1
  · refine Tot.bind (nT N _ 5 h.1 (by omega)) fun q hq => ?_
    have := hq.2.2.2 (by omega)
    exact Tot.bind (idxT _ _ hq.2.1 (by simp; omega)) fun _ _ => Tot.bind (idxT _ _ hq.2.1 (by simp; omega)) fun _ _ => Tot.ret hq.1
  · exact Tot.bind (nT N _ 10 h.1 (by omega)) fun q hq => Tot.ret hq.1
  · exact Tot.bind (nT N _ 6 h.1 (by omega)) fun q hq => Tot.ret hq.1

theorem dpoints_loop {N : Nat} {R : Type} (k : SrcT × List Int × Unit → Option R) : ∀ (m n : Nat) (s : SrcT) (out : List Int), m < n → srcOk s → out.length + m ≤ 100000 →
    ∃ s' l, loopP (spec_l01Src_points.l2 N) n ((m : Int), s, out, ()) k = k (s', l, ()) ∧ srcOk s' ∧ l.length ≤ out.length + m := by
  intro m
  induction m with
  | zero =>
    intro n s out hn hs ho
    obtain ⟨n, rfl⟩ := succ_of hn
    refine ⟨s, out, ?_, hs, by omega⟩
    rw [loopP_s]; unfold spec_l01Src_points.l2; simp only []
    rw [pGt_f (by omega), ifB_f]
  | succ m ih =>
    intro n s out hn hs ho
    obtain ⟨n, rfl⟩ := succ_of hn
    obtain ⟨⟨p, s1⟩, h1, hs1⟩ := point_tot N s hs
    have e : pSub .i64 ((m + 1 : Nat) : Int) 1 = (m : Int) := by rw [pSub_i (by omega) (by omega)]; omega
    rw [loopP_s]; unfold spec_l01Src_points.l2; simp only []
    rw [pGt_t (by omega), ifB_t, h1, bindO_s]
    simp only []
    rw [pFit_t (by simp; omega), ifB_t, e]
    obtain ⟨s2, l, g1, g2, g3⟩ := ih n s1 (pApp out [p]) (by omega) hs1 (by simp [pApp]; omega)
    exact ⟨s2, l, g1, g2, by simp [pApp] at g3; omega⟩

theorem dpoints_tot (N : Nat) (s : SrcT) (k : Int) (hs : srcOk s) (h0 : 0 ≤ k) (hk : k ≤ 100000) (hN : 100001 < N) : Tot (fun r : List Int × SrcT => srcOk r.2 ∧ (r.1.length : Int) ≤ k) (spec_l01Src_points N s k) := by
  obtain ⟨p, rfl⟩ : ∃ p : Nat, k = (p : Int) := ⟨k.toNat, by omega⟩
  unfold spec_l01Src_points
  obtain ⟨s', l, g1, g2, g3⟩ := dpoints_loop (N := N) (fun d =>
    let x17 := d.1;
    let x18 := d.2.1;
    some (x18, x17)) p N s [] (by omega) hs (by simp; omega)
  exact ⟨(l, s'), g1, g2, by simp at g3; show (l.length : Int) ≤ p; omega⟩

end Go.AE.F
namespace Go.AE.F
open Go.AE
set_option maxRecDepth 100000
def itemG (x : List Int) : Bool := decide (0 < x.length) && ptsG x
theorem items_loop {N : Nat} {R : Type} (hN : 301 < N) (l : List (List Int)) (hl : l.length ≤ 30) (k : Unit ⊕ (Bool × Unit) → Option R) : ∀ (m i n : Nat), l.length - i = m → i ≤ l.length → m < n →
    loopP (spec_l04Items.l4 N) n (l, (i : Int), ()) k = if (l.drop i).all itemG = true then k (.inl ()) else k (.inr (false, ())) := by
  intro m
  induction m with
  | zero =>
    intro i n hm hi hn
    obtain ⟨n, rfl⟩ := succ_of hn
    rw [loopP_s]; unfold spec_l04Items.l4; simp only [pLen_d]
    rw [pLt_f (by omega), ifB_f, List.drop_eq_nil_of_le (by omega)]
    rfl
  | succ m ih =>
    intro i n hm hi hn
    obtain ⟨n, rfl⟩ := succ_of hn
    have hlt : i < l.length := by omega
    rw [loopP_s]; unfold spec_l04Items.l4; simp only [pLen_d]
    rw [pLt_t (by omega), ifB_t]
    rw [idx_lt hlt, bindO_s, bindO_s, spec_PointsRight_eq N l[i] hN, bindO_s, ifB_or, bindO_s, drop_c hlt, List.all_cons]
    have e : (pEq (l[i].length : Int) 0 || pNot (ptsG l[i])) = !itemG l[i] := by
      unfold itemG
      rw [pNot_d, pEq_d]
      by_cases h : l[i].length = 0
      · rw [decide_eq_true (show (l[i].length : Int) = 0 by omega), decide_eq_false (show ¬ 0 < l[i].length by omega)]; rfl
      · rw [decide_eq_false (show ¬ (l[i].length : Int) = 0 by omega), decide_eq_true (show 0 < l[i].length by omega)]; simp
    rw [e]
    cases hp : itemG l[i] with
    | false => simp [ifB_t]
    | true =>
      rw [Bool.not_true, ifB_f, pAdd_i (by omega) (by omega), Bool.true_and]
      exact ih (i + 1) n (by omega) (by omega) (by omega)

theorem impl_items (N : Nat) (l : List (List Int)) (hl : l.length < N) (hb : l.length ≤ 9223372036854775806) (hx : ∀ x ∈ l, x.length < N ∧ x.length ≤ 9223372036854775806) : impl_areItems N l = some (l.all itemG) := by
  unfold impl_areItems slices_ContainsFunc_S_Sint64__Sint64__impl_areItems_c1 slices_IndexFunc_S_Sint64__Sint64__impl_areItems_c1
  rw [pLen_d, contains_all (P := impl_areItems_c1 N) (p := itemG) (step := fun {R} => slices_IndexFunc_S_Sint64__Sint64__impl_areItems_c1.l2 (R := R) N) hl hb (fun i kn kx => rfl) (fun x h => by
    unfold impl_areItems_c1 impl_isItem
    rw [impl_PointsRight_eq N x (hx x h).1 (hx x h).2, bindO_s, ifB_and, bindO_s, bindO_s, pNot_d]
    have : pGt (pLen x) 0 = decide (0 < x.length) := by rw [pLen_d, pGt_d]; congr 1; simp
    rw [this]
    rfl), bindO_s]
  simp only [pNot_d, Bool.not_not]

theorem own_loop {N : Nat} {R : Type} (l : List (List Int)) (hl : l.length ≤ 1048576) (hx : ∀ x ∈ l, x.length ≤ 68719476736) (k : List (List Int) × Unit → Option R) : ∀ (m i n : Nat), l.length - i = m → i ≤ l.length → m < n →
    loopP (impl_ownLists.l3 N) n (l, (l.length : Int), (i : Int), l.take i, ()) k = k (l, ()) := by
  intro m
  induction m with
  | zero =>
    intro i n hm hi hn
    obtain ⟨n, rfl⟩ := succ_of hn
    rw [loopP_s]; unfold impl_ownLists.l3; simp only []
    rw [pLt_f (by omega), ifB_f, List.take_of_length_le (by omega)]
  | succ m ih =>
    intro i n hm hi hn
    obtain ⟨n, rfl⟩ := succ_of hn
    have hlt : i < l.length := by omega
    rw [loopP_s]; unfold impl_ownLists.l3; simp only []
    rw [pLt_t (by omega), ifB_t, idx_lt hlt, bindO_s, clone_eq N _ (hx _ (List.getElem_mem hlt)), bindO_s, pFit_t (by simp; omega), ifB_t, pAdd_i (by omega) (by omega)]
    have e : pApp (l.take i) [l[i]] = l.take (i + 1) := by rw [List.take_succ_eq_append_getElem hlt]; rfl
    rw [e]
    exact ih (i + 1) n (by omega) (by omega) (by omega)

end Go.AE.F
namespace Go.AE.F
open Go.AE
def shortB (r : BufT × SrcT) : Prop := srcOk r.2 ∧ r.1.1.length ≤ 1000

theorem btail_tot (N : Nat) (l : List Int) (hl : l.length ≤ 400) (s : SrcT) (hs : srcOk s) : Tot shortB (
    bindO (spec_l01Src_n N s (pAdd Go.IntKind.i64 (pLen l) 1)) fun y40 =>
    bindO (spec_l01Src_n N y40.2 (pAdd Go.IntKind.i64 (pLen l) 1)) fun y41 =>
    bindO (spec_l01Src_one N y41.2 15) fun y42 =>
    ifB y42.1 (
      bindO (spec_l01Src_n N y42.2 3) fun y43 =>
      ifB (pEq y43.1 0) (
        bindO (spec_l01Src_n N y43.2 2) fun y44 =>
        bindO (idx ([(-1), (pAdd Go.IntKind.i64 (pLen l) 1)]) y44.1) fun y45 =>
        bindO (idx ([(-1), (pAdd Go.IntKind.i64 (pLen l) 1)]) y44.1) fun y46 =>
        some ((l, (y46, (y41.1, ()))), y44.2)) (
        ifB (pEq y43.1 1) (
          bindO (spec_l01Src_n N y43.2 2) fun y47 =>
          bindO (idx ([(-1), (pAdd Go.IntKind.i64 (pLen l) 1)]) y47.1) fun y48 =>
          bindO (idx ([(-1), (pAdd Go.IntKind.i64 (pLen l) 1)]) y47.1) fun y49 =>
          some ((l, (y40.1, (y49, ()))), y47.2)) (
          ifB (pFit l [55296]) (
            some (((pApp l [55296]), (y40.1, (y41.1, ()))), y43.2)) (
            none)))) (
      some ((l, (y40.1, (y41.1, ()))), y42.2))) := by
  have e : pAdd .i64 (pLen l) 1 = (l.length : Int) + 1 := by rw [pLen_d, pAdd_i (by omega) (by omega)]
  rw [e]
  refine Tot.bind (nT N s _ hs (by omega)) fun a ha => ?_
  refine Tot.bind (nT N _ _ ha.1 (by omega)) fun b hb => ?_
  refine Tot.bind (oneT N _ 15 hb.1 (by omega)) fun o ho => ?_
  have hlen : l.length ≤ 1000 := by omega
  refine Tot.both ?_ (Tot.ret ⟨ho, hlen⟩)
  refine Tot.bind (nT N _ 3 ho (by omega)) fun u hu => ?_
  refine Tot.both ?_ (Tot.both ?_ ?_)
  · refine Tot.bind (nT N _ 2 hu.1 (by omega)) fun w hw => ?_
    have hw2 := hw.2.2.2 (by omega)
    exact Tot.bind (idxT _ _ hw.2.1 (by simp; omega)) fun _ _ => Tot.bind (idxT _ _ hw.2.1 (by simp; omega)) fun _ _ => Tot.ret ⟨hw.1, hlen⟩
  · refine Tot.bind (nT N _ 2 hu.1 (by omega)) fun w hw => ?_
    have hw2 := hw.2.2.2 (by omega)
    exact Tot.bind (idxT _ _ hw.2.1 (by simp; omega)) fun _ _ => Tot.bind (idxT _ _ hw.2.1 (by simp; omega)) fun _ _ => Tot.ret ⟨hw.1, hlen⟩
  · exact Tot.fit (by simp; omega) (Tot.ret ⟨hu.1, by show (pApp l [55296]).length ≤ 1000; simp [pApp]; omega⟩)

theorem dbuf_tot (N : Nat) (hN : 100001 < N) (s : SrcT) (hs : srcOk s) : Tot shortB (spec_l01Src_l02Buf N s) := by
  unfold spec_l01Src_l02Buf
  have hz := hs.2.2.2
  have e1 : pMul .i64 2 s.2.2.2.1 = 2 * s.2.2.2.1 := wrap_i64 (by omega) (by omega)
  rw [e1, pAdd_i (a := 14) (by omega) (by omega)]
  refine Tot.bind (nT N s _ hs (by omega)) fun v hv => ?_
  have hv2 := hv.2.2.2 (by omega)
  refine Tot.bind (dpoints_tot N _ _ hv.1 hv.2.1 (by omega) hN) fun p hp => ?_
  have hpl := hp.2
  refine Tot.bind (oneT N _ 50 hp.1 (by omega)) fun o ho => ?_
  refine Tot.both ?_ ?_
  · refine Tot.bind (nT N _ 4 ho (by omega)) fun w hw => ?_
    have hw2 := hw.2.2.2 (by omega)
    have hw0 := hw.2.1
    have e2 : pAdd .i64 298 w.1 = 298 + w.1 := pAdd_i (by omega) (by omega)
    rw [e2]
    refine Tot.bind (dpoints_tot N _ _ hw.1 (by omega) (by omega) hN) fun q hq => ?_
    have hql := hq.2
    exact btail_tot N q.1 (by omega) q.2 hq.1
  · exact btail_tot N p.1 (by omega) o.2 ho

theorem lwSame_self (N : Nat) (l : List Int) (h : l.length ≤ 1000) (hN : 2000 < N) : laws_lwSame N l l = some true := by rw [lwSame_eq N l l (by omega) (by omega), decide_eq_true rfl]

end Go.AE.F
namespace Go.AE.F
open Go.AE
abbrev OutT := BufT × List Int × Int × Unit

/-- where a place stands after points from a up to b have been replaced by d more -/
def mvG (p a b d : Int) : Int := if p ≤ a then p else if p < b then a else p + d
def failG (c : Int) : OutT := (([], (0, (0, ()))), ([], (c, ())))
/-- what replacing comes to -/
def replG (b : BufT) (i j : Int) (ps : List Int) : OutT :=
  if i < 0 ∨ j < i ∨ (b.1.length : Int) < j then failG 8 else
  if 300 < (b.1.length : Int) - (j - i) + ps.length then failG 5 else
  ((sub b.1 0 i ++ ps ++ sub b.1 j b.1.length, ((if i = j ∧ b.2.1 = i then i + ps.length else mvG b.2.1 i j (ps.length - (j - i))), (mvG b.2.2.1 i j (ps.length - (j - i)), ()))), (sub b.1 i j, (0, ())))

theorem spec_moved_eq (N : Nat) (p a b d : Int) (h1 : -4611686018427387904 ≤ p + d) (h2 : p + d ≤ 4611686018427387904) : spec_l02Moved N p a b d = some (mvG p a b d) := by
  unfold spec_l02Moved mvG
  by_cases e1 : p ≤ a
  · rw [pLe_t e1, ifB_t, if_pos e1]
  · rw [pLe_f (by omega), ifB_f, if_neg e1]
    by_cases e2 : p < b
    · rw [pLt_t e2, ifB_t, if_pos e2]
    · rw [pLt_f (by omega), ifB_f, if_neg e2, pAdd_i (by omega) (by omega)]

theorem impl_moved_eq (N : Nat) (p a b d : Int) (h1 : -4611686018427387904 ≤ p + d) (h2 : p + d ≤ 4611686018427387904) : impl_replace_c1 N p a b d = some (mvG p a b d) := by
  unfold impl_replace_c1 mvG
  by_cases e1 : p ≤ a
  · rw [pLe_t e1, ifB_t, if_pos e1]
  · rw [pLe_f (by omega), ifB_f, if_neg e1]
    by_cases e2 : p < b
    · rw [pLt_t e2, ifB_t, if_pos e2]
    · rw [pLt_f (by omega), ifB_f, if_neg e2, pAdd_i (by omega) (by omega)]

theorem sub_len {A : Type} (x : List A) (i j : Int) (h0 : 0 ≤ i) (h1 : i ≤ j) (h2 : j ≤ x.length) : ((sub x i j).length : Int) = j - i := by
  unfold sub
  simp only [List.length_drop, List.length_take]
  omega

theorem grow_eq (N : Nat) (n : Int) (h0 : 0 ≤ n) (h1 : n ≤ 68719476736) : slices_Grow_Sint64_int64 N [] n = some [] := by
  unfold slices_Grow_Sint64_int64
  simp only [pLen_d, List.length_nil]
  rw [pLt_f (by omega), ifB_f]
  have e : pSub .i64 n (pSub .i64 0 ((0 : Nat) : Int)) = n := by
    rw [pSub_i (a := 0) (by omega) (by omega), pSub_i (by omega) (by omega)]; omega
  rw [e]
  by_cases h : n > 0
  · rw [pGt_t h, ifB_t, pEq_t rfl, ifB_t, ifB_t, pLe_t h0, ifB_t, pLe_t h1, ifB_t, pLe_t (Int.le_refl _), ifB_t, pLe_t (by omega), ifB_t, pLe_t (by omega), ifB_t]
    rfl
  · rw [pGt_f (by omega), ifB_f]

theorem concat3_eq (N : Nat) (x y z : List Int) (h : x.length + y.length + z.length ≤ 100000) (hN : 4 ≤ N) : slices_Concat_Sint64_int64 N [x, y, z] = some (x ++ y ++ z) := by
  obtain ⟨M, rfl⟩ : ∃ M, N = M + 4 := ⟨N - 4, by omega⟩
  unfold slices_Concat_Sint64_int64
  have i0 : idx [x, y, z] 0 = some x := rfl
  have i1 : idx [x, y, z] (0 + 1) = some y := rfl
  have i2 : idx [x, y, z] (0 + 1 + 1) = some z := rfl
  have l3 : pLen [x, y, z] = 3 := rfl
  simp only [loopP_s, slices_Concat_Sint64_int64.l3, slices_Concat_Sint64_int64.l11, l3]
  have a1 : pAdd .i64 0 (1 : Int) = 0 + 1 := rfl
  have a2 : pAdd .i64 (0 + 1) (1 : Int) = 0 + 1 + 1 := rfl
  have a3 : pAdd .i64 (0 + 1 + 1) (1 : Int) = 3 := rfl
  have b1 : pLt 0 3 = true := rfl
  have b2 : pLt (0 + 1) 3 = true := rfl
  have b3 : pLt (0 + 1 + 1) 3 = true := rfl
  have b4 : pLt 3 3 = false := rfl
  have s1 : pAdd .i64 0 (pLen x) = x.length := by rw [pLen_d, pAdd_i (by omega) (by omega)]; omega
  have s2 : pAdd .i64 (x.length : Int) (pLen y) = x.length + y.length := by rw [pLen_d, pAdd_i (by omega) (by omega)]
  have s3 : pAdd .i64 ((x.length : Int) + y.length) (pLen z) = x.length + y.length + z.length := by rw [pLen_d, pAdd_i (by omega) (by omega)]
  have p1 : pLt (x.length : Int) 0 = false := pLt_f (by omega)
  have p2 : pLt ((x.length : Int) + y.length) 0 = false := pLt_f (by omega)
  have p3 : pLt ((x.length : Int) + y.length + z.length) 0 = false := pLt_f (by omega)
  have g : slices_Grow_Sint64_int64 (M + 4) [] ((x.length : Int) + y.length + z.length) = some [] := grow_eq _ _ (by omega) (by omega)
  have f1 : pFit ([] : List Int) x = true := pFit_t (by simp; omega)
  have f2 : pFit (pApp [] x) y = true := pFit_t (by simp [pApp]; omega)
  have f3 : pFit (pApp (pApp [] x) y) z = true := pFit_t (by simp [pApp]; omega)
  simp only [b1, ifB_t, i0, bindO_s, s1, p1, ifB_f, a1, b2, i1, s2, p2, a2, b3, i2, s3, p3, a3, b4, g, f1, f2, f3]
  rfl

/-- replacing, as the program does it -/
theorem impl_replace_eq (N : Nat) (b : BufT) (i j : Int) (ps : List Int) (hb : bufG b = true) (hp : ps.length ≤ 4000) (hi : -4611686018427387904 ≤ i ∧ i ≤ 4611686018427387904) (hj : -4611686018427387904 ≤ j ∧ j ≤ 4611686018427387904) (hN : 4 ≤ N) :
    impl_replace N b i j ps = some (replG b i j ps) := by
  obtain ⟨h1, h2, h3, h4, h5⟩ := bufG_iff.1 hb
  have hl := ptsG_len h1
  unfold impl_replace replG
  rw [impl_size_eq N b.1 (by omega), impl_size_eq N ps (by omega)]
  simp only [bindO_s]
  by_cases e1 : i < 0
  · rw [pLt_t e1, ifB_t, if_pos (Or.inl e1)]; rfl
  rw [pLt_f (by omega), ifB_f]
  by_cases e2 : j < i
  · rw [pGt_t e2, ifB_t, if_pos (Or.inr (Or.inl e2))]; rfl
  rw [pGt_f (by omega), ifB_f]
  by_cases e3 : (b.1.length : Int) < j
  · rw [pGt_t e3, ifB_t, if_pos (Or.inr (Or.inr e3))]; rfl
  rw [pGt_f (by omega), ifB_f, if_neg (by omega)]
  have d1 : pSub .i64 j i = j - i := pSub_i (by omega) (by omega)
  have d2 : pSub .i64 (ps.length : Int) (j - i) = ps.length - (j - i) := pSub_i (by omega) (by omega)
  have d3 : pAdd .i64 (b.1.length : Int) (ps.length - (j - i)) = b.1.length + (ps.length - (j - i)) := pAdd_i (by omega) (by omega)
  rw [d1, d2, d3]
  by_cases e4 : 300 < (b.1.length : Int) - (j - i) + ps.length
  · rw [pGt_t (by omega), ifB_t, if_pos e4]; rfl
  rw [pGt_f (by omega), ifB_f, if_neg e4]
  simp only [pLen_d]
  have l1 := sub_len b.1 0 i (by omega) (by omega) (by omega)
  have l2 := sub_len b.1 j b.1.length (by omega) (by omega) (by omega)
  have l3 := sub_len b.1 i j (by omega) (by omega) (by omega)
  have q1 : pLe 0 0 = true := rfl
  have q2 : pLe 0 i = true := pLe_t (by omega)
  have q3 : pLe i (b.1.length : Int) = true := pLe_t (by omega)
  have q4 : pLe 0 j = true := pLe_t (by omega)
  have q5 : pLe j (b.1.length : Int) = true := pLe_t (by omega)
  have q6 : pLe (b.1.length : Int) (b.1.length : Int) = true := pLe_t (Int.le_refl _)
  have q7 : pLe i j = true := pLe_t (by omega)
  have c := concat3_eq N (sub b.1 0 i) ps (sub b.1 j b.1.length) (by omega) hN
  have k := clone_eq N (sub b.1 i j) (by omega)
  have m1 := impl_moved_eq N b.2.1 i j (ps.length - (j - i)) (by omega) (by omega)
  have m2 := impl_moved_eq N b.2.2.1 i j (ps.length - (j - i)) (by omega) (by omega)
  have a1 : pAdd .i64 i (ps.length : Int) = i + ps.length := pAdd_i (by omega) (by omega)
  simp only [q1, q2, q3, q4, q5, q6, q7, ifB_t, c, k, m1, m2, bindO_s, a1]
  by_cases e5 : i = j
  · by_cases e6 : b.2.1 = i
    · rw [pEq_t e5, ifB_t, bindO_s, pEq_t e6, ifB_t, if_pos ⟨e5, e6⟩]
    · rw [pEq_t e5, ifB_t, bindO_s, pEq_f e6, ifB_f, if_neg (fun h => e6 h.2)]
  · rw [pEq_f e5, ifB_f, bindO_s, ifB_f, if_neg (fun h => e5 h.1)]

/-- replacing, as the reference tells it -/
theorem spec_Replace_eq (N : Nat) (b : BufT) (i j : Int) (ps : List Int) (hb : bufG b = true) (hp : ptsG ps = true) (hi : -4611686018427387904 ≤ i ∧ i ≤ 4611686018427387904) (hj : -4611686018427387904 ≤ j ∧ j ≤ 4611686018427387904) (hN : 301 < N) :
    spec_BufReplace N b i j ps = some (replG b i j ps) := by
  obtain ⟨h1, h2, h3, h4, h5⟩ := bufG_iff.1 hb
  have hl := ptsG_len h1
  have hpl := ptsG_len hp
  unfold spec_BufReplace replG
  rw [spec_BufRight_eq N b hN, spec_PointsRight_eq N ps hN, hb, hp]
  have n1 : pNot true = false := rfl
  have g1 : pGt (ps.length : Int) 400 = false := pGt_f (by omega)
  simp only [pLen_d, bindO_s, n1, ifB_f, g1]
  by_cases e1 : i < 0
  · rw [pLt_t e1, ifB_t, bindO_s, ifB_t, bindO_s, ifB_t, if_pos (Or.inl e1)]; rfl
  rw [pLt_f (by omega), ifB_f, bindO_s]
  by_cases e2 : j < i
  · rw [pGt_t e2, ifB_t, bindO_s, ifB_t, if_pos (Or.inr (Or.inl e2))]; rfl
  rw [pGt_f (by omega), ifB_f, bindO_s]
  by_cases e3 : (b.1.length : Int) < j
  · rw [pGt_t e3, ifB_t, if_pos (Or.inr (Or.inr e3))]; rfl
  rw [pGt_f (a := j) (by omega), ifB_f, if_neg (by omega)]
  have d1 : pSub .i64 j i = j - i := pSub_i (by omega) (by omega)
  have d2 : pSub .i64 (ps.length : Int) (j - i) = ps.length - (j - i) := pSub_i (by omega) (by omega)
  have d3 : pSub .i64 (b.1.length : Int) (j - i) = b.1.length - (j - i) := pSub_i (by omega) (by omega)
  have d4 : pAdd .i64 ((b.1.length : Int) - (j - i)) ps.length = b.1.length - (j - i) + ps.length := pAdd_i (by omega) (by omega)
  rw [d1, d2, d3, d4]
  by_cases e4 : 300 < (b.1.length : Int) - (j - i) + ps.length
  · rw [pGt_t (by omega), ifB_t, if_pos e4]; rfl
  rw [pGt_f (by omega), ifB_f, if_neg e4]
  have l1 := sub_len b.1 0 i (by omega) (by omega) (by omega)
  have l2 := sub_len b.1 j b.1.length (by omega) (by omega) (by omega)
  have l3 := sub_len b.1 i j (by omega) (by omega) (by omega)
  have q1 : pLe 0 0 = true := rfl
  have q2 : pLe 0 i = true := pLe_t (by omega)
  have q3 : pLe i (b.1.length : Int) = true := pLe_t (by omega)
  have q4 : pLe 0 j = true := pLe_t (by omega)
  have q5 : pLe j (b.1.length : Int) = true := pLe_t (by omega)
  have q6 : pLe (b.1.length : Int) (b.1.length : Int) = true := pLe_t (Int.le_refl _)
  have q7 : pLe i j = true := pLe_t (by omega)
  have c := copy_eq N (sub b.1 0 i) (by omega)
  have k := copy_eq N (sub b.1 i j) (by omega)
  have m1 := spec_moved_eq N b.2.1 i j (ps.length - (j - i)) (by omega) (by omega)
  have m2 := spec_moved_eq N b.2.2.1 i j (ps.length - (j - i)) (by omega) (by omega)
  have a1 : pAdd .i64 i (ps.length : Int) = i + ps.length := pAdd_i (by omega) (by omega)
  have f1 : pFit (sub b.1 0 i) ps = true := pFit_t (by omega)
  have f2 : pFit (pApp (sub b.1 0 i) ps) (sub b.1 j b.1.length) = true := pFit_t (by simp only [pApp, List.length_append]; omega)
  simp only [q1, q2, q3, q4, q5, q6, q7, ifB_t, c, k, m1, m2, bindO_s, a1, f1, f2]
  by_cases e5 : i = j
  · by_cases e6 : b.2.1 = i
    · rw [pEq_t e5, ifB_t, bindO_s, pEq_t e6, ifB_t, if_pos ⟨e5, e6⟩]; rfl
    · rw [pEq_t e5, ifB_t, bindO_s, pEq_f e6, ifB_f, if_neg (fun h => e6 h.2)]; rfl
  · rw [pEq_f e5, ifB_f, bindO_s, ifB_f, if_neg (fun h => e5 h.1)]; rfl

theorem ptsG_sub {x y : List Int} (h : ptsG x = true) (hs : y.Sublist x) : ptsG y = true := by
  unfold ptsG at h ⊢
  simp only [Bool.and_eq_true, decide_eq_true_eq, List.all_eq_true] at h ⊢
  exact ⟨Nat.le_trans hs.length_le h.1, fun a ha => h.2 a (hs.subset ha)⟩

end Go.AE.F
namespace Go.AE.F
open Go.AE
theorem replG_ok {b : BufT} {ps : List Int} (hb : bufG b = true) (hp : ptsG ps = true) (h0 : (replG b b.2.1 b.2.1 ps).2.2.1 = 0) :
    replG b b.2.1 b.2.1 ps = ((b.1.take b.2.1.toNat ++ ps ++ b.1.drop b.2.1.toNat, (((b.2.1.toNat + ps.length : Nat) : Int), (mvG b.2.2.1 b.2.1 b.2.1 ps.length, ()))), ([], (0, ()))) ∧ b.1.length + ps.length ≤ 300 := by
  obtain ⟨h1, h2, h3, h4, h5⟩ := bufG_iff.1 hb
  have hl := ptsG_len h1
  unfold replG at h0 ⊢
  rw [if_neg (by omega)] at h0 ⊢
  by_cases h : 300 < (b.1.length : Int) - (b.2.1 - b.2.1) + ps.length
  · rw [if_pos h] at h0; exact absurd h0 (by simp [failG])
  · rw [if_neg h, if_pos ⟨rfl, rfl⟩]
    refine ⟨?_, by omega⟩
    have e1 : sub b.1 0 b.2.1 = b.1.take b.2.1.toNat := by unfold sub; rfl
    have e2 : sub b.1 b.2.1 (b.1.length : Int) = b.1.drop b.2.1.toNat := by unfold sub; simp
    have e3 : sub b.1 b.2.1 b.2.1 = [] := by unfold sub; simp
    have e4 : (b.2.1 : Int) + ps.length = ((b.2.1.toNat + ps.length : Nat) : Int) := by omega
    have e5 : (ps.length : Int) - (b.2.1 - b.2.1) = ps.length := by omega
    rw [e1, e2, e3, e4, e5]

theorem ptsG_app {x y : List Int} (hx : ptsG x = true) (hy : ptsG y = true) (hl : x.length + y.length ≤ 300) : ptsG (x ++ y) = true := by
  unfold ptsG at hx hy ⊢
  simp only [Bool.and_eq_true, decide_eq_true_eq, List.all_eq_true, List.mem_append, List.length_append] at hx hy ⊢
  exact ⟨hl, fun a ha => ha.elim (hx.2 a) (hy.2 a)⟩

theorem ins_right {b : BufT} {ps : List Int} (hb : bufG b = true) (hp : ptsG ps = true) (hl : b.1.length + ps.length ≤ 300) (c : Int) (h0 : 0 ≤ c) (h1 : c ≤ b.1.length + ps.length) :
    bufG (b.1.take b.2.1.toNat ++ ps ++ b.1.drop b.2.1.toNat, (c, (mvG b.2.2.1 b.2.1 b.2.1 ps.length, ()))) = true := by
  obtain ⟨k1, k2, k3, k4, k5⟩ := bufG_iff.1 hb
  have hln : (b.1.take b.2.1.toNat ++ ps ++ b.1.drop b.2.1.toNat).length = b.1.length + ps.length := by simp; omega
  refine bufG_iff.2 ⟨?_, h0, ?_, ?_, ?_⟩
  · refine ptsG_app (ptsG_app (ptsG_sub k1 (List.take_sublist _ _)) hp ?_) (ptsG_sub k1 (List.drop_sublist _ _)) ?_
    · simp; omega
    · simp; omega
  · show c ≤ ((b.1.take b.2.1.toNat ++ ps ++ b.1.drop b.2.1.toNat).length : Int); rw [hln]; omega
  · unfold mvG; simp only; split <;> (try split) <;> omega
  · rw [hln]; unfold mvG; simp only; split <;> (try split) <;> omega

end Go.AE.F
namespace Go.AE.F
open Go.AE
abbrev RingT := List (List Int) × Int × Unit
def ringB (r : RingT × SrcT) : Prop := srcOk r.2 ∧ r.1.1.length ≤ 60 ∧ ∀ x ∈ r.1.1, x.length ≤ 400

theorem ring_app {l : List (List Int)} {x : List Int} (hl : l.length ≤ 50) (hx : ∀ x ∈ l, x.length ≤ 400) (h : x.length ≤ 400) : (pApp l [x]).length ≤ 60 ∧ ∀ y ∈ pApp l [x], y.length ≤ 400 := by
  refine ⟨by simp [pApp]; omega, fun y hy => ?_⟩
  unfold pApp at hy
  rw [List.mem_append] at hy
  rcases hy with hy | hy
  · exact hx y hy
  · have : y = x := by simpa using hy
    rw [this]; exact h

theorem ring_loop {N : Nat} {R : Type} (hN : 100001 < N) (r0 : RingT) (k : SrcT × RingT × RingT × Unit → Option R) : ∀ (m n : Nat) (s : SrcT) (r : RingT), m < n → srcOk s → r.1.length + m ≤ 50 → (∀ x ∈ r.1, x.length ≤ 400) →
    ∃ s' r', loopP (spec_l01Src_l04Ring.l5 N) n ((m : Int), s, r0, r, ()) k = k (s', r0, r', ()) ∧ srcOk s' ∧ r'.1.length ≤ 50 ∧ ∀ x ∈ r'.1, x.length ≤ 400 := by
  intro m
  induction m with
  | zero =>
    intro n s r hn hs hl hx
    obtain ⟨n, rfl⟩ := succ_of hn
    refine ⟨s, r, ?_, hs, by omega, hx⟩
    rw [loopP_s]; unfold spec_l01Src_l04Ring.l5; simp only []
    rw [pGt_f (by omega), ifB_f]
  | succ m ih =>
    intro n s r hn hs hl hx
    obtain ⟨n, rfl⟩ := succ_of hn
    obtain ⟨v, h1, hv⟩ := nT N s 5 hs (by omega)
    have hv2 := hv.2.2.2 (by omega)
    have hv0 := hv.2.1
    obtain ⟨p, h2, hp⟩ := dpoints_tot N v.2 (1 + v.1) hv.1 (by omega) (by omega) hN
    have hpl := hp.2
    obtain ⟨a1, a2⟩ := ring_app (l := r.1) (x := p.1) (by omega) hx (by omega)
    obtain ⟨s', r', h3, h4, h5, h6⟩ := ih n p.2 (pApp r.1 [p.1], r.2) (by omega) hp.1 (by simp [pApp]; omega) a2
    refine ⟨s', r', ?_, h4, h5, h6⟩
    rw [loopP_s]; unfold spec_l01Src_l04Ring.l5; simp only []
    rw [pGt_t (by omega), ifB_t, h1, bindO_s, pAdd_i (by omega) (by omega), h2, bindO_s, pFit_t (by simp; omega), ifB_t, pSub_i (by omega) (by omega), show ((m + 1 : Nat) : Int) - 1 = (m : Int) by omega]
    exact h3

theorem rtail_tot (N : Nat) (hN : 100001 < N) (s : SrcT) (hs : srcOk s) (r : RingT) (hl : r.1.length ≤ 50) (hx : ∀ x ∈ r.1, x.length ≤ 400) : Tot ringB (
      ifB (pGt (pLen r.1) 0) (
        bindO (spec_l01Src_n N s (pLen r.1)) fun y71 =>
        bindO (spec_l01Src_one N y71.2 20) fun y72 =>
        ifB y72.1 (
          bindO (spec_l01Src_n N y72.2 3) fun y73 =>
          ifB (pEq y73.1 0) (
            bindO (spec_l01Src_n N y73.2 2) fun y74 =>
            bindO (idx [(-1), (pLen r.1)] y74.1) fun y75 =>
            bindO (idx [(-1), (pLen r.1)] y74.1) fun y76 =>
            some ((r.1, (y76, r.2.2)), y74.2)) (
            ifB (pEq y73.1 1) (
              ifB (pFit r.1 [[]]) (
                some (((pApp r.1 [[]]), (y71.1, r.2.2)), y73.2)) (
                none)) (
              bindO (spec_l01Src_n N y73.2 5) fun y77 =>
              bindO (spec_l01Src_points N y77.2 (pAdd Go.IntKind.i64 297 y77.1)) fun y78 =>
              ifB (pFit r.1 [y78.1]) (
                some (((pApp r.1 [y78.1]), (y71.1, r.2.2)), y78.2)) (
                none)))) (
          some ((r.1, (y71.1, r.2.2)), y72.2))) (
        bindO (spec_l01Src_one N s 20) fun y79 =>
        ifB y79.1 (
          bindO (spec_l01Src_n N y79.2 3) fun y80 =>
          ifB (pEq y80.1 0) (
            bindO (spec_l01Src_n N y80.2 2) fun y81 =>
            bindO (idx [(-1), (pLen r.1)] y81.1) fun y82 =>
            bindO (idx [(-1), (pLen r.1)] y81.1) fun y83 =>
            some ((r.1, (y83, r.2.2)), y81.2)) (
            ifB (pEq y80.1 1) (
              ifB (pFit r.1 [[]]) (
                some (((pApp r.1 [[]]), r.2), y80.2)) (
                none)) (
              bindO (spec_l01Src_n N y80.2 5) fun y84 =>
              bindO (spec_l01Src_points N y84.2 (pAdd Go.IntKind.i64 297 y84.1)) fun y85 =>
              ifB (pFit r.1 [y85.1]) (
                some (((pApp r.1 [y85.1]), r.2), y85.2)) (
                none)))) (
          some (r, y79.2)))) := by
  have hk : (r.1.length : Int) ≤ 4611686018427387904 := by omega
  have e0 : pLen r.1 = (r.1.length : Int) := rfl
  rw [e0]
  have hsame : ∀ v s', srcOk s' → ringB ((r.1, (v, r.2.2)), s') := fun v s' h => ⟨h, by show r.1.length ≤ 60; omega, hx⟩
  have hq : ∀ (u : Int × SrcT) (v : Int), srcOk u.2 → Tot ringB (
      bindO (spec_l01Src_n N u.2 5) fun y77 =>
      bindO (spec_l01Src_points N y77.2 (pAdd Go.IntKind.i64 297 y77.1)) fun y78 =>
      ifB (pFit r.1 [y78.1]) (some (((pApp r.1 [y78.1]), (v, r.2.2)), y78.2)) none) := fun u v hu => by
    refine Tot.bind (nT N u.2 5 hu (by omega)) fun w hw => ?_
    have hw2 := hw.2.2.2 (by omega)
    have hw0 := hw.2.1
    rw [pAdd_i (by omega) (by omega)]
    refine Tot.bind (dpoints_tot N _ _ hw.1 (by omega) (by omega) hN) fun p hp => ?_
    have hpl := hp.2
    refine Tot.fit (by simp; omega) (Tot.ret ?_)
    obtain ⟨a1, a2⟩ := ring_app (l := r.1) (x := p.1) hl hx (by omega)
    exact ⟨hp.1, a1, a2⟩
  have hz : ∀ (u : Int × SrcT), srcOk u.2 → Tot ringB (
      bindO (spec_l01Src_n N u.2 2) fun y74 =>
      bindO (idx [(-1), (r.1.length : Int)] y74.1) fun y75 =>
      bindO (idx [(-1), (r.1.length : Int)] y74.1) fun y76 =>
      some ((r.1, (y76, r.2.2)), y74.2)) := fun u hu => by
    refine Tot.bind (nT N _ 2 hu (by omega)) fun w hw => ?_
    have hw2 := hw.2.2.2 (by omega)
    exact Tot.bind (idxT _ _ hw.2.1 (by simp; omega)) fun _ _ => Tot.bind (idxT _ _ hw.2.1 (by simp; omega)) fun _ _ => Tot.ret (hsame _ _ hw.1)
  have hm : ∀ (u : Int × SrcT) (v : Int), srcOk u.2 → Tot ringB (ifB (pFit r.1 [[]]) (some (((pApp r.1 [[]]), (v, r.2.2)), u.2)) none) := fun u v hu => by
    obtain ⟨a1, a2⟩ := ring_app (l := r.1) (x := []) hl hx (by simp)
    exact Tot.fit (by simp; omega) (Tot.ret ⟨hu, a1, a2⟩)
  refine Tot.both ?_ ?_
  · refine Tot.bind (nT N s _ hs hk) fun a ha => ?_
    refine Tot.bind (oneT N _ 20 ha.1 (by omega)) fun o ho => ?_
    refine Tot.both ?_ (Tot.ret (hsame _ _ ho))
    refine Tot.bind (nT N _ 3 ho (by omega)) fun u hu => ?_
    exact Tot.both (hz u hu.1) (Tot.both (hm u _ hu.1) (hq u _ hu.1))
  · refine Tot.bind (oneT N _ 20 hs (by omega)) fun o ho => ?_
    refine Tot.both ?_ (Tot.ret (hsame r.2.1 _ ho))
    refine Tot.bind (nT N _ 3 ho (by omega)) fun u hu => ?_
    exact Tot.both (hz u hu.1) (Tot.both (hm u r.2.1 hu.1) (hq u r.2.1 hu.1))

theorem dring_tot (N : Nat) (hN : 100001 < N) (s : SrcT) (hs : srcOk s) : Tot ringB (spec_l01Src_l04Ring N s) := by
  unfold spec_l01Src_l04Ring
  refine Tot.bind (nT N s 4 hs (by omega)) fun a ha => ?_
  have ha2 := ha.2.2.2 (by omega)
  refine Tot.bind (oneT N _ 12 ha.1 (by omega)) fun o ho => ?_
  refine Tot.both ?_ ?_
  · refine Tot.bind (nT N _ 3 ho (by omega)) fun u hu => ?_
    have hu2 := hu.2.2.2 (by omega)
    have hu0 := hu.2.1
    rw [pAdd_i (by omega) (by omega)]
    obtain ⟨q, hq⟩ : ∃ q : Nat, 9 + u.1 = (q : Int) := ⟨(9 + u.1).toNat, by omega⟩
    rw [hq]
    obtain ⟨s', r', h3, h4, h5, h6⟩ := ring_loop hN ([], (0, ())) _ q N u.2 ([], (0, ())) (by omega) hu.1 (by simp; omega) (fun x h => by cases h)
    rw [h3]
    exact rtail_tot N hN s' h4 r' h5 h6
  · have ha0 := ha.2.1
    obtain ⟨q, hq⟩ : ∃ q : Nat, a.1 = (q : Int) := ⟨a.1.toNat, by omega⟩
    rw [hq]
    obtain ⟨s', r', h3, h4, h5, h6⟩ := ring_loop hN ([], (0, ())) _ q N o.2 ([], (0, ())) (by omega) ho (by simp; omega) (fun x h => by cases h)
    rw [h3]
    exact rtail_tot N hN s' h4 r' h5 h6

def ringG (r : RingT) : Bool := decide (r.1.length ≤ 10) && r.1.all itemG && decide (0 ≤ r.2.1) && (decide (r.2.1 < r.1.length) || (decide (r.2.1 = 0) && decide (r.1.length = 0)))

theorem spec_items_n (N : Nat) (hN : 301 < N) (l : List (List Int)) (m : Nat) (hm : m ≤ 30) : spec_l04Items N l (m : Int) = some (decide (l.length ≤ m) && l.all itemG) := by
  unfold spec_l04Items
  rw [pLen_d]
  by_cases hl : l.length ≤ m
  · rw [pGt_f (by omega), ifB_f, decide_eq_true hl, Bool.true_and]
    have := items_loop (N := N) hN l (by omega) (onSum (fun d => some true) (fun d => let x23 := d.1; some x23)) _ 0 N rfl (by omega) (by omega)
    rw [List.drop_zero] at this
    refine Eq.trans this ?_
    cases l.all itemG <;> rfl
  · rw [pGt_t (by omega), ifB_t, decide_eq_false hl]; rfl

theorem spec_RingRight_eq (N : Nat) (hN : 301 < N) (r : RingT) : spec_RingRight N r = some (ringG r) := by
  unfold spec_RingRight ringG
  rw [show (10 : Int) = ((10 : Nat) : Int) from rfl, spec_items_n N hN r.1 10 (by omega)]
  simp only [bindO_s, ifB_and, ifB_or, pGe_d, pLt_d, pEq_d, pLen_d, ge_iff_le]
  congr 3
  simp

theorem impl_RingRight_eq (N : Nat) (r : RingT) (hl : r.1.length < N) (hb : r.1.length ≤ 1048576) (hx : ∀ x ∈ r.1, x.length < N ∧ x.length ≤ 9223372036854775806) : impl_RingRight N r = some (ringG r) := by
  unfold impl_RingRight ringG impl_size_SSint64
  rw [impl_items N r.1 hl (by omega) hx]
  simp only [bindO_s, impl_within_eq, pLen_d]
  have e1 : pLe (r.1.length : Int) 10 = decide (r.1.length ≤ 10) := by rw [pLe_d]; congr 1; simp; omega
  rw [e1, pSub_i (by omega) (by omega)]
  have e2 : (decide (0 ≤ r.2.1) && decide (r.2.1 ≤ pMax ((r.1.length : Int) - 1) 0)) = (decide (0 ≤ r.2.1) && (decide (r.2.1 < r.1.length) || (decide (r.2.1 = 0) && decide (r.1.length = 0)))) := by
    unfold pMax
    by_cases h0 : 0 ≤ r.2.1
    · rw [decide_eq_true h0, Bool.true_and, Bool.true_and]
      by_cases h1 : (r.1.length : Int) - 1 < 0
      · rw [if_pos h1]
        have hz : r.1.length = 0 := by omega
        rw [decide_eq_false (show ¬ r.2.1 < (r.1.length : Int) by omega), decide_eq_true hz, Bool.false_or, Bool.and_true]
        congr 1; simp; omega
      · rw [if_neg h1, decide_eq_false (show ¬ r.1.length = 0 by omega), Bool.and_false, Bool.or_false]
        congr 1; simp; omega
    · rw [decide_eq_false h0]; rfl
  rw [e2]
  cases decide (r.1.length ≤ 10) <;> cases r.1.all itemG <;> rfl

theorem ringG_iff {r : RingT} : ringG r = true ↔ r.1.length ≤ 10 ∧ (∀ x ∈ r.1, itemG x = true) ∧ 0 ≤ r.2.1 ∧ (r.2.1 < r.1.length ∨ (r.2.1 = 0 ∧ r.1.length = 0)) := by
  unfold ringG
  simp only [Bool.and_eq_true, Bool.or_eq_true, decide_eq_true_eq, List.all_eq_true, and_assoc]

theorem itemG_pts {x : List Int} (h : itemG x = true) : ptsG x = true ∧ 0 < x.length := by
  unfold itemG at h
  simp only [Bool.and_eq_true, decide_eq_true_eq] at h
  exact ⟨h.2, h.1⟩

/-- the item at a place -/
def atG (r : RingT) (i : Int) : List Int := (r.1[i.toNat]?).getD []

theorem atG_ok {r : RingT} (h : ringG r = true) {i : Int} (h0 : 0 ≤ i) (h1 : i < r.1.length) : idx r.1 i = some (atG r i) ∧ ptsG (atG r i) = true ∧ 0 < (atG r i).length ∧ (atG r i).length ≤ 300 := by
  obtain ⟨g1, g2, g3, g4⟩ := ringG_iff.1 h
  have hlt : i.toNat < r.1.length := by omega
  have e : r.1[i.toNat]? = some r.1[i.toNat] := List.getElem?_eq_getElem hlt
  have ea : atG r i = r.1[i.toNat] := by unfold atG; rw [e]; rfl
  obtain ⟨p1, p2⟩ := itemG_pts (g2 _ (List.getElem_mem hlt))
  refine ⟨?_, ?_, ?_, ?_⟩
  · unfold idx; rw [if_pos h0, e, ea]
  · rw [ea]; exact p1
  · rw [ea]; exact p2
  · rw [ea]; exact ptsG_len p1

def turnG (r : RingT) : Int := (r.2.1 + 1).tmod (r.1.length : Int)
theorem turnG_ok {r : RingT} (h : ringG r = true) (hn : r.1.length ≠ 0) : 0 ≤ turnG r ∧ turnG r < r.1.length := by
  obtain ⟨g1, g2, g3, g4⟩ := ringG_iff.1 h
  unfold turnG
  exact ⟨Int.tmod_nonneg _ (by omega), Int.tmod_lt_of_pos _ (by omega)⟩

theorem ringG_turn {r : RingT} (h : ringG r = true) (hn : r.1.length ≠ 0) : ringG (r.1, (turnG r, r.2.2)) = true := by
  obtain ⟨g1, g2, g3, g4⟩ := ringG_iff.1 h
  obtain ⟨n1, n2⟩ := turnG_ok h hn
  exact ringG_iff.2 ⟨g1, g2, n1, .inl n2⟩

abbrev YankT := BufT × Int × Int × Int × Unit
def failY (c : Int) : YankT := (([], (0, (0, ()))), (0, (0, (c, ()))))
def yankG (r : RingT) (b : BufT) : YankT :=
  if (ringG r && bufG b) = false then failY 1 else if r.1.length = 0 then failY 4 else
  if (replG b b.2.1 b.2.1 (atG r r.2.1)).2.2.1 ≠ 0 then failY (replG b b.2.1 b.2.1 (atG r r.2.1)).2.2.1 else
  ((replG b b.2.1 b.2.1 (atG r r.2.1)).1, (b.2.1, (b.2.1 + (atG r r.2.1).length, (0, ()))))
def popG (r : RingT) (b : BufT) (i j : Int) : YankT :=
  if (ringG r && bufG b) = false then failY 1 else if r.1.length = 0 then failY 4 else
  if (replG b i j (atG r (turnG r))).2.2.1 ≠ 0 then failY (replG b i j (atG r (turnG r))).2.2.1 else
  (((replG b i j (atG r (turnG r))).1.1, (i + (atG r (turnG r)).length, (replG b i j (atG r (turnG r))).1.2.2)), (i, (i + (atG r (turnG r)).length, (0, ()))))

theorem spec_top_eq (N : Nat) (hN : 301 < N) (r : RingT) (h : ringG r = true) (hn : r.1.length ≠ 0) : spec_RingTop N r = some (atG r r.2.1) := by
  obtain ⟨g1, g2, g3, g4⟩ := ringG_iff.1 h
  obtain ⟨a1, a2, a3, a4⟩ := atG_ok h g3 (by omega)
  unfold spec_RingTop
  rw [spec_RingRight_eq N hN, bindO_s, h, show pNot true = false from rfl, ifB_f, bindO_s, pLen_d, pEq_f (by omega), ifB_f, a1, bindO_s, copy_eq N _ (by omega), bindO_s]

theorem impl_top_eq (N : Nat) (hN : 301 < N) (r : RingT) (h : ringG r = true) (hn : r.1.length ≠ 0) : impl_RingTop N r = some (atG r r.2.1) := by
  obtain ⟨g1, g2, g3, g4⟩ := ringG_iff.1 h
  obtain ⟨a1, a2, a3, a4⟩ := atG_ok h g3 (by omega)
  unfold impl_RingTop
  rw [impl_RingRight_eq N r (by omega) (by omega) (fun x hx => by have := ptsG_len (itemG_pts (g2 x hx)).1; omega), bindO_s, h, show pNot true = false from rfl, ifB_f, bindO_s, pLen_d, pEq_f (by omega), ifB_f, a1, bindO_s, clone_eq N _ (by omega), bindO_s]

theorem copyAll_loop {N : Nat} {R : Type} (l : List (List Int)) (hl : l.length ≤ 1048576) (hx : ∀ x ∈ l, x.length ≤ 68719476736) (k : List (List Int) × Unit → Option R) : ∀ (m i n : Nat), l.length - i = m → i ≤ l.length → m < n →
    loopP (spec_l04CopyAll.l3 N) n (l, (i : Int), l.take i, ()) k = k (l, ()) := by
  intro m
  induction m with
  | zero =>
    intro i n hm hi hn
    obtain ⟨n, rfl⟩ := succ_of hn
    rw [loopP_s]; unfold spec_l04CopyAll.l3; simp only [pLen_d]
    rw [pLt_f (by omega), ifB_f, List.take_of_length_le (by omega)]
  | succ m ih =>
    intro i n hm hi hn
    obtain ⟨n, rfl⟩ := succ_of hn
    have hlt : i < l.length := by omega
    rw [loopP_s]; unfold spec_l04CopyAll.l3; simp only [pLen_d]
    rw [pLt_t (by omega), ifB_t, idx_lt hlt, bindO_s, copy_eq N _ (hx _ (List.getElem_mem hlt)), bindO_s, pFit_t (by simp; omega), ifB_t, pAdd_i (by omega) (by omega)]
    have e : pApp (l.take i) [l[i]] = l.take (i + 1) := by rw [List.take_succ_eq_append_getElem hlt]; rfl
    rw [e]
    exact ih (i + 1) n (by omega) (by omega) (by omega)

theorem copyAll_eq (N : Nat) (l : List (List Int)) (hl : l.length ≤ 1048576) (hN : l.length < N) (hx : ∀ x ∈ l, x.length ≤ 68719476736) : spec_l04CopyAll N l = some l := by
  unfold spec_l04CopyAll
  exact copyAll_loop l hl hx _ _ 0 N rfl (by omega) (by omega)

theorem ownLists_eq (N : Nat) (l : List (List Int)) (hl : l.length ≤ 1048576) (hN : l.length < N) (hx : ∀ x ∈ l, x.length ≤ 68719476736) : impl_ownLists N l = some l := by
  unfold impl_ownLists
  rw [pLen_d]
  exact own_loop l hl hx _ _ 0 N rfl (by omega) (by omega)

theorem spec_turn_eq (N : Nat) (hN : 301 < N) (r : RingT) (h : ringG r = true) (hn : r.1.length ≠ 0) : spec_RingTurn N r = some (r.1, (turnG r, r.2.2)) := by
  obtain ⟨g1, g2, g3, g4⟩ := ringG_iff.1 h
  unfold spec_RingTurn spec_l04Copy
  rw [copyAll_eq N r.1 (by omega) (by omega) (fun x hx => by have := ptsG_len (itemG_pts (g2 x hx)).1; omega), bindO_s, bindO_s, spec_RingRight_eq N hN, bindO_s, h, ifB_t, bindO_s, pLen_d, pGt_t (by omega), ifB_t, pEq_f (by omega), ifB_f, pAdd_i (by omega) (by omega)]
  rfl

theorem impl_turn_eq (N : Nat) (hN : 301 < N) (r : RingT) (h : ringG r = true) (hn : r.1.length ≠ 0) : impl_RingTurn N r = some (r.1, (turnG r, r.2.2)) := by
  obtain ⟨g1, g2, g3, g4⟩ := ringG_iff.1 h
  unfold impl_RingTurn impl_ownRing impl_size_SSint64
  rw [ownLists_eq N r.1 (by omega) (by omega) (fun x hx => by have := ptsG_len (itemG_pts (g2 x hx)).1; omega), bindO_s, bindO_s, impl_RingRight_eq N r (by omega) (by omega) (fun x hx => by have := ptsG_len (itemG_pts (g2 x hx)).1; omega), bindO_s, h, ifB_t, bindO_s, pLen_d, pGt_t (by omega), ifB_t, bindO_s, pEq_f (by omega), ifB_f, pAdd_i (by omega) (by omega)]
  rfl

theorem impl_code_eq (N : Nat) (r : RingT) (b : BufT) (hN : 2000 < N) (hl : r.1.length ≤ 1000) (hx : ∀ x ∈ r.1, x.length ≤ 1000) (hb : b.1.length ≤ 1000) :
    impl_ringCode N r b = some (if (ringG r && bufG b) = false then 1 else if r.1.length = 0 then 4 else 0) := by
  unfold impl_ringCode
  rw [impl_RingRight_eq N r (by omega) (by omega) (fun x h => by have := hx x h; omega), bindO_s, impl_BufRight_eq N b (by omega) (by omega), bindO_s, pNot_d, pNot_d, ifB_or, bindO_s, pLen_d]
  cases ringG r <;> cases bufG b <;> try rfl
  simp only [Bool.not_true, Bool.or_false, ifB_f, Bool.and_true]
  by_cases h : r.1.length = 0
  · rw [pEq_t (by omega), ifB_t, if_pos h]; rfl
  · rw [pEq_f (by omega), ifB_f, if_neg h]; rfl

theorem spec_RingYank_eq (N : Nat) (r : RingT) (b : BufT) (hN : 2000 < N) : spec_RingYank N r b = some (yankG r b) := by
  unfold spec_RingYank yankG
  rw [spec_RingRight_eq N (by omega), bindO_s, spec_BufRight_eq N b (by omega), bindO_s, pNot_d, pNot_d, ifB_or, bindO_s, pLen_d]
  cases h1 : ringG r with
  | false => rfl
  | true =>
    cases h2 : bufG b with
    | false => rfl
    | true =>
      simp only [Bool.not_true, Bool.or_false, ifB_f, Bool.and_true]
      by_cases h : r.1.length = 0
      · rw [pEq_t (by omega), ifB_t, if_neg (by simp), if_pos h]; rfl
      · obtain ⟨g1, g2, g3, g4⟩ := ringG_iff.1 h1
        obtain ⟨a1, a2, a3, a4⟩ := atG_ok h1 g3 (by omega)
        obtain ⟨_, b2, b3, _, _⟩ := bufG_iff.1 h2
        have hbl := ptsG_len (bufG_iff.1 h2).1
        rw [pEq_f (by omega), ifB_f, if_neg (by simp), if_neg h, spec_top_eq N (by omega) r h1 h, bindO_s]
        unfold spec_BufInsert
        rw [spec_Replace_eq N b _ _ _ h2 a2 (by omega) (by omega) (by omega), bindO_s, bindO_s]
        by_cases h0 : (replG b b.2.1 b.2.1 (atG r r.2.1)).2.2.1 = 0
        · rw [pNe_f h0, ifB_f, if_neg (by simp [h0]), pLen_d, pAdd_i (by omega) (by omega)]
        · rw [pNe_t h0, ifB_t, if_pos h0]; rfl

theorem impl_RingYank_eq (N : Nat) (r : RingT) (b : BufT) (hN : 2000 < N) (hl : r.1.length ≤ 1000) (hx : ∀ x ∈ r.1, x.length ≤ 1000) (hb : b.1.length ≤ 1000) : impl_RingYank N r b = some (yankG r b) := by
  unfold impl_RingYank yankG
  rw [impl_code_eq N r b hN hl hx hb, bindO_s]
  by_cases h1 : (ringG r && bufG b) = false
  · rw [if_pos h1, if_pos h1, pNe_t (by omega), ifB_t]; rfl
  rw [if_neg h1, if_neg h1]
  by_cases h : r.1.length = 0
  · rw [if_pos h, if_pos h, pNe_t (by omega), ifB_t]; rfl
  rw [if_neg h, if_neg h, pNe_f rfl, ifB_f]
  simp only [Bool.and_eq_false_iff, not_or, Bool.not_eq_false] at h1
  obtain ⟨h1, h2⟩ := h1
  obtain ⟨g1, g2, g3, g4⟩ := ringG_iff.1 h1
  obtain ⟨a1, a2, a3, a4⟩ := atG_ok h1 g3 (by omega)
  obtain ⟨_, b2, b3, _, _⟩ := bufG_iff.1 h2
  have hbl := ptsG_len (bufG_iff.1 h2).1
  rw [a1, bindO_s, impl_replace_eq N b _ _ _ h2 (by omega) (by omega) (by omega) (by omega), bindO_s]
  by_cases h0 : (replG b b.2.1 b.2.1 (atG r r.2.1)).2.2.1 = 0
  · rw [pNe_f h0, ifB_f, if_neg (by simp [h0]), impl_size_eq N _ (by omega), bindO_s, pAdd_i (by omega) (by omega)]
  · rw [pNe_t h0, ifB_t, if_pos h0]; rfl

theorem spec_RingPop_eq (N : Nat) (r : RingT) (b : BufT) (i j : Int) (hN : 2000 < N) (hi : -1000000 ≤ i ∧ i ≤ 1000000) (hj : -1000000 ≤ j ∧ j ≤ 1000000) : spec_RingPop N r b i j = some (popG r b i j) := by
  unfold spec_RingPop popG
  rw [spec_RingRight_eq N (by omega), bindO_s, spec_BufRight_eq N b (by omega), bindO_s, pNot_d, pNot_d, ifB_or, bindO_s, pLen_d]
  cases h1 : ringG r with
  | false => rfl
  | true =>
    cases h2 : bufG b with
    | false => rfl
    | true =>
      simp only [Bool.not_true, Bool.or_false, ifB_f, Bool.and_true]
      by_cases h : r.1.length = 0
      · rw [pEq_t (by omega), ifB_t, if_neg (by simp), if_pos h]; rfl
      · obtain ⟨n1, n2⟩ := turnG_ok h1 h
        obtain ⟨a1, a2, a3, a4⟩ := atG_ok h1 n1 n2
        rw [pEq_f (by omega), ifB_f, if_neg (by simp), if_neg h, spec_turn_eq N (by omega) r h1 h, bindO_s, spec_top_eq N (by omega) _ (ringG_turn h1 h) h, bindO_s]
        have ea : atG (r.1, (turnG r, r.2.2)) (r.1, (turnG r, r.2.2)).2.1 = atG r (turnG r) := rfl
        rw [ea, spec_Replace_eq N b _ _ _ h2 a2 (by omega) (by omega) (by omega), bindO_s]
        by_cases h0 : (replG b i j (atG r (turnG r))).2.2.1 = 0
        · rw [pNe_f h0, ifB_f, if_neg (by simp [h0]), pLen_d, pAdd_i (by omega) (by omega)]
        · rw [pNe_t h0, ifB_t, if_pos h0]; rfl

theorem impl_RingPop_eq (N : Nat) (r : RingT) (b : BufT) (i j : Int) (hN : 2000 < N) (hl : r.1.length ≤ 1000) (hx : ∀ x ∈ r.1, x.length ≤ 1000) (hb : b.1.length ≤ 1000) (hi : -1000000 ≤ i ∧ i ≤ 1000000) (hj : -1000000 ≤ j ∧ j ≤ 1000000) : impl_RingPop N r b i j = some (popG r b i j) := by
  unfold impl_RingPop popG impl_size_SSint64
  rw [impl_code_eq N r b hN hl hx hb, bindO_s]
  by_cases h1 : (ringG r && bufG b) = false
  · rw [if_pos h1, if_pos h1, pNe_t (by omega), ifB_t]; rfl
  rw [if_neg h1, if_neg h1]
  by_cases h : r.1.length = 0
  · rw [if_pos h, if_pos h, pNe_t (by omega), ifB_t]; rfl
  rw [if_neg h, if_neg h, pNe_f rfl, ifB_f]
  simp only [Bool.and_eq_false_iff, not_or, Bool.not_eq_false] at h1
  obtain ⟨h1, h2⟩ := h1
  obtain ⟨g1, g2, g3, g4⟩ := ringG_iff.1 h1
  obtain ⟨n1, n2⟩ := turnG_ok h1 h
  obtain ⟨a1, a2, a3, a4⟩ := atG_ok h1 n1 n2
  have en : pRem (pAdd .i64 r.2.1 1) (r.1.length : Int) = turnG r := by rw [pAdd_i (by omega) (by omega)]; rfl
  rw [bindO_s, pLen_d, pEq_f (by omega), ifB_f, en, a1, bindO_s, impl_replace_eq N b _ _ _ h2 (by omega) (by omega) (by omega) (by omega), bindO_s]
  by_cases h0 : (replG b i j (atG r (turnG r))).2.2.1 = 0
  · rw [pNe_f h0, ifB_f, if_neg (by simp [h0]), impl_size_eq N _ (by omega), bindO_s, pAdd_i (by omega) (by omega)]
  · rw [pNe_t h0, ifB_t, if_pos h0]; rfl

end Go.AE.F
namespace Go.AE.F
open Go.AE
theorem dyank_tot (N : Nat) (hN : 100200 < N) (a : List Int) (ha : a.length ≤ 1048576) : Tot (fun r : RingT × BufT => (r.1.1.length ≤ 60 ∧ ∀ x ∈ r.1.1, x.length ≤ 400) ∧ r.2.1.length ≤ 1000) (spec_DrawRingYank N a) := by
  unfold spec_DrawRingYank
  obtain ⟨s, h1, hs⟩ := source_ok N a ha (by omega)
  rw [h1, bindO_s]
  refine Tot.bind (dring_tot N (by omega) s hs) fun r hr => ?_
  exact Tot.bind (dbuf_tot N (by omega) r.2 hr.1) fun b hb => Tot.ret ⟨hr.2, hb.2⟩

/-- replacing just what has been put in -/
theorem repl_mid {b : BufT} {c : Nat} {t ps : List Int} {m : Int} {x y : List Int} (hx : x.length = c) (h0 : (replG (x ++ t ++ y, (((c + t.length : Nat) : Int), (m, ()))) (c : Int) ((c : Int) + t.length) ps).2.2.1 = 0) :
    (replG (x ++ t ++ y, (((c + t.length : Nat) : Int), (m, ()))) (c : Int) ((c : Int) + t.length) ps).1.1 = x ++ ps ++ y := by
  have hl : (x ++ t ++ y).length = c + t.length + y.length := by simp; omega
  have key : ∀ b' : BufT, b'.1 = x ++ t ++ y → (replG b' (c : Int) ((c : Int) + t.length) ps).2.2.1 = 0 → (replG b' (c : Int) ((c : Int) + t.length) ps).1.1 = x ++ ps ++ y := by
    intro b' hb' h0
    unfold replG at h0 ⊢
    rw [hb', hl] at h0 ⊢
    rw [if_neg (by omega)] at h0 ⊢
    by_cases h : 300 < ((c + t.length + y.length : Nat) : Int) - ((c : Int) + t.length - c) + ps.length
    · rw [if_pos h] at h0; exact absurd h0 (by simp [failG])
    · rw [if_neg h]
      have e1 : sub (x ++ t ++ y) 0 (c : Int) = x := by
        unfold sub
        rw [show ((c : Int)).toNat = c by omega, List.append_assoc, List.take_append_of_le_length (by omega), List.take_of_length_le (by omega)]; rfl
      have e2 : sub (x ++ t ++ y) ((c : Int) + t.length) ((c + t.length + y.length : Nat) : Int) = y := by
        unfold sub
        rw [show ((c : Int) + t.length).toNat = (x ++ t).length by simp; omega, List.take_of_length_le (by rw [hl]; omega), List.drop_append_of_le_length (by omega), List.drop_length]; simp
      rw [e1, e2]
  exact key _ rfl h0

theorem pure_FnYank (a : List Int) (_h : a.length ≤ 9223372036854775807 ∧ ∀ x ∈ a, IntKind.u8.min ≤ x ∧ x ≤ IntKind.u8.max) : ∃ N, laws_FnYank N a = some true := by
  refine ⟨1048700, ?_⟩
  unfold laws_FnYank
  rw [pLen_d]
  by_cases ha : 1048576 < a.length
  · rw [pGt_t (by omega), ifB_t]
  rw [pGt_f (by omega), ifB_f]
  obtain ⟨⟨r, b⟩, hd, ⟨hrl, hrx⟩, hbl⟩ := dyank_tot 1048700 (by omega) a (by omega)
  simp only at hrl hrx hbl
  rw [hd, bindO_s]
  have c1 : spec_RingYank 1048700 r b = some (yankG r b) := spec_RingYank_eq _ r b (by omega)
  have c2 : impl_RingYank 1048700 r b = some (yankG r b) := impl_RingYank_eq _ r b (by omega) (by omega) (fun x h => by have := hrx x h; omega) (by omega)
  simp only [c1, c2, bindO_s]
  rw [pNe_f rfl, ifB_f]
  by_cases h0 : (yankG r b).2.2.2.1 ≠ 0
  · rw [pNe_t h0, ifB_t]
  have h0 : (yankG r b).2.2.2.1 = 0 := Classical.not_not.1 h0
  rw [pNe_f h0, ifB_f]
  have f8 : ∀ c, (failY c).2.2.2.1 = c := fun _ => rfl
  unfold yankG at h0 ⊢
  by_cases k1 : (ringG r && bufG b) = false
  · rw [if_pos k1, f8] at h0; omega
  rw [if_neg k1] at h0 ⊢
  by_cases k2 : r.1.length = 0
  · rw [if_pos k2, f8] at h0; omega
  rw [if_neg k2] at h0 ⊢
  by_cases k3 : (replG b b.2.1 b.2.1 (atG r r.2.1)).2.2.1 ≠ 0
  · rw [if_pos k3, f8] at h0; exact absurd h0 k3
  rw [if_neg k3] at h0 ⊢
  have k3 : (replG b b.2.1 b.2.1 (atG r r.2.1)).2.2.1 = 0 := Classical.not_not.1 k3
  simp only [Bool.and_eq_false_iff, not_or, Bool.not_eq_false] at k1
  obtain ⟨hr, hb⟩ := k1
  obtain ⟨g1, g2, g3, g4⟩ := ringG_iff.1 hr
  obtain ⟨a1, a2, a3, a4⟩ := atG_ok hr g3 (by omega)
  obtain ⟨n1, n2⟩ := turnG_ok hr k2
  obtain ⟨t1, t2, t3, t4⟩ := atG_ok hr n1 n2
  obtain ⟨e1, e2⟩ := replG_ok hb a2 k3
  obtain ⟨q1, q2, q3, q4, q5⟩ := bufG_iff.1 hb
  obtain ⟨c, hc⟩ : ∃ c : Nat, b.2.1 = (c : Int) := ⟨b.2.1.toNat, by omega⟩
  have hct : b.2.1.toNat = c := by omega
  have hnb := ins_right hb a2 e2 (((b.2.1.toNat + (atG r r.2.1).length : Nat) : Int)) (by omega) (by omega)
  rw [e1]
  rw [hct] at hnb ⊢
  rw [hc] at hnb ⊢
  have hxl : (b.1.take c).length = c := by rw [List.length_take]; omega
  have hnl : (b.1.take c ++ atG r r.2.1 ++ b.1.drop c).length = b.1.length + (atG r r.2.1).length := by simp; omega
  have hyl : (b.1.drop c).length = b.1.length - c := by simp
  simp only []
  have d1 : pNe (c : Int) (c : Int) = false := pNe_f rfl
  have d2 : pGt ((c : Int) + (atG r r.2.1).length) (pLen (b.1.take c ++ atG r r.2.1 ++ b.1.drop c)) = false := by rw [pLen_d, hnl]; exact pGt_f (by omega)
  have d3 : pGt (c : Int) ((c : Int) + (atG r r.2.1).length) = false := pGt_f (by omega)
  have d4 : pLe 0 (c : Int) = true := pLe_t (by omega)
  have d5 : pLe (c : Int) ((c : Int) + (atG r r.2.1).length) = true := pLe_t (by omega)
  have d6 : pLe ((c : Int) + (atG r r.2.1).length) (pLen (b.1.take c ++ atG r r.2.1 ++ b.1.drop c)) = true := by rw [pLen_d, hnl]; exact pLe_t (by omega)
  have d7 : sub (b.1.take c ++ atG r r.2.1 ++ b.1.drop c) (c : Int) ((c : Int) + (atG r r.2.1).length) = atG r r.2.1 := by
    unfold sub
    rw [show ((c : Int) + ((atG r r.2.1).length : Int)).toNat = (b.1.take c ++ atG r r.2.1).length by rw [List.length_append, hxl]; omega, List.take_append_of_le_length (Nat.le_refl _), List.take_length, show ((c : Int)).toNat = (b.1.take c).length by rw [hxl]; omega, List.drop_append_of_le_length (Nat.le_refl _), List.drop_length]; rfl
  have d8 : impl_RingTop 1048700 r = some (atG r r.2.1) := impl_top_eq _ (by omega) r hr k2
  have d9 : laws_lwSame 1048700 (atG r r.2.1) (atG r r.2.1) = some true := lwSame_self _ _ (by omega) (by omega)
  have d10 : pNot true = false := rfl
  have p1 : ∀ m : Int, impl_RingPop 1048700 r (b.1.take c ++ atG r r.2.1 ++ b.1.drop c, (((c + (atG r r.2.1).length : Nat) : Int), (m, ()))) (c : Int) ((c : Int) + (atG r r.2.1).length) = some (popG r (b.1.take c ++ atG r r.2.1 ++ b.1.drop c, (((c + (atG r r.2.1).length : Nat) : Int), (m, ()))) (c : Int) ((c : Int) + (atG r r.2.1).length)) := fun m =>
    impl_RingPop_eq _ r _ _ _ (by omega) (by omega) (fun x h => by have := hrx x h; omega) (by show (b.1.take c ++ atG r r.2.1 ++ b.1.drop c).length ≤ 1000; rw [hnl]; omega) (by omega) (by omega)
  have p2 : ∀ m : Int, spec_RingPop 1048700 r (b.1.take c ++ atG r r.2.1 ++ b.1.drop c, (((c + (atG r r.2.1).length : Nat) : Int), (m, ()))) (c : Int) ((c : Int) + (atG r r.2.1).length) = some (popG r (b.1.take c ++ atG r r.2.1 ++ b.1.drop c, (((c + (atG r r.2.1).length : Nat) : Int), (m, ()))) (c : Int) ((c : Int) + (atG r r.2.1).length)) := fun m =>
    spec_RingPop_eq _ r _ _ _ (by omega) (by omega) (by omega)
  simp only [d1, d2, d3, d4, d5, d6, d7, d8, d9, d10, ifB_t, ifB_f, bindO_s, p1, p2]
  generalize hm : mvG b.2.2.1 (c : Int) (c : Int) ((atG r r.2.1).length : Int) = m at hnb ⊢
  rw [pNe_f rfl, ifB_f]
  by_cases w0 : (popG r (b.1.take c ++ atG r r.2.1 ++ b.1.drop c, (((c + (atG r r.2.1).length : Nat) : Int), (m, ()))) (c : Int) ((c : Int) + (atG r r.2.1).length)).2.2.2.1 ≠ 0
  · rw [pNe_t w0, ifB_t]
  have w0 := Classical.not_not.1 w0
  rw [pNe_f w0, ifB_f]
  unfold popG at w0 ⊢
  rw [if_neg (by rw [hr, hnb]; simp), if_neg k2] at w0 ⊢
  by_cases k4 : (replG (b.1.take c ++ atG r r.2.1 ++ b.1.drop c, (((c + (atG r r.2.1).length : Nat) : Int), (m, ()))) (c : Int) ((c : Int) + (atG r r.2.1).length) (atG r (turnG r))).2.2.1 ≠ 0
  · rw [if_pos k4, f8] at w0; exact absurd w0 k4
  rw [if_neg k4]
  have k4 := Classical.not_not.1 k4
  have hmid := repl_mid (b := b) hxl k4
  simp only [hmid]
  generalize hz : atG r (turnG r) = z at t1 t2 t3 t4 ⊢
  have hzl : (b.1.take c ++ z ++ b.1.drop c).length = b.1.length + z.length := by simp; omega
  have s1 : pLe ((c : Int) + z.length) (pLen (b.1.take c ++ z ++ b.1.drop c)) = true := by rw [pLen_d, hzl]; exact pLe_t (by omega)
  have s2 : pEq (c : Int) (c : Int) = true := pEq_t rfl
  have s3 : pLe (c : Int) ((c : Int) + z.length) = true := pLe_t (by omega)
  have s4 : pLe 0 0 = true := rfl
  have s5 : pLe (c : Int) (pLen (b.1.take c ++ z ++ b.1.drop c)) = true := by rw [pLen_d, hzl]; exact pLe_t (by omega)
  have s6 : pLe (c : Int) (pLen b.1) = true := by rw [pLen_d]; exact pLe_t (by omega)
  have s7 : sub (b.1.take c ++ z ++ b.1.drop c) 0 (c : Int) = b.1.take c := by
    unfold sub
    rw [show ((c : Int)).toNat = (b.1.take c).length by rw [hxl]; omega, List.append_assoc, List.take_append_of_le_length (Nat.le_refl _), List.take_length]; rfl
  have s8 : sub b.1 0 (c : Int) = b.1.take c := by unfold sub; rw [show ((c : Int)).toNat = c by omega]; rfl
  have s9 : laws_lwSame 1048700 (b.1.take c) (b.1.take c) = some true := lwSame_self _ _ (by omega) (by omega)
  have s10 : pLe 0 ((c : Int) + z.length) = true := pLe_t (by omega)
  have s11 : pLe (pLen (b.1.take c ++ z ++ b.1.drop c)) (pLen (b.1.take c ++ z ++ b.1.drop c)) = true := pLe_t (Int.le_refl _)
  have s12 : pLe (pLen b.1) (pLen b.1) = true := pLe_t (Int.le_refl _)
  have s13 : sub (b.1.take c ++ z ++ b.1.drop c) ((c : Int) + z.length) (pLen (b.1.take c ++ z ++ b.1.drop c)) = b.1.drop c := by
    unfold sub
    rw [pLen_d, Int.toNat_natCast, List.take_length, show ((c : Int) + (z.length : Int)).toNat = (b.1.take c ++ z).length by rw [List.length_append, hxl]; omega, List.drop_append_of_le_length (Nat.le_refl _), List.drop_length]; rfl
  have s14 : sub b.1 (c : Int) (pLen b.1) = b.1.drop c := by
    unfold sub
    rw [pLen_d]; simp
  have s15 : laws_lwSame 1048700 (b.1.drop c) (b.1.drop c) = some true := lwSame_self _ _ (by omega) (by omega)
  have s16 : sub (b.1.take c ++ z ++ b.1.drop c) (c : Int) ((c : Int) + z.length) = z := by
    unfold sub
    rw [show ((c : Int) + (z.length : Int)).toNat = (b.1.take c ++ z).length by rw [List.length_append, hxl]; omega, List.take_append_of_le_length (Nat.le_refl _), List.take_length, show ((c : Int)).toNat = (b.1.take c).length by rw [hxl]; omega, List.drop_append_of_le_length (Nat.le_refl _), List.drop_length]; rfl
  have s17 : impl_RingTurn 1048700 r = some (r.1, (turnG r, r.2.2)) := impl_turn_eq _ (by omega) r hr k2
  have s18 : impl_RingTop 1048700 (r.1, (turnG r, r.2.2)) = some z := by rw [← hz]; exact impl_top_eq _ (by omega) _ (ringG_turn hr k2) k2
  have s19 : laws_lwSame 1048700 z z = some true := lwSame_self _ _ (by omega) (by omega)
  simp only [s1, s2, s3, s4, s5, s6, s7, s8, s9, s10, s11, s12, s13, s14, s15, s16, s17, s18, s19, d4, ifB_t, bindO_s]

end Go.AE.F
