/- Plain laws of those functions. -/
import Derived.Test.YtfddioheppeddaaLUndoAllF1
import Derived.IntWalk
namespace Go.AE
theorem ifB_t {R : Type} {a b : Option R} : ifB true a b = a := rfl
theorem ifB_f {R : Type} {a b : Option R} : ifB false a b = b := rfl
theorem bindO_s {A R : Type} {x : A} {f : A → Option R} : bindO (some x) f = f x := rfl
theorem loopP_s {D E R : Type} {step : D → (D → Option R) → (E → Option R) → Option R} {n : Nat} {d : D} {k : E → Option R} : loopP step (n + 1) d k = step d (fun d' => loopP step n d' k) k := rfl

theorem wrap_i64 {n : Int} (h1 : -9223372036854775808 ≤ n) (h2 : n ≤ 9223372036854775807) : IntKind.i64.wrap n = n := IntWalk.i64_in n ⟨h1, h2⟩
theorem pAdd_i {a b : Int} (h1 : -9223372036854775808 ≤ a + b) (h2 : a + b ≤ 9223372036854775807) : pAdd .i64 a b = a + b := wrap_i64 h1 h2
theorem pSub_i {a b : Int} (h1 : -9223372036854775808 ≤ a - b) (h2 : a - b ≤ 9223372036854775807) : pSub .i64 a b = a - b := wrap_i64 h1 h2

theorem pLt_t {a b : Int} (h : a < b) : pLt a b = true := decide_eq_true h
theorem pLt_f {a b : Int} (h : b ≤ a) : pLt a b = false := decide_eq_false (by omega)
theorem pLe_t {a b : Int} (h : a ≤ b) : pLe a b = true := decide_eq_true h
theorem pLe_f {a b : Int} (h : b < a) : pLe a b = false := decide_eq_false (by omega)
theorem pGt_t {a b : Int} (h : b < a) : pGt a b = true := decide_eq_true h
theorem pGt_f {a b : Int} (h : a ≤ b) : pGt a b = false := decide_eq_false (by omega)
theorem pGe_t {a b : Int} (h : b ≤ a) : pGe a b = true := decide_eq_true h
theorem pEq_t {a b : Int} (h : a = b) : pEq a b = true := by subst h; simp [pEq]
theorem pEq_f {a b : Int} (h : a ≠ b) : pEq a b = false := by simp [pEq, h]
theorem pNe_t {a b : Int} (h : a ≠ b) : pNe a b = true := by simp [pNe, h]
theorem pNe_f {a b : Int} (h : a = b) : pNe a b = false := by subst h; simp [pNe]
theorem pFit_t {A : Type} {xs ys : List A} (h : xs.length + ys.length ≤ 68719476736) : pFit xs ys = true := decide_eq_true h

theorem idx_n {A : Type} (xs : List A) (i : Nat) : idx xs (i : Int) = xs[i]? := by
  unfold idx; rw [if_pos (by omega)]; rfl
theorem idx_lt {A : Type} {xs : List A} {i : Nat} (h : i < xs.length) : idx xs (i : Int) = some xs[i] := by rw [idx_n]; simp [h]
end Go.AE
namespace Go.AE
theorem ifB_or {c d : Bool} : ifB c (some true) (some d) = some (c || d) := by cases c <;> rfl
theorem ifB_and {c d : Bool} : ifB c (some d) (some false) = some (c && d) := by cases c <;> rfl
theorem pNot_d {b : Bool} : pNot b = !b := rfl
theorem pGe_d {a b : Int} : pGe a b = decide (a ≥ b) := rfl
theorem pLe_d {a b : Int} : pLe a b = decide (a ≤ b) := rfl
theorem pNe_d {a b : Int} : pNe a b = !decide (a = b) := by
  by_cases h : a = b
  · rw [pNe_f h, decide_eq_true h]; rfl
  · rw [pNe_t h, decide_eq_false h]; rfl
theorem pLen_d {A : Type} {xs : List A} : pLen xs = (xs.length : Int) := rfl

theorem succ_of {m N : Nat} (h : m < N) : ∃ q, N = q + 1 := ⟨N - 1, by omega⟩

theorem drop_c {A : Type} {l : List A} {i : Nat} (h : i < l.length) : l.drop i = l[i] :: l.drop (i + 1) := List.drop_eq_getElem_cons h

/-- a search: the first that is met -/
theorem find_loop {A R : Type} {P : A → Option Bool} {p : A → Bool} {xs : List A} (hx : xs.length ≤ 9223372036854775806) {step : List A × Int × Int × Unit → (List A × Int × Int × Unit → Option R) → (Unit ⊕ (Int × Unit) → Option R) → Option R}
    (hs : ∀ i kn kx, step (xs, (xs.length : Int), i, ()) kn kx = ifB (pLt i xs.length) (bindO (idx xs i) fun y => bindO (P y) fun b => ifB b (kx (.inr (i, ()))) (kn (xs, (xs.length : Int), pAdd .i64 i 1, ()))) (kx (.inl ())))
    (hP : ∀ x ∈ xs, P x = some (p x)) (k : Unit ⊕ (Int × Unit) → Option R) : ∀ (m i n : Nat), xs.length - i = m → i ≤ xs.length → m < n →
    loopP step n (xs, (xs.length : Int), (i : Int), ()) k = match (xs.drop i).findIdx? p with | none => k (.inl ()) | some j => k (.inr (((i + j : Nat) : Int), ())) := by
  intro m
  induction m with
  | zero =>
    intro i n hm hi hn
    obtain ⟨n, rfl⟩ := succ_of hn
    rw [loopP_s, hs, pLt_f (by omega), ifB_f, List.drop_eq_nil_of_le (by omega)]
    rfl
  | succ m ih =>
    intro i n hm hi hn
    obtain ⟨n, rfl⟩ := succ_of hn
    have hlt : i < xs.length := by omega
    rw [loopP_s, hs, pLt_t (by omega), ifB_t, idx_lt hlt, bindO_s, hP _ (List.getElem_mem hlt), bindO_s, drop_c hlt, List.findIdx?_cons]
    cases hp : p xs[i] with
    | true => rw [ifB_t]; rfl
    | false =>
      rw [ifB_f, pAdd_i (by omega) (by omega)]
      have := ih (i + 1) n (by omega) (by omega) (by omega)
      refine Eq.trans this ?_
      cases h : (xs.drop (i + 1)).findIdx? p with
      | none => simp
      | some j =>
        simp only [Bool.false_eq_true, if_false, Option.map_some]
        congr 4
        omega

theorem find_any {A : Type} {p : A → Bool} {xs : List A} : (match xs.findIdx? p with | none => (-1 : Int) | some j => (j : Int)) ≥ 0 ↔ xs.any p = true := by
  cases h : xs.findIdx? p with
  | none =>
    simp only [List.findIdx?_eq_none_iff] at h
    constructor
    · intro q; simp at q
    · intro q
      obtain ⟨x, hx, hp⟩ := List.any_eq_true.1 q
      rw [h x hx] at hp; cases hp
  | some j =>
    rw [List.findIdx?_eq_some_iff_getElem] at h
    obtain ⟨hj, hp, _⟩ := h
    constructor
    · intro _; exact List.any_eq_true.2 ⟨_, List.getElem_mem hj, hp⟩
    · intro _; simp

/-- a check of all: the first that fails ends it -/
theorem all_loop {A R : Type} {P : A → Option Bool} {p : A → Bool} {xs : List A} (hx : xs.length ≤ 9223372036854775806) {step : List A × Int × Unit → (List A × Int × Unit → Option R) → (Unit ⊕ (Bool × Unit) → Option R) → Option R}
    (hs : ∀ i kn kx, step (xs, i, ()) kn kx = ifB (pLt i xs.length) (bindO (idx xs i) fun y => bindO (P y) fun b => ifB (pNot b) (kx (.inr (false, ()))) (kn (xs, pAdd .i64 i 1, ()))) (kx (.inl ())))
    (hP : ∀ x ∈ xs, P x = some (p x)) (k : Unit ⊕ (Bool × Unit) → Option R) : ∀ (m i n : Nat), xs.length - i = m → i ≤ xs.length → m < n →
    loopP step n (xs, (i : Int), ()) k = if (xs.drop i).all p = true then k (.inl ()) else k (.inr (false, ())) := by
  intro m
  induction m with
  | zero =>
    intro i n hm hi hn
    obtain ⟨n, rfl⟩ := succ_of hn
    rw [loopP_s, hs, pLt_f (by omega), ifB_f, List.drop_eq_nil_of_le (by omega)]
    rfl
  | succ m ih =>
    intro i n hm hi hn
    obtain ⟨n, rfl⟩ := succ_of hn
    have hlt : i < xs.length := by omega
    rw [loopP_s, hs, pLt_t (by omega), ifB_t, idx_lt hlt, bindO_s, hP _ (List.getElem_mem hlt), bindO_s, drop_c hlt, List.all_cons]
    cases hp : p xs[i] with
    | false => simp [pNot_d, ifB_t]
    | true =>
      rw [pNot_d, Bool.not_true, ifB_f, pAdd_i (by omega) (by omega), Bool.true_and]
      exact ih (i + 1) n (by omega) (by omega) (by omega)

/-- two rows, compared element by element -/
theorem eq_loop {A R : Type} {P : A → A → Option Bool} {xs ys : List A} (hx : xs.length ≤ 9223372036854775806) (hl : xs.length = ys.length) {step : List A × List A × Int × Unit → (List A × List A × Int × Unit → Option R) → (Unit ⊕ (Bool × Unit) → Option R) → Option R}
    (hs : ∀ i kn kx, step (xs, ys, i, ()) kn kx = ifB (pLt i xs.length) (bindO (idx xs i) fun x => bindO (idx ys i) fun y => bindO (P x y) fun b => ifB b (kx (.inr (false, ()))) (kn (xs, ys, pAdd .i64 i 1, ()))) (kx (.inl ())))
    (hP : ∀ x ∈ xs, ∀ y ∈ ys, ∃ b, P x y = some b ∧ (b = true ↔ x ≠ y)) (k : Unit ⊕ (Bool × Unit) → Option R) : ∀ (m i n : Nat), xs.length - i = m → i ≤ xs.length → m < n →
    (xs.drop i = ys.drop i → loopP step n (xs, ys, (i : Int), ()) k = k (.inl ())) ∧ (xs.drop i ≠ ys.drop i → loopP step n (xs, ys, (i : Int), ()) k = k (.inr (false, ()))) := by
  intro m
  induction m with
  | zero =>
    intro i n hm hi hn
    obtain ⟨n, rfl⟩ := succ_of hn
    rw [loopP_s, hs, pLt_f (by omega), ifB_f, List.drop_eq_nil_of_le (by omega), List.drop_eq_nil_of_le (by omega)]
    exact ⟨fun _ => rfl, fun h => absurd rfl h⟩
  | succ m ih =>
    intro i n hm hi hn
    obtain ⟨n, rfl⟩ := succ_of hn
    have hlt : i < xs.length := by omega
    have hlt2 : i < ys.length := by omega
    obtain ⟨b, hb, hbe⟩ := hP _ (List.getElem_mem hlt) _ (List.getElem_mem hlt2)
    rw [loopP_s, hs, pLt_t (by omega), ifB_t, idx_lt hlt, bindO_s, idx_lt hlt2, bindO_s, hb, bindO_s, drop_c hlt, drop_c hlt2, List.cons.injEq]
    obtain ⟨i1, i2⟩ := ih (i + 1) n (by omega) (by omega) (by omega)
    cases b with
    | true =>
      have := hbe.1 rfl
      exact ⟨fun h => absurd h.1 this, fun _ => by rw [ifB_t]⟩
    | false =>
      have he : xs[i] = ys[i] := Classical.byContradiction fun h => by cases hbe.2 h
      rw [ifB_f, pAdd_i (by omega) (by omega)]
      exact ⟨fun h => i1 h.2, fun h => i2 fun q => h (by rw [he, q])⟩

end Go.AE
namespace Go.AE.F
open Go.AE
/-- is it a point? -/
def ptG (a : Int) : Bool := decide (0 ≤ a) && decide (a ≤ 1114111) && !(decide (55296 ≤ a) && decide (a ≤ 57343))
theorem spec_l01Point_eq (N : Nat) (a : Int) : spec_l01Point N a = some (ptG a) := by
  unfold spec_l01Point ptG
  simp only [ifB_or, ifB_and, bindO_s, pNot_d, pGe_d, pLe_d]

theorem impl_within_eq (N : Nat) (a b c : Int) : impl_within N a b c = some (decide (b ≤ a) && decide (a ≤ c)) := by
  unfold impl_within
  simp only [ifB_and, bindO_s, pLe_d]

theorem impl_isPoint_eq (N : Nat) (a : Int) : impl_isPoint N a = some (ptG a) := by
  unfold impl_isPoint ptG
  simp only [impl_within_eq, ifB_and, bindO_s, pNot_d]

end Go.AE.F
namespace Go.AE.F
open Go.AE
theorem not_any {A : Type} {p : A → Bool} : ∀ {l : List A}, (!l.any fun a => !p a) = l.all p
  | [] => rfl
  | a :: l => by rw [List.any_cons, List.all_cons, ← not_any]; cases p a <;> simp

end Go.AE.F
namespace Go.AE.F
open Go.AE
def ptsG (l : List Int) : Bool := decide (l.length ≤ 300) && l.all ptG

theorem spec_PointsRight_eq (N : Nat) (l : List Int) (hN : 301 < N) : spec_PointsRight N l = some (ptsG l) := by
  unfold spec_PointsRight ptsG
  rw [pLen_d]
  by_cases h : l.length ≤ 300
  · rw [pGt_f (by omega), ifB_f, decide_eq_true h, Bool.true_and]
    have := all_loop (R := Bool) (P := spec_l01Point N) (p := ptG) (xs := l) (by omega) (step := spec_PointsRight.l4 N) (fun i kn kx => by simp only [spec_PointsRight.l4, pLen_d]) (fun x _ => spec_l01Point_eq N x)
      (onSum (fun d => some true) (fun d => let x37 := d.1; some x37)) _ 0 N rfl (by omega) (by omega)
    rw [List.drop_zero] at this
    refine Eq.trans this ?_
    cases l.all ptG <;> rfl
  · rw [pGt_t (by omega), ifB_t, decide_eq_false h]; rfl

/-- a search for what fails, over any kind -/
theorem contains_all {A : Type} {N : Nat} {P : A → Option Bool} {p : A → Bool} {l : List A} (hl : l.length < N) (hb : l.length ≤ 9223372036854775806) {step : {R : Type} → List A × Int × Int × Unit → (List A × Int × Int × Unit → Option R) → (Unit ⊕ (Int × Unit) → Option R) → Option R}
    (hs : ∀ i kn kx, step (R := Int) (l, (l.length : Int), i, ()) kn kx = ifB (pLt i l.length) (bindO (idx l i) fun y => bindO (P y) fun b => ifB b (kx (.inr (i, ()))) (kn (l, (l.length : Int), pAdd .i64 i 1, ()))) (kx (.inl ())))
    (hP : ∀ x ∈ l, P x = some (!p x)) :
    (bindO (loopP (R := Int) step N (l, (l.length : Int), (0 : Int), ()) (onSum (fun _ => some (-1)) (fun d => let x43 := d.1; some x43))) fun y1 => some (pGe y1 0)) = some (!l.all p) := by
  have := find_loop (R := Int) (P := P) (p := fun a => !p a) (xs := l) hb (step := step) hs hP (onSum (fun _ => some (-1)) (fun d => let x43 := d.1; some x43)) _ 0 N rfl (by omega) (by omega)
  rw [List.drop_zero] at this
  rw [show (0 : Int) = ((0 : Nat) : Int) from rfl, this]
  have h := find_any (p := fun a => !p a) (xs := l)
  rw [← not_any (p := p)]
  cases hf : l.findIdx? (fun a => !p a) with
  | none =>
    rw [hf] at h
    have ha : l.any (fun a => !p a) = false := by
      cases ha : l.any (fun a => !p a) with
      | false => rfl
      | true => have := h.2 ha; simp at this
    rw [ha]; rfl
  | some j =>
    rw [hf] at h
    have ha : l.any (fun a => !p a) = true := h.1 (by simp)
    rw [ha]
    show (bindO (some ((0 + j : Nat) : Int)) fun y1 => some (pGe y1 0)) = _
    rw [bindO_s, pGe_t (by omega)]; rfl

theorem impl_PointsRight_eq (N : Nat) (l : List Int) (hl : l.length < N) (hb : l.length ≤ 9223372036854775806) : impl_PointsRight N l = some (ptsG l) := by
  unfold impl_PointsRight slices_ContainsFunc_Sint64_int64__impl_PointsRight_c1 slices_IndexFunc_Sint64_int64__impl_PointsRight_c1 ptsG
  rw [pLen_d, contains_all (P := impl_PointsRight_c1 N) (p := ptG) (step := fun {R} => slices_IndexFunc_Sint64_int64__impl_PointsRight_c1.l2 (R := R) N) hl hb (fun i kn kx => rfl) (fun x _ => by unfold impl_PointsRight_c1; rw [impl_isPoint_eq, bindO_s, pNot_d]), bindO_s]
  have e : pLe (l.length : Int) 300 = decide (l.length ≤ 300) := by rw [pLe_d]; congr 1; simp; omega
  rw [e, ifB_and, bindO_s, pNot_d]
  simp

end Go.AE.F
namespace Go.AE.F
open Go.AE
theorem same_self {R : Type} (a : Option R) : same a a = a := if_pos rfl

theorem clone_eq (N : Nat) (a : List Int) (h : a.length ≤ 68719476736) : slices_Clone_Sint64_int64 N a = some a := by
  unfold slices_Clone_Sint64_int64 slices_Clone_Sint64_int64.g
  rw [pFit_t (by simp; exact h), pLen_d]
  simp only [ifB_t]
  cases a with
  | nil =>
    rw [pEq_t (by simp), ifB_t]
    exact same_self _
  | cons x l =>
    rw [pEq_f (by simp; omega), ifB_f]
    rfl

theorem copy_eq (N : Nat) (a : List Int) (h : a.length ≤ 68719476736) : spec_l01Copy N a = some a := by
  unfold spec_l01Copy
  rw [pFit_t (by simp; exact h), ifB_t]
  rfl

end Go.AE.F
namespace Go.AE.F
open Go.AE
abbrev BufT := List Int × Int × Int × Unit

/-- a right buffer -/
def bufG (b : BufT) : Bool := ptsG b.1 && decide (0 ≤ b.2.1) && decide (b.2.1 ≤ b.1.length) && decide (0 ≤ b.2.2.1) && decide (b.2.2.1 ≤ b.1.length)

theorem bufG_iff {b : BufT} : bufG b = true ↔ ptsG b.1 = true ∧ 0 ≤ b.2.1 ∧ b.2.1 ≤ b.1.length ∧ 0 ≤ b.2.2.1 ∧ b.2.2.1 ≤ b.1.length := by
  unfold bufG
  simp only [Bool.and_eq_true, decide_eq_true_eq, and_assoc]

theorem ptsG_len {l : List Int} (h : ptsG l = true) : l.length ≤ 300 := by
  unfold ptsG at h
  simp only [Bool.and_eq_true, decide_eq_true_eq] at h
  exact h.1

theorem spec_BufRight_eq (N : Nat) (b : BufT) (hN : 301 < N) : spec_BufRight N b = some (bufG b) := by
  unfold spec_BufRight bufG
  rw [spec_PointsRight_eq N b.1 hN]
  simp only [bindO_s, ifB_and, pGe_d, pLe_d, pLen_d, ge_iff_le]

theorem impl_size_eq (N : Nat) (l : List Int) (h : l.length ≤ 9223372036854775807) : impl_size_Sint64 N l = some (l.length : Int) := by
  unfold impl_size_Sint64
  rw [pLen_d]
  first | done | rfl | (simp only [pConv]; rw [wrap_i64 (by omega) (by omega)])

theorem impl_BufRight_eq (N : Nat) (b : BufT) (hl : b.1.length < N) (hb : b.1.length ≤ 9223372036854775806) : impl_BufRight N b = some (bufG b) := by
  unfold impl_BufRight impl_Buf_isPlace bufG
  rw [impl_PointsRight_eq N b.1 hl hb]
  simp only [impl_size_eq N b.1 (by omega), impl_within_eq, bindO_s, ifB_and, Bool.and_assoc]

end Go.AE.F
namespace Go.AE.F
open Go.AE
theorem wrap_u64 (a : Int) : IntKind.u64.wrap a = a % 18446744073709551616 := rfl
theorem conv_u64 (a : Int) : 0 ≤ pConv .u64 a ∧ pConv .u64 a < 18446744073709551616 := by
  unfold pConv
  rw [wrap_u64]; omega

/-- where numbers are drawn from -/
abbrev SrcT := List Int × Int × Int × Int × Unit
def srcOk (s : SrcT) : Prop := s.1.length ≤ 1048576 ∧ 0 ≤ s.2.1 ∧ s.2.1 ≤ s.1.length ∧ 0 ≤ s.2.2.2.1 ∧ s.2.2.2.1 ≤ 12

theorem src_loop {N : Nat} {R : Type} (c : List Int) (hc : c.length ≤ 1048576) (k : List Int × SrcT × Unit → Option R) : ∀ (m i n : Nat) (st : Int), 64 - i = m → i ≤ 64 → m < n →
    ∃ st', loopP (spec_l01Source.l3 N) n (c, (i : Int), (c, (0, (st, (0, ())))), ()) k = k (c, (c, (0, (st', (0, ())))), ()) := by
  intro m
  induction m with
  | zero =>
    intro i n st hm hi hn
    obtain ⟨n, rfl⟩ := succ_of hn
    refine ⟨st, ?_⟩
    rw [loopP_s]
    unfold spec_l01Source.l3
    simp only []
    rw [ifB_and, bindO_s, pLt_f (a := (i : Int)) (b := 64) (by omega), Bool.and_false, ifB_f]
  | succ m ih =>
    intro i n st hm hi hn
    obtain ⟨n, rfl⟩ := succ_of hn
    rw [loopP_s]
    unfold spec_l01Source.l3
    simp only []
    rw [ifB_and, bindO_s, pLen_d]
    by_cases hl : i < c.length
    · rw [pLt_t (by omega), pLt_t (by omega), Bool.and_self, ifB_t, idx_lt hl, bindO_s, pAdd_i (by omega) (by omega)]
      exact ih (i + 1) n _ (by omega) (by omega) (by omega)
    · exact ⟨st, by rw [pLt_f (by omega), Bool.false_and, ifB_f]⟩

theorem source_ok (N : Nat) (c : List Int) (hc : c.length ≤ 1048576) (hN : 64 < N) : ∃ s, spec_l01Source N c = some s ∧ srcOk s := by
  unfold spec_l01Source
  obtain ⟨st, h⟩ := src_loop (N := N) c hc (fun d =>
    let x18 := d.1;
    let x19 := d.2.1;
    ifB (pEq 20 0) (
      none) (
      ifB (pGt (pQuo Go.IntKind.i64 (pLen x18) 20) 12) (
        some (x19.1, (x19.2.1, (x19.2.2.1, (12, x19.2.2.2.2))))) (
        some (x19.1, (x19.2.1, (x19.2.2.1, ((pQuo Go.IntKind.i64 (pLen x18) 20), x19.2.2.2.2))))))) _ 0 N 88172645463325252 rfl (by omega) (by omega)
  have hq : pQuo .i64 (pLen c) 20 = (c.length : Int) / 20 := IntWalk.i64_quo _ _ ⟨by rw [pLen_d]; omega, by rw [pLen_d]; omega, by omega⟩
  simp only [hq, show pEq 20 0 = false from rfl, ifB_f] at h
  by_cases hg : (c.length : Int) / 20 > 12
  · rw [pGt_t hg, ifB_t] at h
    exact ⟨_, h, hc, by simp, by simp, by simp, by simp⟩
  · rw [pGt_f (by omega), ifB_f] at h
    refine ⟨_, h, hc, by simp, by simp, ?_, ?_⟩
    · show (0 : Int) ≤ (c.length : Int) / 20
      omega
    · show (c.length : Int) / 20 ≤ 12
      omega

theorem n_ok (N : Nat) (s : SrcT) (k : Int) (hs : srcOk s) (hk : k ≤ 4611686018427387904) : ∃ v s', spec_l01Src_n N s k = some (v, s') ∧ srcOk s' ∧ 0 ≤ v ∧ (k ≤ 1 → v = 0) ∧ (1 < k → v < k) := by
  obtain ⟨h1, h2, h3, h4, h5⟩ := hs
  unfold spec_l01Src_n
  by_cases hk1 : k ≤ 1
  · rw [pLe_t hk1, ifB_t]
    exact ⟨0, s, rfl, ⟨h1, h2, h3, h4, h5⟩, by omega, fun _ => rfl, fun h => by omega⟩
  · have hc : pConv .u64 k = k := IntWalk.u64_in k ⟨by omega, by omega⟩
    have hr : ∀ x y : Int, 0 ≤ pConv .i64 (pRem (pAdd .u64 x y) k) ∧ pConv .i64 (pRem (pAdd .u64 x y) k) < k := fun x y => by
      have ⟨a, _⟩ := conv_u64 (x + y)
      have e : pRem (pAdd .u64 x y) k = (pAdd .u64 x y) % k := Int.tmod_eq_emod_of_nonneg a
      have b1 := Int.emod_nonneg (pAdd .u64 x y) (show k ≠ 0 by omega)
      have b2 := Int.emod_lt_of_pos (pAdd .u64 x y) (show 0 < k by omega)
      rw [e]
      have e2 : pConv .i64 (pAdd .u64 x y % k) = pAdd .u64 x y % k := wrap_i64 (by omega) (by omega)
      rw [e2]
      exact ⟨b1, b2⟩
    rw [pLe_f (by omega), ifB_f, hc]
    simp only [show pLt 13 0 = false from rfl, show pLt 7 0 = false from rfl, show pLt 17 0 = false from rfl, show pLt 20 0 = false from rfl, ifB_f, pEq_f (show k ≠ 0 by omega)]
    by_cases hp : s.2.1 < s.1.length
    · obtain ⟨p, hp'⟩ : ∃ p : Nat, s.2.1 = (p : Int) := ⟨s.2.1.toNat, by omega⟩
      have hlt : p < s.1.length := by omega
      have hi : idx s.1 s.2.1 = some s.1[p] := by rw [hp']; exact idx_lt hlt
      rw [pLen_d, pLt_t hp, ifB_t, hi, bindO_s]
      refine ⟨_, _, rfl, ⟨h1, ?_, ?_, h4, h5⟩, (hr _ _).1, fun h => by omega, fun _ => (hr _ _).2⟩
      · show 0 ≤ pAdd .i64 s.2.1 1
        rw [pAdd_i (by omega) (by omega)]; omega
      · show pAdd .i64 s.2.1 1 ≤ _
        rw [pAdd_i (by omega) (by omega)]
        show _ ≤ (s.1.length : Int)
        omega
    · rw [pLen_d, pLt_f (by omega), ifB_f]
      exact ⟨_, _, rfl, ⟨h1, h2, h3, h4, h5⟩, (hr _ _).1, fun h => by omega, fun _ => (hr _ _).2⟩

theorem one_ok (N : Nat) (s : SrcT) (k : Int) (hs : srcOk s) (hk : k ≤ 4611686018427387904) : ∃ b s', spec_l01Src_one N s k = some (b, s') ∧ srcOk s' := by
  obtain ⟨v, s', h, hs', _⟩ := n_ok N s k hs hk
  exact ⟨_, s', by unfold spec_l01Src_one; rw [h, bindO_s], hs'⟩

end Go.AE.F
namespace Go.AE.F
open Go.AE
set_option maxRecDepth 100000
theorem lwCopy_eq (N : Nat) (a : List Int) (h : a.length ≤ 68719476736) : laws_lwCopy N a = some a := by
  unfold laws_lwCopy
  rw [pFit_t (by simp; exact h), ifB_t]
  rfl

theorem lwAll_loop {N : Nat} {R : Type} (l : List (List Int)) (hl : l.length ≤ 1048576) (hx : ∀ x ∈ l, x.length ≤ 68719476736) (k : List (List Int) × Unit → Option R) : ∀ (m i n : Nat), l.length - i = m → i ≤ l.length → m < n →
    loopP (laws_lwAll.l3 N) n (l, (i : Int), l.take i, ()) k = k (l, ()) := by
  intro m
  induction m with
  | zero =>
    intro i n hm hi hn
    obtain ⟨n, rfl⟩ := succ_of hn
    rw [loopP_s]; unfold laws_lwAll.l3; simp only [pLen_d]
    rw [pLt_f (by omega), ifB_f, List.take_of_length_le (by omega)]
  | succ m ih =>
    intro i n hm hi hn
    obtain ⟨n, rfl⟩ := succ_of hn
    have hlt : i < l.length := by omega
    rw [loopP_s]; unfold laws_lwAll.l3; simp only [pLen_d]
    rw [pLt_t (by omega), ifB_t, idx_lt hlt, bindO_s, lwCopy_eq N _ (hx _ (List.getElem_mem hlt)), bindO_s, pFit_t (by simp; omega), ifB_t, pAdd_i (by omega) (by omega)]
    have e : pApp (l.take i) [l[i]] = l.take (i + 1) := by rw [List.take_succ_eq_append_getElem hlt]; rfl
    rw [e]
    exact ih (i + 1) n (by omega) (by omega) (by omega)

theorem lwAll_eq (N : Nat) (l : List (List Int)) (hl : l.length ≤ 1048576) (hN : l.length < N) (hx : ∀ x ∈ l, x.length ≤ 68719476736) : laws_lwAll N l = some l := by
  unfold laws_lwAll
  exact lwAll_loop l hl hx _ _ 0 N rfl (by omega) (by omega)

theorem lwSame_eq (N : Nat) (a b : List Int) (ha : a.length ≤ 9223372036854775806) (hN : a.length < N) : laws_lwSame N a b = some (decide (a = b)) := by
  unfold laws_lwSame
  simp only [pLen_d]
  by_cases hl : a.length = b.length
  · rw [pNe_f (by omega), ifB_f]
    obtain ⟨h1, h2⟩ := eq_loop (R := Bool) (P := fun x y => some (pNe x y)) (xs := a) (ys := b) ha hl (step := laws_lwSame.l4 N) (fun i kn kx => by simp only [laws_lwSame.l4, bindO_s, pLen_d])
      (fun x _ y _ => ⟨_, rfl, by rw [pNe_d]; simp⟩) (onSum (fun _ => some true) (fun d => let x43 := d.1; some x43)) _ 0 N rfl (by omega) (by omega)
    rw [List.drop_zero, List.drop_zero] at h1 h2
    by_cases he : a = b
    · rw [decide_eq_true he]; exact h1 he
    · rw [decide_eq_false he]; exact h2 he
  · rw [pNe_t (by omega), ifB_t, decide_eq_false (fun h => hl (by rw [h]))]

end Go.AE.F
namespace Go.AE.F
open Go.AE
/-- it comes to something of which P holds -/
def Tot {A : Type} (P : A → Prop) (o : Option A) : Prop := ∃ x, o = some x ∧ P x
theorem Tot.bind {A B : Type} {P : A → Prop} {Q : B → Prop} {o : Option A} {f : A → Option B} (h : Tot P o) (k : ∀ x, P x → Tot Q (f x)) : Tot Q (bindO o f) := by
  obtain ⟨x, h1, h2⟩ := h
  rw [h1, bindO_s]; exact k x h2
theorem Tot.ite {A : Type} {P : A → Prop} {c : Bool} {a b : Option A} (h1 : c = true → Tot P a) (h2 : c = false → Tot P b) : Tot P (ifB c a b) := by
  cases c with
  | true => exact h1 rfl
  | false => exact h2 rfl
theorem Tot.both {A : Type} {P : A → Prop} {c : Bool} {a b : Option A} (h1 : Tot P a) (h2 : Tot P b) : Tot P (ifB c a b) := Tot.ite (fun _ => h1) (fun _ => h2)
theorem Tot.ret {A : Type} {P : A → Prop} {x : A} (h : P x) : Tot P (some x) := ⟨x, rfl, h⟩
theorem Tot.fit {A B : Type} {P : B → Prop} {xs ys : List A} {a : Option B} (h : xs.length + ys.length ≤ 68719476736) (h1 : Tot P a) : Tot P (ifB (pFit xs ys) a none) := by rw [pFit_t h]; exact h1

theorem nT (N : Nat) (s : SrcT) (k : Int) (hs : srcOk s) (hk : k ≤ 4611686018427387904) : Tot (fun r : Int × SrcT => srcOk r.2 ∧ 0 ≤ r.1 ∧ (k ≤ 1 → r.1 = 0) ∧ (1 < k → r.1 < k)) (spec_l01Src_n N s k) := by
  obtain ⟨v, s', h, h1, h2, h3, h4⟩ := n_ok N s k hs hk
  exact ⟨(v, s'), h, h1, h2, h3, h4⟩
theorem oneT (N : Nat) (s : SrcT) (k : Int) (hs : srcOk s) (hk : k ≤ 4611686018427387904) : Tot (fun r : Bool × SrcT => srcOk r.2) (spec_l01Src_one N s k) := by
  obtain ⟨v, s', h, h1⟩ := one_ok N s k hs hk
  exact ⟨(v, s'), h, h1⟩
theorem idxT {A : Type} (l : List A) (i : Int) (h0 : 0 ≤ i) (h1 : i < l.length) : Tot (fun x => x ∈ l) (idx l i) := by
  obtain ⟨p, rfl⟩ : ∃ p : Nat, i = (p : Int) := ⟨i.toNat, by omega⟩
  exact ⟨_, idx_lt (by omega), List.getElem_mem _⟩

theorem point_tot (N : Nat) (s : SrcT) (hs : srcOk s) : Tot (fun r : Int × SrcT => srcOk r.2) (spec_l01Src_point N s) := by
  unfold spec_l01Src_point
  refine Tot.bind (nT N s 14 hs (by omega)) fun r h => ?_
  refine Tot.both (Tot.ret h.1) (Tot.both (Tot.ret h.1) (Tot.both ?_ (Tot.both ?_ (Tot.both ?_ (Tot.both ?_ (Tot.both ?_ ?_))))))
  · refine Tot.bind (nT N _ 5 h.1 (by omega)) fun q hq => ?_
    have := hq.2.2.2 (by omega)
    exact Tot.bind (idxT _ _ hq.2.1 (by simp; omega)) fun _ _ => Tot.bind (idxT _ _ hq.2.1 (by simp; omega)) fun _ _ => Tot.ret hq.1
  · refine Tot.bind (nT N _ 20 h.1 (by omega)) fun q hq => ?_
    have := hq.2.2.2 (by omega)
    exact Tot.bind (idxT _ _ hq.2.1 (by simp; omega)) fun _ _ => Tot.bind (idxT _ _ hq.2.1 (by simp; omega)) fun _ _ => Tot.ret hq.1
  · refine Tot.bind (nT N _ 8 h.1 (by omega)) fun q hq => ?_
    have := hq.2.2.2 (by omega)
    exact Tot.bind (idxT _ _ hq.2.1 (by simp; omega)) fun _ _ => Tot.bind (idxT _ _ hq.2.1 (by simp; omega)) fun _ _ => Tot.ret hq.1
  · refine Tot.bind (nT N _ 5 h.1 (by omega)) fun q hq => ?_
    have := hq.2.2.2 (by omega)
    exact Tot.bind (idxT _ _ hq.2.1 (by simp; omega)) fun _ _ => Tot.bind (idxT _ _ hq.2.1 (by simp; omega)) fun _ _ => Tot.ret hq.1
  · exact Tot.bind (nT N _ 10 h.1 (by omega)) fun q hq => Tot.ret hq.1
  · exact Tot.bind (nT N _ 6 h.1 (by omega)) fun q hq => Tot.ret hq.1

theorem dpoints_loop {N : Nat} {R : Type} (k : SrcT × List Int × Unit → Option R) : ∀ (m n : Nat) (s : SrcT) (out : List Int), m < n → srcOk s → out.length + m ≤ 100000 →
    ∃ s' l, loopP (spec_l01Src_points.l2 N) n ((m : Int), s, out, ()) k = k (s', l, ()) ∧ srcOk s' ∧ l.length ≤ out.length + m := by
  intro m
  induction m with
  | zero =>
    intro n s out hn hs ho
    obtain ⟨n, rfl⟩ := succ_of hn
    refine ⟨s, out, ?_, hs, by omega⟩
    rw [loopP_s]; unfold spec_l01Src_points.l2; simp only []
    rw [pGt_f (by omega), ifB_f]
  | succ m ih =>
    intro n s out hn hs ho
    obtain ⟨n, rfl⟩ := succ_of hn
    obtain ⟨⟨p, s1⟩, h1, hs1⟩ := point_tot N s hs
    have e : pSub .i64 ((m + 1 : Nat) : Int) 1 = (m : Int) := by rw [pSub_i (by omega) (by omega)]; omega
    rw [loopP_s]; unfold spec_l01Src_points.l2; simp only []
    rw [pGt_t (by omega), ifB_t, h1, bindO_s]
    simp only []
    rw [pFit_t (by simp; omega), ifB_t, e]
    obtain ⟨s2, l, g1, g2, g3⟩ := ih n s1 (pApp out [p]) (by omega) hs1 (by simp [pApp]; omega)
    exact ⟨s2, l, g1, g2, by simp [pApp] at g3; omega⟩

theorem dpoints_tot (N : Nat) (s : SrcT) (k : Int) (hs : srcOk s) (h0 : 0 ≤ k) (hk : k ≤ 100000) (hN : 100001 < N) : Tot (fun r : List Int × SrcT => srcOk r.2 ∧ (r.1.length : Int) ≤ k) (spec_l01Src_points N s k) := by
  obtain ⟨p, rfl⟩ : ∃ p : Nat, k = (p : Int) := ⟨k.toNat, by omega⟩
  unfold spec_l01Src_points
  obtain ⟨s', l, g1, g2, g3⟩ := dpoints_loop (N := N) (fun d =>
    let x17 := d.1;
    let x18 := d.2.1;
    some (x18, x17)) p N s [] (by omega) hs (by simp; omega)
  exact ⟨(l, s'), g1, g2, by simp at g3; show (l.length : Int) ≤ p; omega⟩

end Go.AE.F
namespace Go.AE.F
open Go.AE
def shortB (r : BufT × SrcT) : Prop := srcOk r.2 ∧ r.1.1.length ≤ 1000

theorem btail_tot (N : Nat) (l : List Int) (hl : l.length ≤ 400) (s : SrcT) (hs : srcOk s) : Tot shortB (
    bindO (spec_l01Src_n N s (pAdd Go.IntKind.i64 (pLen l) 1)) fun y40 =>
    bindO (spec_l01Src_n N y40.2 (pAdd Go.IntKind.i64 (pLen l) 1)) fun y41 =>
    bindO (spec_l01Src_one N y41.2 15) fun y42 =>
    ifB y42.1 (
      bindO (spec_l01Src_n N y42.2 3) fun y43 =>
      ifB (pEq y43.1 0) (
        bindO (spec_l01Src_n N y43.2 2) fun y44 =>
        bindO (idx ([(-1), (pAdd Go.IntKind.i64 (pLen l) 1)]) y44.1) fun y45 =>
        bindO (idx ([(-1), (pAdd Go.IntKind.i64 (pLen l) 1)]) y44.1) fun y46 =>
        some ((l, (y46, (y41.1, ()))), y44.2)) (
        ifB (pEq y43.1 1) (
          bindO (spec_l01Src_n N y43.2 2) fun y47 =>
          bindO (idx ([(-1), (pAdd Go.IntKind.i64 (pLen l) 1)]) y47.1) fun y48 =>
          bindO (idx ([(-1), (pAdd Go.IntKind.i64 (pLen l) 1)]) y47.1) fun y49 =>
          some ((l, (y40.1, (y49, ()))), y47.2)) (
          ifB (pFit l [55296]) (
            some (((pApp l [55296]), (y40.1, (y41.1, ()))), y43.2)) (
            none)))) (
      some ((l, (y40.1, (y41.1, ()))), y42.2))) := by
  have e : pAdd .i64 (pLen l) 1 = (l.length : Int) + 1 := by rw [pLen_d, pAdd_i (by omega) (by omega)]
  rw [e]
  refine Tot.bind (nT N s _ hs (by omega)) fun a ha => ?_
  refine Tot.bind (nT N _ _ ha.1 (by omega)) fun b hb => ?_
  refine Tot.bind (oneT N _ 15 hb.1 (by omega)) fun o ho => ?_
  have hlen : l.length ≤ 1000 := by omega
  refine Tot.both ?_ (Tot.ret ⟨ho, hlen⟩)
  refine Tot.bind (nT N _ 3 ho (by omega)) fun u hu => ?_
  refine Tot.both ?_ (Tot.both ?_ ?_)
  · refine Tot.bind (nT N _ 2 hu.1 (by omega)) fun w hw => ?_
    have hw2 := hw.2.2.2 (by omega)
    exact Tot.bind (idxT _ _ hw.2.1 (by simp; omega)) fun _ _ => Tot.bind (idxT _ _ hw.2.1 (by simp; omega)) fun _ _ => Tot.ret ⟨hw.1, hlen⟩
  · refine Tot.bind (nT N _ 2 hu.1 (by omega)) fun w hw => ?_
    have hw2 := hw.2.2.2 (by omega)
    exact Tot.bind (idxT _ _ hw.2.1 (by simp; omega)) fun _ _ => Tot.bind (idxT _ _ hw.2.1 (by simp; omega)) fun _ _ => Tot.ret ⟨hw.1, hlen⟩
  · exact Tot.fit (by simp; omega) (Tot.ret ⟨hu.1, by show (pApp l [55296]).length ≤ 1000; simp [pApp]; omega⟩)

theorem dbuf_tot (N : Nat) (hN : 100001 < N) (s : SrcT) (hs : srcOk s) : Tot shortB (spec_l01Src_l02Buf N s) := by
  unfold spec_l01Src_l02Buf
  have hz := hs.2.2.2
  have e1 : pMul .i64 2 s.2.2.2.1 = 2 * s.2.2.2.1 := wrap_i64 (by omega) (by omega)
  rw [e1, pAdd_i (a := 14) (by omega) (by omega)]
  refine Tot.bind (nT N s _ hs (by omega)) fun v hv => ?_
  have hv2 := hv.2.2.2 (by omega)
  refine Tot.bind (dpoints_tot N _ _ hv.1 hv.2.1 (by omega) hN) fun p hp => ?_
  have hpl := hp.2
  refine Tot.bind (oneT N _ 50 hp.1 (by omega)) fun o ho => ?_
  refine Tot.both ?_ ?_
  · refine Tot.bind (nT N _ 4 ho (by omega)) fun w hw => ?_
    have hw2 := hw.2.2.2 (by omega)
    have hw0 := hw.2.1
    have e2 : pAdd .i64 298 w.1 = 298 + w.1 := pAdd_i (by omega) (by omega)
    rw [e2]
    refine Tot.bind (dpoints_tot N _ _ hw.1 (by omega) (by omega) hN) fun q hq => ?_
    have hql := hq.2
    exact btail_tot N q.1 (by omega) q.2 hq.1
  · exact btail_tot N p.1 (by omega) o.2 ho

theorem lwSame_self (N : Nat) (l : List Int) (h : l.length ≤ 1000) (hN : 2000 < N) : laws_lwSame N l l = some true := by rw [lwSame_eq N l l (by omega) (by omega), decide_eq_true rfl]

end Go.AE.F
namespace Go.AE.F
open Go.AE
abbrev OutT := BufT × List Int × Int × Unit

/-- where a place stands after points from a up to b have been replaced by d more -/
def mvG (p a b d : Int) : Int := if p ≤ a then p else if p < b then a else p + d
def failG (c : Int) : OutT := (([], (0, (0, ()))), ([], (c, ())))
/-- what replacing comes to -/
def replG (b : BufT) (i j : Int) (ps : List Int) : OutT :=
  if i < 0 ∨ j < i ∨ (b.1.length : Int) < j then failG 8 else
  if 300 < (b.1.length : Int) - (j - i) + ps.length then failG 5 else
  ((sub b.1 0 i ++ ps ++ sub b.1 j b.1.length, ((if i = j ∧ b.2.1 = i then i + ps.length else mvG b.2.1 i j (ps.length - (j - i))), (mvG b.2.2.1 i j (ps.length - (j - i)), ()))), (sub b.1 i j, (0, ())))

theorem spec_moved_eq (N : Nat) (p a b d : Int) (h1 : -4611686018427387904 ≤ p + d) (h2 : p + d ≤ 4611686018427387904) : spec_l02Moved N p a b d = some (mvG p a b d) := by
  unfold spec_l02Moved mvG
  by_cases e1 : p ≤ a
  · rw [pLe_t e1, ifB_t, if_pos e1]
  · rw [pLe_f (by omega), ifB_f, if_neg e1]
    by_cases e2 : p < b
    · rw [pLt_t e2, ifB_t, if_pos e2]
    · rw [pLt_f (by omega), ifB_f, if_neg e2, pAdd_i (by omega) (by omega)]

theorem impl_moved_eq (N : Nat) (p a b d : Int) (h1 : -4611686018427387904 ≤ p + d) (h2 : p + d ≤ 4611686018427387904) : impl_replace_c1 N p a b d = some (mvG p a b d) := by
  unfold impl_replace_c1 mvG
  by_cases e1 : p ≤ a
  · rw [pLe_t e1, ifB_t, if_pos e1]
  · rw [pLe_f (by omega), ifB_f, if_neg e1]
    by_cases e2 : p < b
    · rw [pLt_t e2, ifB_t, if_pos e2]
    · rw [pLt_f (by omega), ifB_f, if_neg e2, pAdd_i (by omega) (by omega)]

theorem sub_len {A : Type} (x : List A) (i j : Int) (h0 : 0 ≤ i) (h1 : i ≤ j) (h2 : j ≤ x.length) : ((sub x i j).length : Int) = j - i := by
  unfold sub
  simp only [List.length_drop, List.length_take]
  omega

theorem grow_eq (N : Nat) (n : Int) (h0 : 0 ≤ n) (h1 : n ≤ 68719476736) : slices_Grow_Sint64_int64 N [] n = some [] := by
  unfold slices_Grow_Sint64_int64
  simp only [pLen_d, List.length_nil]
  rw [pLt_f (by omega), ifB_f]
  have e : pSub .i64 n (pSub .i64 0 ((0 : Nat) : Int)) = n := by
    rw [pSub_i (a := 0) (by omega) (by omega), pSub_i (by omega) (by omega)]; omega
  rw [e]
  by_cases h : n > 0
  · rw [pGt_t h, ifB_t, pEq_t rfl, ifB_t, ifB_t, pLe_t h0, ifB_t, pLe_t h1, ifB_t, pLe_t (Int.le_refl _), ifB_t, pLe_t (by omega), ifB_t, pLe_t (by omega), ifB_t]
    rfl
  · rw [pGt_f (by omega), ifB_f]

theorem concat3_eq (N : Nat) (x y z : List Int) (h : x.length + y.length + z.length ≤ 100000) (hN : 4 ≤ N) : slices_Concat_Sint64_int64 N [x, y, z] = some (x ++ y ++ z) := by
  obtain ⟨M, rfl⟩ : ∃ M, N = M + 4 := ⟨N - 4, by omega⟩
  unfold slices_Concat_Sint64_int64
  have i0 : idx [x, y, z] 0 = some x := rfl
  have i1 : idx [x, y, z] (0 + 1) = some y := rfl
  have i2 : idx [x, y, z] (0 + 1 + 1) = some z := rfl
  have l3 : pLen [x, y, z] = 3 := rfl
  simp only [loopP_s, slices_Concat_Sint64_int64.l3, slices_Concat_Sint64_int64.l11, l3]
  have a1 : pAdd .i64 0 (1 : Int) = 0 + 1 := rfl
  have a2 : pAdd .i64 (0 + 1) (1 : Int) = 0 + 1 + 1 := rfl
  have a3 : pAdd .i64 (0 + 1 + 1) (1 : Int) = 3 := rfl
  have b1 : pLt 0 3 = true := rfl
  have b2 : pLt (0 + 1) 3 = true := rfl
  have b3 : pLt (0 + 1 + 1) 3 = true := rfl
  have b4 : pLt 3 3 = false := rfl
  have s1 : pAdd .i64 0 (pLen x) = x.length := by rw [pLen_d, pAdd_i (by omega) (by omega)]; omega
  have s2 : pAdd .i64 (x.length : Int) (pLen y) = x.length + y.length := by rw [pLen_d, pAdd_i (by omega) (by omega)]
  have s3 : pAdd .i64 ((x.length : Int) + y.length) (pLen z) = x.length + y.length + z.length := by rw [pLen_d, pAdd_i (by omega) (by omega)]
  have p1 : pLt (x.length : Int) 0 = false := pLt_f (by omega)
  have p2 : pLt ((x.length : Int) + y.length) 0 = false := pLt_f (by omega)
  have p3 : pLt ((x.length : Int) + y.length + z.length) 0 = false := pLt_f (by omega)
  have g : slices_Grow_Sint64_int64 (M + 4) [] ((x.length : Int) + y.length + z.length) = some [] := grow_eq _ _ (by omega) (by omega)
  have f1 : pFit ([] : List Int) x = true := pFit_t (by simp; omega)
  have f2 : pFit (pApp [] x) y = true := pFit_t (by simp [pApp]; omega)
  have f3 : pFit (pApp (pApp [] x) y) z = true := pFit_t (by simp [pApp]; omega)
  simp only [b1, ifB_t, i0, bindO_s, s1, p1, ifB_f, a1, b2, i1, s2, p2, a2, b3, i2, s3, p3, a3, b4, g, f1, f2, f3]
  rfl

/-- replacing, as the program does it -/
theorem impl_replace_eq (N : Nat) (b : BufT) (i j : Int) (ps : List Int) (hb : bufG b = true) (hp : ps.length ≤ 4000) (hi : -4611686018427387904 ≤ i ∧ i ≤ 4611686018427387904) (hj : -4611686018427387904 ≤ j ∧ j ≤ 4611686018427387904) (hN : 4 ≤ N) :
    impl_replace N b i j ps = some (replG b i j ps) := by
  obtain ⟨h1, h2, h3, h4, h5⟩ := bufG_iff.1 hb
  have hl := ptsG_len h1
  unfold impl_replace replG
  rw [impl_size_eq N b.1 (by omega), impl_size_eq N ps (by omega)]
  simp only [bindO_s]
  by_cases e1 : i < 0
  · rw [pLt_t e1, ifB_t, if_pos (Or.inl e1)]; rfl
  rw [pLt_f (by omega), ifB_f]
  by_cases e2 : j < i
  · rw [pGt_t e2, ifB_t, if_pos (Or.inr (Or.inl e2))]; rfl
  rw [pGt_f (by omega), ifB_f]
  by_cases e3 : (b.1.length : Int) < j
  · rw [pGt_t e3, ifB_t, if_pos (Or.inr (Or.inr e3))]; rfl
  rw [pGt_f (by omega), ifB_f, if_neg (by omega)]
  have d1 : pSub .i64 j i = j - i := pSub_i (by omega) (by omega)
  have d2 : pSub .i64 (ps.length : Int) (j - i) = ps.length - (j - i) := pSub_i (by omega) (by omega)
  have d3 : pAdd .i64 (b.1.length : Int) (ps.length - (j - i)) = b.1.length + (ps.length - (j - i)) := pAdd_i (by omega) (by omega)
  rw [d1, d2, d3]
  by_cases e4 : 300 < (b.1.length : Int) - (j - i) + ps.length
  · rw [pGt_t (by omega), ifB_t, if_pos e4]; rfl
  rw [pGt_f (by omega), ifB_f, if_neg e4]
  simp only [pLen_d]
  have l1 := sub_len b.1 0 i (by omega) (by omega) (by omega)
  have l2 := sub_len b.1 j b.1.length (by omega) (by omega) (by omega)
  have l3 := sub_len b.1 i j (by omega) (by omega) (by omega)
  have q1 : pLe 0 0 = true := rfl
  have q2 : pLe 0 i = true := pLe_t (by omega)
  have q3 : pLe i (b.1.length : Int) = true := pLe_t (by omega)
  have q4 : pLe 0 j = true := pLe_t (by omega)
  have q5 : pLe j (b.1.length : Int) = true := pLe_t (by omega)
  have q6 : pLe (b.1.length : Int) (b.1.length : Int) = true := pLe_t (Int.le_refl _)
  have q7 : pLe i j = true := pLe_t (by omega)
  have c := concat3_eq N (sub b.1 0 i) ps (sub b.1 j b.1.length) (by omega) hN
  have k := clone_eq N (sub b.1 i j) (by omega)
  have m1 := impl_moved_eq N b.2.1 i j (ps.length - (j - i)) (by omega) (by omega)
  have m2 := impl_moved_eq N b.2.2.1 i j (ps.length - (j - i)) (by omega) (by omega)
  have a1 : pAdd .i64 i (ps.length : Int) = i + ps.length := pAdd_i (by omega) (by omega)
  simp only [q1, q2, q3, q4, q5, q6, q7, ifB_t, c, k, m1, m2, bindO_s, a1]
  by_cases e5 : i = j
  · by_cases e6 : b.2.1 = i
    · rw [pEq_t e5, ifB_t, bindO_s, pEq_t e6, ifB_t, if_pos ⟨e5, e6⟩]
    · rw [pEq_t e5, ifB_t, bindO_s, pEq_f e6, ifB_f, if_neg (fun h => e6 h.2)]
  · rw [pEq_f e5, ifB_f, bindO_s, ifB_f, if_neg (fun h => e5 h.1)]

/-- replacing, as the reference tells it -/
theorem spec_Replace_eq (N : Nat) (b : BufT) (i j : Int) (ps : List Int) (hb : bufG b = true) (hp : ptsG ps = true) (hi : -4611686018427387904 ≤ i ∧ i ≤ 4611686018427387904) (hj : -4611686018427387904 ≤ j ∧ j ≤ 4611686018427387904) (hN : 301 < N) :
    spec_BufReplace N b i j ps = some (replG b i j ps) := by
  obtain ⟨h1, h2, h3, h4, h5⟩ := bufG_iff.1 hb
  have hl := ptsG_len h1
  have hpl := ptsG_len hp
  unfold spec_BufReplace replG
  rw [spec_BufRight_eq N b hN, spec_PointsRight_eq N ps hN, hb, hp]
  have n1 : pNot true = false := rfl
  have g1 : pGt (ps.length : Int) 400 = false := pGt_f (by omega)
  simp only [pLen_d, bindO_s, n1, ifB_f, g1]
  by_cases e1 : i < 0
  · rw [pLt_t e1, ifB_t, bindO_s, ifB_t, bindO_s, ifB_t, if_pos (Or.inl e1)]; rfl
  rw [pLt_f (by omega), ifB_f, bindO_s]
  by_cases e2 : j < i
  · rw [pGt_t e2, ifB_t, bindO_s, ifB_t, if_pos (Or.inr (Or.inl e2))]; rfl
  rw [pGt_f (by omega), ifB_f, bindO_s]
  by_cases e3 : (b.1.length : Int) < j
  · rw [pGt_t e3, ifB_t, if_pos (Or.inr (Or.inr e3))]; rfl
  rw [pGt_f (a := j) (by omega), ifB_f, if_neg (by omega)]
  have d1 : pSub .i64 j i = j - i := pSub_i (by omega) (by omega)
  have d2 : pSub .i64 (ps.length : Int) (j - i) = ps.length - (j - i) := pSub_i (by omega) (by omega)
  have d3 : pSub .i64 (b.1.length : Int) (j - i) = b.1.length - (j - i) := pSub_i (by omega) (by omega)
  have d4 : pAdd .i64 ((b.1.length : Int) - (j - i)) ps.length = b.1.length - (j - i) + ps.length := pAdd_i (by omega) (by omega)
  rw [d1, d2, d3, d4]
  by_cases e4 : 300 < (b.1.length : Int) - (j - i) + ps.length
  · rw [pGt_t (by omega), ifB_t, if_pos e4]; rfl
  rw [pGt_f (by omega), ifB_f, if_neg e4]
  have l1 := sub_len b.1 0 i (by omega) (by omega) (by omega)
  have l2 := sub_len b.1 j b.1.length (by omega) (by omega) (by omega)
  have l3 := sub_len b.1 i j (by omega) (by omega) (by omega)
  have q1 : pLe 0 0 = true := rfl
  have q2 : pLe 0 i = true := pLe_t (by omega)
  have q3 : pLe i (b.1.length : Int) = true := pLe_t (by omega)
  have q4 : pLe 0 j = true := pLe_t (by omega)
  have q5 : pLe j (b.1.length : Int) = true := pLe_t (by omega)
  have q6 : pLe (b.1.length : Int) (b.1.length : Int) = true := pLe_t (Int.le_refl _)
  have q7 : pLe i j = true := pLe_t (by omega)
  have c := copy_eq N (sub b.1 0 i) (by omega)
  have k := copy_eq N (sub b.1 i j) (by omega)
  have m1 := spec_moved_eq N b.2.1 i j (ps.length - (j - i)) (by omega) (by omega)
  have m2 := spec_moved_eq N b.2.2.1 i j (ps.length - (j - i)) (by omega) (by omega)
  have a1 : pAdd .i64 i (ps.length : Int) = i + ps.length := pAdd_i (by omega) (by omega)
  have f1 : pFit (sub b.1 0 i) ps = true := pFit_t (by omega)
  have f2 : pFit (pApp (sub b.1 0 i) ps) (sub b.1 j b.1.length) = true := pFit_t (by simp only [pApp, List.length_append]; omega)
  simp only [q1, q2, q3, q4, q5, q6, q7, ifB_t, c, k, m1, m2, bindO_s, a1, f1, f2]
  by_cases e5 : i = j
  · by_cases e6 : b.2.1 = i
    · rw [pEq_t e5, ifB_t, bindO_s, pEq_t e6, ifB_t, if_pos ⟨e5, e6⟩]; rfl
    · rw [pEq_t e5, ifB_t, bindO_s, pEq_f e6, ifB_f, if_neg (fun h => e6 h.2)]; rfl
  · rw [pEq_f e5, ifB_f, bindO_s, ifB_f, if_neg (fun h => e5 h.1)]; rfl

theorem ptsG_sub {x y : List Int} (h : ptsG x = true) (hs : y.Sublist x) : ptsG y = true := by
  unfold ptsG at h ⊢
  simp only [Bool.and_eq_true, decide_eq_true_eq, List.all_eq_true] at h ⊢
  exact ⟨Nat.le_trans hs.length_le h.1, fun a ha => h.2 a (hs.subset ha)⟩

end Go.AE.F
namespace Go.AE.F
open Go.AE
/-- inserting at the cursor, as the reference tells it of any buffer -/
def insG (b : BufT) (ps : List Int) : OutT :=
  if 400 < ps.length then failG 2 else if (bufG b && ptsG ps) = false then failG 1 else replG b b.2.1 b.2.1 ps

theorem spec_Insert_eq (N : Nat) (b : BufT) (ps : List Int) (hN : 301 < N) : spec_BufInsert N b ps = some (insG b ps) := by
  unfold spec_BufInsert insG
  by_cases h : 400 < ps.length
  · unfold spec_BufReplace
    rw [if_pos h, pLen_d, pGt_t (by omega), ifB_t]; rfl
  · rw [if_neg h]
    cases h1 : bufG b with
    | false =>
      unfold spec_BufReplace
      rw [pLen_d, pGt_f (by omega), ifB_f, spec_BufRight_eq N b hN, bindO_s, h1]; rfl
    | true =>
      cases h2 : ptsG ps with
      | false =>
        unfold spec_BufReplace
        rw [pLen_d, pGt_f (by omega), ifB_f, spec_BufRight_eq N b hN, bindO_s, h1, spec_PointsRight_eq N ps hN, h2]; rfl
      | true =>
        obtain ⟨h3, h4, h5, h6, h7⟩ := bufG_iff.1 h1
        have := ptsG_len h3
        rw [spec_Replace_eq N b _ _ ps h1 h2 (by omega) (by omega) hN, bindO_s]; rfl

theorem replG_ok {b : BufT} {ps : List Int} (hb : bufG b = true) (hp : ptsG ps = true) (h0 : (replG b b.2.1 b.2.1 ps).2.2.1 = 0) :
    replG b b.2.1 b.2.1 ps = ((b.1.take b.2.1.toNat ++ ps ++ b.1.drop b.2.1.toNat, (((b.2.1.toNat + ps.length : Nat) : Int), (mvG b.2.2.1 b.2.1 b.2.1 ps.length, ()))), ([], (0, ()))) ∧ b.1.length + ps.length ≤ 300 := by
  obtain ⟨h1, h2, h3, h4, h5⟩ := bufG_iff.1 hb
  have hl := ptsG_len h1
  unfold replG at h0 ⊢
  rw [if_neg (by omega)] at h0 ⊢
  by_cases h : 300 < (b.1.length : Int) - (b.2.1 - b.2.1) + ps.length
  · rw [if_pos h] at h0; exact absurd h0 (by simp [failG])
  · rw [if_neg h, if_pos ⟨rfl, rfl⟩]
    refine ⟨?_, by omega⟩
    have e1 : sub b.1 0 b.2.1 = b.1.take b.2.1.toNat := by unfold sub; rfl
    have e2 : sub b.1 b.2.1 (b.1.length : Int) = b.1.drop b.2.1.toNat := by unfold sub; simp
    have e3 : sub b.1 b.2.1 b.2.1 = [] := by unfold sub; simp
    have e4 : (b.2.1 : Int) + ps.length = ((b.2.1.toNat + ps.length : Nat) : Int) := by omega
    have e5 : (ps.length : Int) - (b.2.1 - b.2.1) = ps.length := by omega
    rw [e1, e2, e3, e4, e5]

theorem ptsG_app {x y : List Int} (hx : ptsG x = true) (hy : ptsG y = true) (hl : x.length + y.length ≤ 300) : ptsG (x ++ y) = true := by
  unfold ptsG at hx hy ⊢
  simp only [Bool.and_eq_true, decide_eq_true_eq, List.all_eq_true, List.mem_append, List.length_append] at hx hy ⊢
  exact ⟨hl, fun a ha => ha.elim (hx.2 a) (hy.2 a)⟩

theorem ins_right {b : BufT} {ps : List Int} (hb : bufG b = true) (hp : ptsG ps = true) (hl : b.1.length + ps.length ≤ 300) (c : Int) (h0 : 0 ≤ c) (h1 : c ≤ b.1.length + ps.length) :
    bufG (b.1.take b.2.1.toNat ++ ps ++ b.1.drop b.2.1.toNat, (c, (mvG b.2.2.1 b.2.1 b.2.1 ps.length, ()))) = true := by
  obtain ⟨k1, k2, k3, k4, k5⟩ := bufG_iff.1 hb
  have hln : (b.1.take b.2.1.toNat ++ ps ++ b.1.drop b.2.1.toNat).length = b.1.length + ps.length := by simp; omega
  refine bufG_iff.2 ⟨?_, h0, ?_, ?_, ?_⟩
  · refine ptsG_app (ptsG_app (ptsG_sub k1 (List.take_sublist _ _)) hp ?_) (ptsG_sub k1 (List.drop_sublist _ _)) ?_
    · simp; omega
    · simp; omega
  · show c ≤ ((b.1.take b.2.1.toNat ++ ps ++ b.1.drop b.2.1.toNat).length : Int); rw [hln]; omega
  · unfold mvG; simp only; split <;> (try split) <;> omega
  · rw [hln]; unfold mvG; simp only; split <;> (try split) <;> omega

theorem lwBuf_self (N : Nat) (b : BufT) (h : b.1.length ≤ 1000) (hN : 2000 < N) : laws_lwBuf N b b = some true := by
  unfold laws_lwBuf
  rw [lwSame_self N b.1 h hN, bindO_s, ifB_t, pEq_t rfl, bindO_s, ifB_t, pEq_t rfl, bindO_s]

end Go.AE.F
namespace Go.AE.F
open Go.AE
abbrev UndoT := List BufT × List BufT × Unit
abbrev UOutT := UndoT × BufT × Int × Unit

/-- a list that is copied element by element -/
theorem grow_loop {A R : Type} {P : A → Option A} {l : List A} (hl : l.length ≤ 1048576) (hP : ∀ x ∈ l, P x = some x) {step : List A × Int × List A × Unit → (List A × Int × List A × Unit → Option R) → (List A × Unit → Option R) → Option R}
    (hs : ∀ i out kn kx, step (l, i, out, ()) kn kx = ifB (pLt i (l.length : Int)) (bindO (idx l i) fun y => bindO (P y) fun z => ifB (pFit out [z]) (kn (l, pAdd .i64 i 1, pApp out [z], ())) none) (kx (out, ()))) (k : List A × Unit → Option R) : ∀ (m i n : Nat), l.length - i = m → i ≤ l.length → m < n →
    loopP step n (l, (i : Int), l.take i, ()) k = k (l, ()) := by
  intro m
  induction m with
  | zero =>
    intro i n hm hi hn
    obtain ⟨n, rfl⟩ := succ_of hn
    rw [loopP_s, hs, pLt_f (by omega), ifB_f, List.take_of_length_le (by omega)]
  | succ m ih =>
    intro i n hm hi hn
    obtain ⟨n, rfl⟩ := succ_of hn
    have hlt : i < l.length := by omega
    rw [loopP_s, hs, pLt_t (by omega), ifB_t, idx_lt hlt, bindO_s, hP _ (List.getElem_mem hlt), bindO_s, pFit_t (by simp; omega), ifB_t, pAdd_i (by omega) (by omega)]
    have e : pApp (l.take i) [l[i]] = l.take (i + 1) := by rw [List.take_succ_eq_append_getElem hlt]; rfl
    rw [e]
    exact ih (i + 1) n (by omega) (by omega) (by omega)

theorem grow_loop2 {A R : Type} {P : A → Option A} {l : List A} (hl : l.length ≤ 1048576) (hP : ∀ x ∈ l, P x = some x) {step : List A × Int × Int × List A × Unit → (List A × Int × Int × List A × Unit → Option R) → (List A × Unit → Option R) → Option R}
    (hs : ∀ i out kn kx, step (l, (l.length : Int), i, out, ()) kn kx = ifB (pLt i (l.length : Int)) (bindO (idx l i) fun y => bindO (P y) fun z => ifB (pFit out [z]) (kn (l, (l.length : Int), pAdd .i64 i 1, pApp out [z], ())) none) (kx (out, ()))) (k : List A × Unit → Option R) : ∀ (m i n : Nat), l.length - i = m → i ≤ l.length → m < n →
    loopP step n (l, (l.length : Int), (i : Int), l.take i, ()) k = k (l, ()) := by
  intro m
  induction m with
  | zero =>
    intro i n hm hi hn
    obtain ⟨n, rfl⟩ := succ_of hn
    rw [loopP_s, hs, pLt_f (by omega), ifB_f, List.take_of_length_le (by omega)]
  | succ m ih =>
    intro i n hm hi hn
    obtain ⟨n, rfl⟩ := succ_of hn
    have hlt : i < l.length := by omega
    rw [loopP_s, hs, pLt_t (by omega), ifB_t, idx_lt hlt, bindO_s, hP _ (List.getElem_mem hlt), bindO_s, pFit_t (by simp; omega), ifB_t, pAdd_i (by omega) (by omega)]
    have e : pApp (l.take i) [l[i]] = l.take (i + 1) := by rw [List.take_succ_eq_append_getElem hlt]; rfl
    rw [e]
    exact ih (i + 1) n (by omega) (by omega) (by omega)

theorem bufG_len {b : BufT} (h : bufG b = true) : b.1.length ≤ 300 := ptsG_len (bufG_iff.1 h).1

theorem copy2_eq (N : Nat) (b : BufT) (h : b.1.length ≤ 68719476736) : spec_l02Copy N b = some b := by
  unfold spec_l02Copy; rw [copy_eq N _ h, bindO_s]
theorem ownBuf_eq (N : Nat) (b : BufT) (h : b.1.length ≤ 68719476736) : impl_ownBuf N b = some b := by
  unfold impl_ownBuf; rw [clone_eq N _ h, bindO_s]

theorem copyBufs_eq (N : Nat) (l : List BufT) (hl : l.length ≤ 1000) (hN : 1001 < N) (hx : ∀ b ∈ l, bufG b = true) : spec_l05CopyBufs N l = some l := by
  unfold spec_l05CopyBufs
  exact grow_loop (P := spec_l02Copy N) (by omega) (fun b hb => copy2_eq N b (by have := bufG_len (hx b hb); omega)) (step := spec_l05CopyBufs.l3 N) (fun i out kn kx => rfl) _ _ 0 N rfl (by omega) (by omega)
theorem ownBufs_eq (N : Nat) (l : List BufT) (hl : l.length ≤ 1000) (hN : 1001 < N) (hx : ∀ b ∈ l, bufG b = true) : impl_ownBufs N l = some l := by
  unfold impl_ownBufs
  rw [pLen_d]
  exact grow_loop2 (P := impl_ownBuf N) (by omega) (fun b hb => ownBuf_eq N b (by have := bufG_len (hx b hb); omega)) (step := impl_ownBufs.l3 N) (fun i out kn kx => rfl) _ _ 0 N rfl (by omega) (by omega)

def bufsG (l : List BufT) : Bool := decide (l.length ≤ 20) && l.all bufG

theorem spec_bufs_eq (N : Nat) (l : List BufT) (hN : 301 < N) : spec_l05Bufs N l = some (bufsG l) := by
  unfold spec_l05Bufs bufsG
  rw [pLen_d]
  by_cases h : l.length ≤ 20
  · rw [pGt_f (by omega), ifB_f, decide_eq_true h, Bool.true_and]
    have := all_loop (R := Bool) (P := spec_BufRight N) (p := bufG) (xs := l) (by omega) (step := spec_l05Bufs.l4 N) (fun i kn kx => rfl) (fun x _ => spec_BufRight_eq N x hN)
      (onSum (fun d => some true) (fun d => let x37 := d.1; some x37)) _ 0 N rfl (by omega) (by omega)
    rw [List.drop_zero] at this
    refine Eq.trans this ?_
    cases l.all bufG <;> rfl
  · rw [pGt_t (by omega), ifB_t, decide_eq_false h]; rfl

theorem impl_bufs_eq (N : Nat) (l : List BufT) (hl : l.length ≤ 1000) (hN : 1001 < N) (hx : ∀ b ∈ l, b.1.length ≤ 1000) : impl_areBufs N l = some (bufsG l) := by
  unfold impl_areBufs slices_ContainsFunc_Simpl_Buf_impl_Buf__impl_areBufs_c1 slices_IndexFunc_Simpl_Buf_impl_Buf__impl_areBufs_c1 bufsG
  rw [pLen_d, contains_all (P := impl_areBufs_c1 N) (p := bufG) (step := fun {R} => slices_IndexFunc_Simpl_Buf_impl_Buf__impl_areBufs_c1.l2 (R := R) N) (by omega) (by omega) (fun i kn kx => rfl) (fun x h => by
    unfold impl_areBufs_c1
    have := hx x h
    rw [impl_BufRight_eq N x (by omega) (by omega), bindO_s, pNot_d]), bindO_s, pNot_d, Bool.not_not]
  have e : pLe (l.length : Int) 20 = decide (l.length ≤ 20) := by rw [pLe_d]; congr 1; simp; omega
  rw [e, ifB_and, bindO_s]

def undoG (u : UndoT) : Bool := bufsG u.1 && bufsG u.2.1
theorem spec_UndoRight_eq (N : Nat) (u : UndoT) (hN : 301 < N) : spec_UndoRight N u = some (undoG u) := by
  unfold spec_UndoRight undoG
  rw [spec_bufs_eq N _ hN, spec_bufs_eq N _ hN]
  simp only [bindO_s, ifB_and]

theorem bufsG_iff {l : List BufT} : bufsG l = true ↔ l.length ≤ 20 ∧ ∀ b ∈ l, bufG b = true := by
  unfold bufsG
  simp only [Bool.and_eq_true, decide_eq_true_eq, List.all_eq_true]

theorem undoG_iff {u : UndoT} : undoG u = true ↔ (u.1.length ≤ 20 ∧ ∀ b ∈ u.1, bufG b = true) ∧ (u.2.1.length ≤ 20 ∧ ∀ b ∈ u.2.1, bufG b = true) := by
  unfold undoG
  simp only [Bool.and_eq_true, bufsG_iff]

theorem impl_UndoRight_eq (N : Nat) (u : UndoT) (hN : 1001 < N) (h : undoG u = true) : impl_UndoRight N u = some true := by
  obtain ⟨⟨a1, a2⟩, ⟨a3, a4⟩⟩ := undoG_iff.1 h
  unfold impl_UndoRight
  rw [impl_bufs_eq N _ (by omega) hN (fun b hb => by have := bufG_len (a2 b hb); omega), impl_bufs_eq N _ (by omega) hN (fun b hb => by have := bufG_len (a4 b hb); omega), bufsG_iff.2 ⟨a1, a2⟩, bufsG_iff.2 ⟨a3, a4⟩]
  rfl

def behG (l : List BufT) (b : BufT) : List BufT := if 20 < l.length + 1 then (l ++ [b]).drop 1 else l ++ [b]

theorem behG_ok {l : List BufT} {b : BufT} (hl : l.length ≤ 20) (hx : ∀ b ∈ l, bufG b = true) (hb : bufG b = true) : (behG l b).length ≤ 20 ∧ ∀ x ∈ behG l b, bufG x = true := by
  have ha : ∀ x ∈ l ++ [b], bufG x = true := fun x h => by
    rw [List.mem_append] at h
    rcases h with h | h
    · exact hx x h
    · have : x = b := by simpa using h
      rw [this]; exact hb
  unfold behG
  split
  · exact ⟨by simp; omega, fun x h => ha x (List.mem_of_mem_drop h)⟩
  · exact ⟨by simp; omega, ha⟩

theorem spec_put_eq (N : Nat) (l : List BufT) (b : BufT) (hN : 1001 < N) (hl : l.length ≤ 20) (hx : ∀ b ∈ l, bufG b = true) (hb : bufG b = true) : spec_l05Put N l b = some (behG l b) := by
  unfold spec_l05Put behG
  have hbl := bufG_len hb
  rw [copyBufs_eq N l (by omega) hN hx, bindO_s, copy2_eq N b (by omega), bindO_s, pFit_t (by simp; omega), ifB_t]
  have el : pLen (pApp l [b]) = (l.length : Int) + 1 := by simp [pLen, pApp]
  rw [el]
  by_cases h : 20 < l.length + 1
  · rw [pGt_t (by omega), ifB_t, pLe_t (by omega), ifB_t, pLe_t (by omega), ifB_t, pLe_t (Int.le_refl _), ifB_t, if_pos h]
    congr 1
    unfold sub pApp
    rw [List.take_of_length_le (by simp)] <;> rfl
  · rw [pGt_f (by omega), ifB_f, if_neg h]; rfl

theorem impl_beh_eq (N : Nat) (l : List BufT) (b : BufT) (hN : 1001 < N) (hl : l.length ≤ 20) (hx : ∀ b ∈ l, bufG b = true) (hb : bufG b = true) : impl_behindBufs N l b = some (behG l b) := by
  unfold impl_behindBufs behG
  have hbl := bufG_len hb
  rw [ownBufs_eq N l (by omega) hN hx, bindO_s, ownBuf_eq N b (by omega), bindO_s, pFit_t (by simp; omega), ifB_t]
  have el : pLen (pApp l [b]) = (l.length : Int) + 1 := by simp [pLen, pApp]
  rw [el, pSub_i (by omega) (by omega)]
  by_cases h : 20 < l.length + 1
  · have em : pMax ((l.length : Int) + 1 - 20) 0 = 1 := by unfold pMax; rw [if_neg (by omega)]; omega
    rw [em, pLe_t (by omega), ifB_t, pLe_t (by omega), ifB_t, pLe_t (Int.le_refl _), ifB_t, if_pos h]
    congr 1
    unfold sub pApp
    rw [List.take_of_length_le (by simp)] <;> rfl
  · have em : pMax ((l.length : Int) + 1 - 20) 0 = 0 := by unfold pMax; split <;> omega
    rw [em, pLe_t (by omega), ifB_t, pLe_t (by omega), ifB_t, pLe_t (Int.le_refl _), ifB_t, if_neg h]
    congr 1
    unfold sub pApp
    rw [List.take_of_length_le (by simp)] <;> rfl

/-- one item of a run: an undoing, where it is empty, else an insertion -/
def stepU (s : UndoT × BufT) (p : List Int) : UndoT × BufT :=
  if p.length = 0 then
    (match s.1.1.getLast? with
    | none => s
    | some b => ((s.1.1.dropLast, (behG s.1.2.1 s.2, ())), b))
  else if (replG s.2 s.2.2.1 s.2.2.1 p).2.2.1 = 0 then ((behG s.1.1 s.2, ([], ())), (replG s.2 s.2.2.1 s.2.2.1 p).1) else s

def UInv (s : UndoT × BufT) : Prop := undoG s.1 = true ∧ bufG s.2 = true

theorem repl_right {b : BufT} {p : List Int} (hb : bufG b = true) (hp : ptsG p = true) (h0 : (replG b b.2.1 b.2.1 p).2.2.1 = 0) : bufG (replG b b.2.1 b.2.1 p).1 = true := by
  obtain ⟨e1, e2⟩ := replG_ok hb hp h0
  obtain ⟨q1, q2, q3, q4, q5⟩ := bufG_iff.1 hb
  rw [e1]
  exact ins_right hb hp e2 _ (by omega) (by omega)

theorem stepU_inv {s : UndoT × BufT} {p : List Int} (h : UInv s) (hp : ptsG p = true) : UInv (stepU s p) := by
  obtain ⟨h1, h2⟩ := h
  obtain ⟨⟨a1, a2⟩, ⟨a3, a4⟩⟩ := undoG_iff.1 h1
  unfold stepU
  split
  · cases hg : s.1.1.getLast? with
    | none => exact ⟨h1, h2⟩
    | some b =>
      have hb : b ∈ s.1.1 := List.mem_of_getLast? hg
      exact ⟨undoG_iff.2 ⟨⟨by simp; omega, fun x hx => a2 x (List.dropLast_subset _ hx)⟩, behG_ok a3 a4 h2⟩, a2 b hb⟩
  · split
    · rename_i h0
      exact ⟨undoG_iff.2 ⟨behG_ok a1 a2 h2, ⟨by simp, fun x hx => by cases hx⟩⟩, repl_right h2 hp h0⟩
    · exact ⟨h1, h2⟩

def ubackG (u : UndoT) (b : BufT) : UOutT := match u.1.getLast? with
  | none => (([], ([], ())), (([], (0, (0, ()))), (4, ())))
  | some x => ((u.1.dropLast, (behG u.2.1 b, ())), (x, (0, ())))

theorem last_idx {l : List BufT} (h : l.length ≠ 0) : ∃ b, l.getLast? = some b ∧ idx l ((l.length : Int) - 1) = some b ∧ sub l 0 ((l.length : Int) - 1) = l.dropLast := by
  obtain ⟨q, b, rfl⟩ : ∃ q b, l = q ++ [b] := by
    rcases List.eq_nil_or_concat l with e | ⟨q, b, e⟩
    · rw [e] at h; exact absurd rfl h
    · exact ⟨q, b, by rw [e, List.concat_eq_append]⟩
  refine ⟨b, by simp, ?_, ?_⟩
  · rw [show (((q ++ [b]).length : Int) - 1) = (q.length : Int) by simp, idx_n]; simp
  · unfold sub
    rw [show (((q ++ [b]).length : Int) - 1).toNat = q.length by simp]; simp

theorem spec_Back_eq (N : Nat) (u : UndoT) (b : BufT) (hN : 1001 < N) (hu : undoG u = true) (hb : bufG b = true) : spec_UndoBack N u b = some (ubackG u b) := by
  obtain ⟨⟨a1, a2⟩, ⟨a3, a4⟩⟩ := undoG_iff.1 hu
  unfold spec_UndoBack ubackG
  rw [spec_UndoRight_eq N u (by omega), bindO_s, spec_BufRight_eq N b (by omega), hu, hb]
  have e1 : pNot true = false := rfl
  simp only [e1, ifB_f, bindO_s, pLen_d]
  by_cases h : u.1.length = 0
  · have : u.1 = [] := List.eq_nil_of_length_eq_zero h
    rw [pEq_t (by omega), ifB_t, this]; rfl
  · obtain ⟨x, l1, l2, l3⟩ := last_idx h
    have hx : x ∈ u.1 := List.mem_of_getLast? l1
    have hxl := bufG_len (a2 x hx)
    rw [pEq_f (by omega), ifB_f, pSub_i (by omega) (by omega), pLe_t (by omega), ifB_t, pLe_t (by omega), ifB_t, pLe_t (by omega), ifB_t, l3, copyBufs_eq N _ (by simp; omega) hN (fun y hy => a2 y (List.dropLast_subset _ hy)), bindO_s, spec_put_eq N _ b hN a3 a4 hb, bindO_s, l2, bindO_s, copy2_eq N x (by omega), bindO_s, l1]

theorem impl_Back_eq (N : Nat) (u : UndoT) (b : BufT) (hN : 1001 < N) (hu : undoG u = true) (hb : bufG b = true) : impl_UndoBack N u b = some (ubackG u b) := by
  obtain ⟨⟨a1, a2⟩, ⟨a3, a4⟩⟩ := undoG_iff.1 hu
  have hbl := bufG_len hb
  unfold impl_UndoBack ubackG
  rw [impl_UndoRight_eq N u hN hu, bindO_s, impl_BufRight_eq N b (by omega) (by omega), hb]
  have e1 : pNot true = false := rfl
  simp only [e1, ifB_f, bindO_s, pLen_d]
  rw [pSub_i (by omega) (by omega)]
  by_cases h : u.1.length = 0
  · have : u.1 = [] := List.eq_nil_of_length_eq_zero h
    rw [pLt_t (by omega), ifB_t, this]; rfl
  · obtain ⟨x, l1, l2, l3⟩ := last_idx h
    have hx : x ∈ u.1 := List.mem_of_getLast? l1
    have hxl := bufG_len (a2 x hx)
    rw [pLt_f (by omega), ifB_f, pLe_t (by omega), ifB_t, pLe_t (by omega), ifB_t, pLe_t (by omega), ifB_t, l2, bindO_s, l3, ownBufs_eq N _ (by simp; omega) hN (fun y hy => a2 y (List.dropLast_subset _ hy)), bindO_s, impl_beh_eq N _ b hN a3 a4 hb, bindO_s, ownBuf_eq N x (by omega), bindO_s, l1]

theorem spec_Note_eq (N : Nat) (u : UndoT) (b : BufT) (hN : 1001 < N) (hu : undoG u = true) (hb : bufG b = true) : spec_UndoNote N u b = some (behG u.1 b, ([], ())) := by
  obtain ⟨⟨a1, a2⟩, ⟨a3, a4⟩⟩ := undoG_iff.1 hu
  unfold spec_UndoNote
  rw [spec_UndoRight_eq N u (by omega), bindO_s, spec_BufRight_eq N b (by omega), hu, hb]
  have e1 : pNot true = false := rfl
  simp only [e1, ifB_f, bindO_s]
  rw [spec_put_eq N _ b hN a1 a2 hb, bindO_s]

theorem impl_Note_eq (N : Nat) (u : UndoT) (b : BufT) (hN : 1001 < N) (hu : undoG u = true) (hb : bufG b = true) : impl_UndoNote N u b = some (behG u.1 b, ([], ())) := by
  obtain ⟨⟨a1, a2⟩, ⟨a3, a4⟩⟩ := undoG_iff.1 hu
  have hbl := bufG_len hb
  unfold impl_UndoNote
  rw [impl_UndoRight_eq N u hN hu, bindO_s, impl_BufRight_eq N b (by omega) (by omega), hb]
  have e1 : pNot true = false := rfl
  simp only [e1, ifB_f, bindO_s]
  rw [impl_beh_eq N _ b hN a1 a2 hb, bindO_s]

theorem implRun_loop {N : Nat} {R : Type} (hN : 2000 < N) (l : List (List Int)) (hl : l.length ≤ 1000) (hp : ∀ p ∈ l, ptsG p = true) (v : UOutT) (k : UOutT × UndoT × BufT × Unit → Option R) : ∀ (m i n : Nat) (s : UndoT × BufT), l.length - i = m → i ≤ l.length → m < n → UInv s →
    loopP (impl_UndoRun.l7 N) n (l, (l.length : Int), (i : Int), v, s.1, s.2, ()) k = k (v, ((l.drop i).foldl stepU s).1, ((l.drop i).foldl stepU s).2, ()) := by
  intro m
  induction m with
  | zero =>
    intro i n s hm hi hn hs
    obtain ⟨n, rfl⟩ := succ_of hn
    rw [loopP_s]; unfold impl_UndoRun.l7; simp only []
    rw [pLt_f (by omega), ifB_f, List.drop_eq_nil_of_le (by omega)]; rfl
  | succ m ih =>
    intro i n s hm hi hn hs
    obtain ⟨n, rfl⟩ := succ_of hn
    have hlt : i < l.length := by omega
    have hpi := hp _ (List.getElem_mem hlt)
    have hpl := ptsG_len hpi
    obtain ⟨h1, h2⟩ := hs
    obtain ⟨_, b2, b3, _, _⟩ := bufG_iff.1 h2
    have hbl := bufG_len h2
    have hgo := ih (i + 1) n (stepU s l[i]) (by omega) (by omega) (by omega) (stepU_inv ⟨h1, h2⟩ hpi)
    rw [loopP_s]; unfold impl_UndoRun.l7; simp only []
    rw [pLt_t (by omega), ifB_t, idx_lt hlt, bindO_s, drop_c hlt, List.foldl_cons]
    have ei : pAdd .i64 (i : Int) 1 = ((i + 1 : Nat) : Int) := by rw [pAdd_i (by omega) (by omega)]; rfl
    unfold stepU at hgo ⊢
    by_cases h0 : (l[i]).length = 0
    · rw [if_pos h0] at hgo ⊢
      rw [pLen_d, pEq_t (by omega), ifB_t, impl_Back_eq N s.1 s.2 (by omega) h1 h2, bindO_s]
      unfold ubackG
      cases hg : s.1.1.getLast? with
      | none =>
        rw [hg] at hgo
        simp only at hgo ⊢
        rw [pEq_f (by omega), ifB_f, bindO_s]
        simp only [ei]
        exact hgo
      | some x =>
        rw [hg] at hgo
        simp only at hgo ⊢
        rw [pEq_t rfl, ifB_t, bindO_s]
        simp only [ei]
        exact hgo
    · rw [if_neg h0] at hgo ⊢
      rw [pLen_d, pEq_f (by omega), ifB_f, impl_replace_eq N s.2 _ _ _ h2 (by omega) (by omega) (by omega) (by omega), bindO_s]
      by_cases hc : (replG s.2 s.2.2.1 s.2.2.1 l[i]).2.2.1 = 0
      · rw [if_pos hc] at hgo ⊢
        rw [pEq_t hc, ifB_t, impl_Note_eq N s.1 s.2 (by omega) h1 h2, bindO_s, bindO_s]
        simp only [ei]
        exact hgo
      · rw [if_neg hc] at hgo ⊢
        rw [pEq_f hc, ifB_f, bindO_s]
        simp only [ei]
        exact hgo

theorem specRun_loop {N : Nat} {R : Type} (hN : 2000 < N) (l : List (List Int)) (hl : l.length ≤ 1000) (hp : ∀ p ∈ l, ptsG p = true) (v : UOutT) (k : UOutT × UOutT × Unit → Option R) : ∀ (m i n : Nat) (s : UndoT × BufT), l.length - i = m → i ≤ l.length → m < n → UInv s →
    loopP (spec_UndoRun.l12 N) n (l, (i : Int), v, (s.1, (s.2, (0, ()))), ()) k = k (v, (((l.drop i).foldl stepU s).1, (((l.drop i).foldl stepU s).2, (0, ()))), ()) := by
  intro m
  induction m with
  | zero =>
    intro i n s hm hi hn hs
    obtain ⟨n, rfl⟩ := succ_of hn
    rw [loopP_s]; unfold spec_UndoRun.l12; simp only [pLen_d]
    rw [pLt_f (by omega), ifB_f, List.drop_eq_nil_of_le (by omega)]; rfl
  | succ m ih =>
    intro i n s hm hi hn hs
    obtain ⟨n, rfl⟩ := succ_of hn
    have hlt : i < l.length := by omega
    have hpi := hp _ (List.getElem_mem hlt)
    have hpl := ptsG_len hpi
    obtain ⟨h1, h2⟩ := hs
    obtain ⟨_, b2, b3, _, _⟩ := bufG_iff.1 h2
    have hbl := bufG_len h2
    have hgo := ih (i + 1) n (stepU s l[i]) (by omega) (by omega) (by omega) (stepU_inv ⟨h1, h2⟩ hpi)
    rw [loopP_s]; unfold spec_UndoRun.l12; simp only [pLen_d]
    rw [pLt_t (by omega), ifB_t, idx_lt hlt, bindO_s, bindO_s, drop_c hlt, List.foldl_cons]
    have ei : pAdd .i64 (i : Int) 1 = ((i + 1 : Nat) : Int) := by rw [pAdd_i (by omega) (by omega)]; rfl
    unfold stepU at hgo ⊢
    by_cases h0 : (l[i]).length = 0
    · rw [if_pos h0] at hgo ⊢
      rw [pEq_t (by omega), ifB_t, spec_Back_eq N s.1 s.2 (by omega) h1 h2, bindO_s]
      unfold ubackG
      cases hg : s.1.1.getLast? with
      | none =>
        rw [hg] at hgo
        simp only at hgo ⊢
        rw [pEq_f (by omega), ifB_f, bindO_s]
        simp only [ei]
        exact hgo
      | some x =>
        rw [hg] at hgo
        simp only at hgo ⊢
        rw [pEq_t rfl, ifB_t, bindO_s]
        simp only [ei]
        exact hgo
    · rw [if_neg h0] at hgo ⊢
      rw [pEq_f (by omega), ifB_f, spec_Insert_eq N s.2 _ (by omega), bindO_s]
      have ein : insG s.2 l[i] = replG s.2 s.2.2.1 s.2.2.1 l[i] := by
        unfold insG; rw [if_neg (by omega), if_neg (by rw [h2, hpi]; simp)]
      rw [ein]
      by_cases hc : (replG s.2 s.2.2.1 s.2.2.1 l[i]).2.2.1 = 0
      · rw [if_pos hc] at hgo ⊢
        rw [pEq_t hc, ifB_t, spec_Note_eq N s.1 s.2 (by omega) h1 h2, bindO_s, bindO_s]
        simp only [ei]
        exact hgo
      · rw [if_neg hc] at hgo ⊢
        rw [pEq_f hc, ifB_f, bindO_s]
        simp only [ei]
        exact hgo

def failU (c : Int) : UOutT := (([], ([], ())), (([], (0, (0, ()))), (c, ())))
def runG (b : BufT) (l : List (List Int)) : UOutT :=
  if 400 < l.length then failU 2 else if (bufG b && l.all ptsG) = false then failU 1 else
  ((l.foldl stepU (([], ([], ())), b)).1, ((l.foldl stepU (([], ([], ())), b)).2, (0, ())))

theorem specPts_loop {N : Nat} {R : Type} (hN : 301 < N) (l : List (List Int)) (hl : l.length ≤ 1000) (b : BufT) (v : UOutT) (k : (List (List Int) × BufT × UOutT × Unit) ⊕ (UOutT × Unit) → Option R) : ∀ (m i n : Nat), l.length - i = m → i ≤ l.length → m < n →
    loopP (spec_UndoRun.l6 N) n (l, (i : Int), b, v, ()) k = if (l.drop i).all ptsG = true then k (.inl (l, b, v, ())) else k (.inr (failU 1, ())) := by
  intro m
  induction m with
  | zero =>
    intro i n hm hi hn
    obtain ⟨n, rfl⟩ := succ_of hn
    rw [loopP_s]; unfold spec_UndoRun.l6; simp only [pLen_d]
    rw [pLt_f (by omega), ifB_f, List.drop_eq_nil_of_le (by omega)]; rfl
  | succ m ih =>
    intro i n hm hi hn
    obtain ⟨n, rfl⟩ := succ_of hn
    have hlt : i < l.length := by omega
    rw [loopP_s]; unfold spec_UndoRun.l6; simp only [pLen_d]
    rw [pLt_t (by omega), ifB_t, idx_lt hlt, bindO_s, spec_PointsRight_eq N _ hN, bindO_s, drop_c hlt, List.all_cons]
    cases hp : ptsG l[i] with
    | false => simp [pNot_d, ifB_t, failU]
    | true =>
      rw [pNot_d, Bool.not_true, ifB_f, pAdd_i (by omega) (by omega), Bool.true_and]
      exact ih (i + 1) n (by omega) (by omega) (by omega)

theorem UInv_0 {b : BufT} (h : bufG b = true) : UInv (([], ([], ())), b) := ⟨undoG_iff.2 ⟨⟨by simp, fun x hx => by cases hx⟩, ⟨by simp, fun x hx => by cases hx⟩⟩, h⟩

theorem spec_UndoRun_eq (N : Nat) (b : BufT) (l : List (List Int)) (hN : 2000 < N) (hb : b.1.length ≤ 1000) : spec_UndoRun N b l = some (runG b l) := by
  unfold spec_UndoRun runG
  rw [pLen_d]
  by_cases hl : 400 < l.length
  · rw [pGt_t (by omega), ifB_t, if_pos hl]; rfl
  rw [pGt_f (by omega), ifB_f, if_neg hl, spec_BufRight_eq N b (by omega), bindO_s, pNot_d]
  cases h1 : bufG b with
  | false => rfl
  | true =>
    rw [Bool.not_true, ifB_f]
    have := specPts_loop (N := N) (by omega) l (by omega) b (([], ([], ())), (([], (0, (0, ()))), (0, ()))) (onSum (fun d =>
          let x55 := d.1;
          let x56 := d.2.1;
          let x57 := d.2.2.1;
          bindO (spec_l02Copy N x56) fun y58 =>
          loopP (spec_UndoRun.l12 N) N (x55, 0, x57, (([], ([], ())), (y58, (0, ()))), ()) (
            fun d =>
            let x72 := d.1;
            let x73 := d.2.1;
            some x73)) (
        fun d =>
        let x74 := d.1;
        some x74)) _ 0 N rfl (by omega) (by omega)
    rw [List.drop_zero] at this
    refine Eq.trans this ?_
    cases h2 : l.all ptsG with
    | false => rfl
    | true =>
      rw [if_pos rfl, if_neg (by simp)]
      simp only [onSum]
      rw [copy2_eq N b (by omega), bindO_s]
      have h3 := specRun_loop (N := N) (R := UOutT) hN l (by omega) (fun p hp => List.all_eq_true.1 h2 p hp) (([], ([], ())), (([], (0, (0, ()))), (0, ()))) (fun d => let x72 := d.1; let x73 := d.2.1; some x73) _ 0 N (([], ([], ())), b) rfl (by omega) (by omega) (UInv_0 h1)
      rw [List.drop_zero] at h3
      exact h3

theorem impl_UndoRun_eq (N : Nat) (b : BufT) (l : List (List Int)) (hN : 2000 < N) (hb : b.1.length ≤ 1000) (hl : l.length ≤ 1000) (hx : ∀ x ∈ l, x.length ≤ 1000) : impl_UndoRun N b l = some (runG b l) := by
  unfold impl_UndoRun runG impl_isMany slices_ContainsFunc_S_Sint64__Sint64__impl_UndoRun_c1 slices_IndexFunc_S_Sint64__Sint64__impl_UndoRun_c1
  rw [pLen_d, contains_all (P := impl_UndoRun_c1 N) (p := ptsG) (step := fun {R} => slices_IndexFunc_S_Sint64__Sint64__impl_UndoRun_c1.l2 (R := R) N) (by omega) (by omega) (fun i kn kx => rfl) (fun x h => by
    unfold impl_UndoRun_c1
    have := hx x h
    rw [impl_PointsRight_eq N x (by omega) (by omega), bindO_s, pNot_d]), impl_BufRight_eq N b (by omega) (by omega)]
  simp only [bindO_s, pNot_d]
  by_cases hl4 : 400 < l.length
  · rw [pGt_t (by omega), ifB_t, if_pos hl4]; rfl
  rw [pGt_f (by omega), ifB_f, if_neg hl4, ifB_or, bindO_s]
  cases h1 : bufG b with
  | false => rfl
  | true =>
    cases h2 : l.all ptsG with
    | false => rfl
    | true =>
      rw [show (!true || !true) = false from rfl, ifB_f, if_neg (by simp), ownBuf_eq N b (by omega), bindO_s]
      have h3 := implRun_loop (N := N) (R := UOutT) hN l (by omega) (fun p hp => List.all_eq_true.1 h2 p hp) (([], ([], ())), (([], (0, (0, ()))), (0, ()))) (fun d =>
        let x61 := d.1;
        let x62 := d.2.1;
        let x63 := d.2.2.1;
        some (x62, (x63, (0, ())))) _ 0 N (([], ([], ())), b) rfl (by omega) (by omega) (UInv_0 h1)
      rw [List.drop_zero] at h3
      exact h3

end Go.AE.F
namespace Go.AE.F
open Go.AE
theorem dundo_loop {N : Nat} {R : Type} (hN : 100001 < N) (b0 b : BufT) (k : BufT × SrcT × BufT × List (List Int) × Unit → Option R) : ∀ (m n : Nat) (s : SrcT) (out : List (List Int)), m < n → srcOk s → out.length + m ≤ 900 → (∀ x ∈ out, x.length ≤ 10) →
    ∃ s' out', loopP (spec_DrawUndoRun.l5 N) n ((m : Int), b0, s, b, out, ()) k = k (b0, s', b, out', ()) ∧ srcOk s' ∧ out'.length ≤ 900 ∧ ∀ x ∈ out', x.length ≤ 10 := by
  intro m
  induction m with
  | zero =>
    intro n s out hn hs hl hx
    obtain ⟨n, rfl⟩ := succ_of hn
    refine ⟨s, out, ?_, hs, by omega, hx⟩
    rw [loopP_s]; unfold spec_DrawUndoRun.l5; simp only []
    rw [pGt_f (by omega), ifB_f]
  | succ m ih =>
    intro n s out hn hs hl hx
    obtain ⟨n, rfl⟩ := succ_of hn
    obtain ⟨v, h1, hv⟩ := nT N s 4 hs (by omega)
    have hv2 := hv.2.2.2 (by omega)
    have hv0 := hv.2.1
    obtain ⟨p, h2, hp⟩ := dpoints_tot N v.2 (1 + v.1) hv.1 (by omega) (by omega) hN
    have hpl := hp.2
    obtain ⟨o, h3, ho⟩ := oneT N p.2 3 hp.1 (by omega)
    have happ : ∀ z : List Int, z.length ≤ 10 → ∀ x ∈ pApp out [z], x.length ≤ 10 := fun z hz x h => by
      unfold pApp at h
      rw [List.mem_append] at h
      rcases h with h | h
      · exact hx x h
      · have : x = z := by simpa using h
        rw [this]; exact hz
    have es : pSub .i64 (((m + 1 : Nat)) : Int) 1 = (m : Int) := by rw [pSub_i (by omega) (by omega)]; omega
    obtain ⟨s', o', g1, g2, g3, g4⟩ := ih n o.2 (pApp out [if o.1 = true then [] else p.1]) (by omega) ho (by simp [pApp]; omega) (happ _ (by split; exact Nat.zero_le _; omega))
    refine ⟨s', o', ?_, g2, g3, g4⟩
    rw [loopP_s]; unfold spec_DrawUndoRun.l5; simp only []
    rw [pGt_t (by omega), ifB_t, h1, bindO_s, pAdd_i (by omega) (by omega), h2, bindO_s, h3, bindO_s]
    cases hc : o.1 with
    | true =>
      rw [ifB_t, pFit_t (by simp; omega), ifB_t, bindO_s]
      simp only [es]
      rw [hc] at g1
      exact g1
    | false =>
      rw [ifB_f, pFit_t (by simp; omega), ifB_t, bindO_s]
      simp only [es]
      rw [hc] at g1
      exact g1

theorem dundo_tot (N : Nat) (hN : 100200 < N) (a : List Int) (ha : a.length ≤ 1048576) : Tot (fun r : BufT × List (List Int) => r.1.1.length ≤ 1000 ∧ r.2.length ≤ 1000 ∧ ∀ x ∈ r.2, x.length ≤ 10) (spec_DrawUndoRun N a) := by
  unfold spec_DrawUndoRun
  obtain ⟨s, h1, hs⟩ := source_ok N a ha (by omega)
  rw [h1, bindO_s]
  refine Tot.bind (dbuf_tot N (by omega) s hs) fun b hb => ?_
  have hz := hb.1.2.2.2
  have e1 : pMul .i64 3 b.2.2.2.2.1 = 3 * b.2.2.2.2.1 := wrap_i64 (by omega) (by omega)
  rw [e1, pAdd_i (a := 6) (by omega) (by omega)]
  refine Tot.bind (nT N b.2 _ hb.1 (by omega)) fun v hv => ?_
  have hv0 := hv.2.1
  have hv1 := hv.2.2.2 (by omega)
  obtain ⟨q, hq⟩ : ∃ q : Nat, v.1 = (q : Int) := ⟨v.1.toNat, by omega⟩
  rw [hq]
  obtain ⟨s', o', g1, g2, g3, g4⟩ := dundo_loop (N := N) (by omega) ([], (0, (0, ()))) b.1 (fun d =>
    let x50 := d.1;
    let x51 := d.2.1;
    let x52 := d.2.2.1;
    let x53 := d.2.2.2.1;
    bindO (spec_l01Src_one N x51 20) fun y54 =>
    ifB y54.1 (
      ifB (pFit x53 [[(-1)]]) (
        some (x52, (pApp x53 [[(-1)]]))) (
        none)) (
      some (x52, x53))) q N v.2 [] (by omega) hv.1 (by simp; omega) (fun x h => by cases h)
  rw [g1]
  refine Tot.bind (oneT N _ 20 g2 (by omega)) fun o ho => ?_
  refine Tot.both (Tot.fit (by simp; omega) (Tot.ret ⟨hb.2, ?_, fun x h => ?_⟩)) (Tot.ret ⟨hb.2, by show o'.length ≤ 1000; omega, g4⟩)
  · show (pApp o' [[(-1)]]).length ≤ 1000
    simp [pApp]; omega
  · have h : x ∈ pApp o' [[(-1)]] := h
    unfold pApp at h
    rw [List.mem_append] at h
    rcases h with h | h
    · exact g4 x h
    · have : x = [(-1)] := by simpa using h
      rw [this]; simp

/-- the insertions of a run, up to the limit, and as many undoings -/
theorem both_loop {N : Nat} {R : Type} (l : List (List Int)) (hl : l.length ≤ 1000) (hx : ∀ x ∈ l, x.length ≤ 1000) (b : BufT) (k : BufT × List (List Int) × List (List Int) × Unit → Option R) : ∀ (m i n : Nat) (o1 : List (List Int)), l.length - i = m → i ≤ l.length → m < n → o1.length ≤ 20 → (∀ x ∈ o1, x ∈ l ∧ x.length ≠ 0) →
    ∃ o2 : List (List Int), loopP (laws_FnUndoAll.l9 N) n (l, (i : Int), b, o1, List.replicate o1.length [], ()) k = k (b, o2, List.replicate o2.length [], ()) ∧ o2.length ≤ 20 ∧ ∀ x ∈ o2, x ∈ l ∧ x.length ≠ 0 := by
  intro m
  induction m with
  | zero =>
    intro i n o1 hm hi hn h1 h2
    obtain ⟨n, rfl⟩ := succ_of hn
    refine ⟨o1, ?_, h1, h2⟩
    rw [loopP_s]; unfold laws_FnUndoAll.l9; simp only [pLen_d]
    rw [pLt_f (by omega), ifB_f]
  | succ m ih =>
    intro i n o1 hm hi hn h1 h2
    obtain ⟨n, rfl⟩ := succ_of hn
    have hlt : i < l.length := by omega
    have hxi := hx _ (List.getElem_mem hlt)
    have ei : pAdd .i64 (i : Int) 1 = ((i + 1 : Nat) : Int) := by rw [pAdd_i (by omega) (by omega)]; rfl
    by_cases hc : l[i].length ≠ 0 ∧ o1.length < 20
    · obtain ⟨o2, g1, g2, g3⟩ := ih (i + 1) n (o1 ++ [l[i]]) (by omega) (by omega) (by omega) (by simp; omega) (fun x h => by
        rw [List.mem_append] at h
        rcases h with h | h
        · exact h2 x h
        · have e : x = l[i] := by simpa using h
          rw [e]; exact ⟨List.getElem_mem hlt, hc.1⟩)
      refine ⟨o2, ?_, g2, g3⟩
      rw [loopP_s]; unfold laws_FnUndoAll.l9; simp only [pLen_d]
      rw [pLt_t (by omega), ifB_t, idx_lt hlt, bindO_s, pGt_t (by omega), ifB_t, bindO_s, pLt_t (by omega), ifB_t, bindO_s, lwCopy_eq N _ (by omega), bindO_s, pFit_t (by simp; omega), ifB_t, pFit_t (by simp; omega), ifB_t, bindO_s]
      simp only [ei]
      have er : pApp (List.replicate o1.length ([] : List Int)) [[]] = List.replicate (o1 ++ [l[i]]).length [] := by
        simp [pApp, List.replicate_succ']
      rw [er]
      exact g1
    · obtain ⟨o2, g1, g2, g3⟩ := ih (i + 1) n o1 (by omega) (by omega) (by omega) h1 h2
      refine ⟨o2, ?_, g2, g3⟩
      rw [loopP_s]; unfold laws_FnUndoAll.l9; simp only [pLen_d]
      rw [pLt_t (by omega), ifB_t, idx_lt hlt, bindO_s]
      by_cases h0 : l[i].length = 0
      · rw [pGt_f (by omega), ifB_f, bindO_s, ifB_f, bindO_s]
        simp only [ei]
        exact g1
      · rw [pGt_t (by omega), ifB_t, pLt_f (by omega), bindO_s, ifB_f, bindO_s]
        simp only [ei]
        exact g1

/-- where the first buffer stands -/
def UChain (b : BufT) (s : UndoT × BufT) : Prop := ∃ rest, s.1.1 ++ [s.2] = b :: rest

theorem chain_ins {b : BufT} {s : UndoT × BufT} {p : List Int} (h : UChain b s) (hl : s.1.1.length < 20) (hp : p.length ≠ 0) : UChain b (stepU s p) ∧ (stepU s p).1.1.length ≤ s.1.1.length + 1 := by
  unfold stepU
  rw [if_neg hp]
  split
  · have e : behG s.1.1 s.2 = s.1.1 ++ [s.2] := by unfold behG; rw [if_neg (by omega)]
    obtain ⟨rest, hr⟩ := h
    refine ⟨⟨rest ++ [(replG s.2 s.2.2.1 s.2.2.1 p).1], ?_⟩, ?_⟩
    · show behG s.1.1 s.2 ++ [_] = _
      rw [e, hr]; rfl
    · show (behG s.1.1 s.2).length ≤ _
      rw [e]; simp
  · exact ⟨h, by omega⟩

theorem chain_undo {b : BufT} {s : UndoT × BufT} (h : UChain b s) : UChain b (stepU s []) ∧ (stepU s []).1.1.length = s.1.1.length - 1 := by
  unfold stepU
  rw [if_pos (List.length_nil (α := Int))]
  obtain ⟨rest, hr⟩ := h
  rcases List.eq_nil_or_concat s.1.1 with e | ⟨q, x, e⟩
  · rw [e]; exact ⟨⟨rest, by rw [← hr, e]; show s.1.1 ++ [s.2] = _; rw [e]⟩, by simp [e]⟩
  · rw [List.concat_eq_append] at e
    rw [e]
    simp only [List.getLast?_append, List.getLast?_singleton, Option.some_or, List.dropLast_concat]
    refine ⟨?_, by simp⟩
    rw [e] at hr
    cases q with
    | nil =>
      have : x = b := by simpa using (List.cons.inj hr).1
      exact ⟨[], by simp [this]⟩
    | cons y q =>
      have : y = b := by simpa using (List.cons.inj hr).1
      exact ⟨q ++ [x], by simp [this]⟩

theorem chain_inss {b : BufT} : ∀ (l : List (List Int)) (s : UndoT × BufT), UChain b s → s.1.1.length + l.length ≤ 20 → (∀ p ∈ l, p.length ≠ 0) → UChain b (l.foldl stepU s) ∧ (l.foldl stepU s).1.1.length ≤ s.1.1.length + l.length
  | [], s, h, _, _ => ⟨h, by simp⟩
  | p :: l, s, h, hl, hp => by
    simp only [List.length_cons] at hl
    obtain ⟨h1, h2⟩ := chain_ins h (by omega) (hp p (by simp))
    obtain ⟨h3, h4⟩ := chain_inss l (stepU s p) h1 (by omega) (fun q hq => hp q (by simp [hq]))
    exact ⟨h3, by simp only [List.foldl_cons, List.length_cons]; omega⟩

theorem chain_undos {b : BufT} : ∀ (n : Nat) (s : UndoT × BufT), UChain b s → UChain b ((List.replicate n []).foldl stepU s) ∧ ((List.replicate n []).foldl stepU s).1.1.length = s.1.1.length - n
  | 0, s, h => ⟨h, by simp⟩
  | n + 1, s, h => by
    obtain ⟨h1, h2⟩ := chain_undo h
    obtain ⟨h3, h4⟩ := chain_undos n (stepU s []) h1
    exact ⟨h3, by simp only [List.replicate_succ, List.foldl_cons]; omega⟩

theorem fold_inv : ∀ (l : List (List Int)) (s : UndoT × BufT), UInv s → (∀ p ∈ l, ptsG p = true) → UInv (l.foldl stepU s)
  | [], _, h, _ => h
  | p :: l, s, h, hp => fold_inv l (stepU s p) (stepU_inv h (hp p (by simp))) fun q hq => hp q (by simp [hq])

theorem pure_FnUndoAll (a : List Int) (_h : a.length ≤ 9223372036854775807 ∧ ∀ x ∈ a, IntKind.u8.min ≤ x ∧ x ≤ IntKind.u8.max) : ∃ N, laws_FnUndoAll N a = some true := by
  refine ⟨1048700, ?_⟩
  unfold laws_FnUndoAll
  rw [pLen_d]
  by_cases ha : 1048576 < a.length
  · rw [pGt_t (by omega), ifB_t]
  rw [pGt_f (by omega), ifB_f]
  obtain ⟨⟨b, l⟩, hd, hbl, hl, hx⟩ := dundo_tot 1048700 (by omega) a (by omega)
  simp only at hbl hl hx
  rw [hd, bindO_s]
  simp only []
  have hS : ∀ q, spec_UndoRun 1048700 b q = some (runG b q) := fun q => spec_UndoRun_eq _ b q (by omega) hbl
  have hI : ∀ q : List (List Int), q.length ≤ 1000 → (∀ x ∈ q, x.length ≤ 1000) → impl_UndoRun 1048700 b q = some (runG b q) := fun q h1 h2 => impl_UndoRun_eq _ b q (by omega) hbl h1 h2
  rw [hS, bindO_s]
  by_cases h0 : (runG b l).2.2.1 ≠ 0
  · rw [pNe_t h0, ifB_t, lwAll_eq _ l (by omega) (by omega) (fun x h => by have := hx x h; omega), bindO_s, hI l hl (fun x h => by have := hx x h; omega), bindO_s, bindO_s, pEq_t rfl]
  have h0 := Classical.not_not.1 h0
  rw [pNe_f h0, ifB_f]
  have f8 : ∀ c, (failU c).2.2.1 = c := fun _ => rfl
  have hok : bufG b = true ∧ l.all ptsG = true := by
    unfold runG at h0
    by_cases k1 : 400 < l.length
    · rw [if_pos k1, f8] at h0; omega
    rw [if_neg k1] at h0
    by_cases k2 : (bufG b && l.all ptsG) = false
    · rw [if_pos k2, f8] at h0; omega
    simp only [Bool.and_eq_false_iff, not_or, Bool.not_eq_false] at k2
    exact k2
  obtain ⟨hb, hp⟩ := hok
  have hp := fun x hx => List.all_eq_true.1 hp x hx
  obtain ⟨o2, g1, g2, g3⟩ := both_loop (N := 1048700) (R := Bool) l hl (fun x h => by have := hx x h; omega) b (fun d =>
        let x63 := d.1;
        let x64 := d.2.1;
        let x65 := d.2.2.1;
        bindO (laws_lwAll 1048700 x64) fun y66 =>
        bindO (impl_UndoRun 1048700 x63 y66) fun y67 =>
        bindO (spec_UndoRun 1048700 x63 x64) fun y68 =>
        bindO (laws_lwBuf 1048700 y67.2.1 y68.2.1) fun y69 =>
        ifB (pNot y69) (
          some false) (
          ifB (pFit x64 x65) (
            bindO (impl_UndoRun 1048700 x63 (pApp x64 x65)) fun y70 =>
            bindO (
              ifB (pEq y70.2.2.1 0) (
                bindO (laws_lwBuf 1048700 y70.2.1 x63) fun y72 =>
                some y72) (
                some false)) fun y71 =>
            bindO (
              ifB y71 (
                some (pEq (pLen y70.1.1) 0)) (
                some false)) fun y73 =>
            some y73) (
            none))) _ 0 1048700 [] rfl (by omega) (by omega) (by simp) (fun x h => by cases h)
  refine Eq.trans g1 ?_
  simp only []
  have hx2 : ∀ x ∈ o2, x.length ≤ 10 := fun x h => hx x (g3 x h).1
  have hp2 : ∀ x ∈ o2, ptsG x = true := fun x h => hp x (g3 x h).1
  have hrl : ∀ q : List (List Int), (∀ x ∈ q, ptsG x = true) → (runG b q).2.1.1.length ≤ 1000 := fun q hq => by
    unfold runG
    split
    · simp [failU]
    · split
      · simp [failU]
      · have := fold_inv q (([], ([], ())), b) (UInv_0 hb) hq
        have := bufG_len this.2
        exact Nat.le_trans this (by omega)
  rw [lwAll_eq _ o2 (by omega) (by omega) (fun x h => by have := hx2 x h; omega), bindO_s, hI o2 (by omega) (fun x h => by have := hx2 x h; omega), bindO_s, hS, bindO_s, lwBuf_self _ _ (hrl o2 hp2) (by omega), bindO_s, show pNot true = false from rfl, ifB_f, pFit_t (by simp; omega), ifB_t]
  have hq2 : ∀ x ∈ pApp o2 (List.replicate o2.length []), x.length ≤ 10 ∧ ptsG x = true := fun x h => by
    unfold pApp at h
    rw [List.mem_append] at h
    rcases h with h | h
    · exact ⟨hx2 x h, hp2 x h⟩
    · have : x = [] := (List.mem_replicate.1 h).2
      rw [this]; exact ⟨by simp, rfl⟩
  have hql : (pApp o2 (List.replicate o2.length [])).length = o2.length + o2.length := by simp [pApp]
  rw [hI _ (by omega) (fun x h => by have := (hq2 x h).1; omega), bindO_s]
  have er : runG b (pApp o2 (List.replicate o2.length [])) = (((pApp o2 (List.replicate o2.length [])).foldl stepU (([], ([], ())), b)).1, (((pApp o2 (List.replicate o2.length [])).foldl stepU (([], ([], ())), b)).2, (0, ()))) := by
    unfold runG
    rw [if_neg (by omega), if_neg (by rw [hb, List.all_eq_true.2 (fun x h => (hq2 x h).2)]; simp)]
  obtain ⟨c1, c2⟩ := chain_inss (b := b) o2 (([], ([], ())), b) ⟨[], rfl⟩ (by simpa using g2) (fun x h => (g3 x h).2)
  obtain ⟨c3, c4⟩ := chain_undos o2.length _ c1
  have ef : (pApp o2 (List.replicate o2.length [])).foldl stepU (([], ([], ())), b) = (List.replicate o2.length []).foldl stepU (o2.foldl stepU (([], ([], ())), b)) := by
    unfold pApp; rw [List.foldl_append]
  rw [er, ef]
  generalize hs : (List.replicate o2.length []).foldl stepU (o2.foldl stepU (([], ([], ())), b)) = s at c3 c4 ⊢
  have hz : s.1.1.length = 0 := by
    simp only [List.length_nil, Nat.zero_add] at c2
    omega
  have hnil : s.1.1 = [] := List.eq_nil_of_length_eq_zero hz
  have hbs : s.2 = b := by
    obtain ⟨rest, hr⟩ := c3
    rw [hnil] at hr
    exact (List.cons.inj hr).1
  simp only [hbs]
  rw [pEq_t rfl, ifB_t, lwBuf_self _ b hbl (by omega), bindO_s, bindO_s, ifB_t, pLen_d, hz]
  rfl

end Go.AE.F
