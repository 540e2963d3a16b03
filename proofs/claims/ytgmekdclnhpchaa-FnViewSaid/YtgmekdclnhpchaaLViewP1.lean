/- Plain laws of those functions. -/
import Derived.Test.YtgmekdclnhpchaaLViewF5
import Derived.IntWalk
import Derived.KernelRfl
namespace Go.AE
theorem ifB_t {R : Type} {a b : Option R} : ifB true a b = a := rfl
theorem ifB_f {R : Type} {a b : Option R} : ifB false a b = b := rfl
theorem bindO_s {A R : Type} {x : A} {f : A → Option R} : bindO (some x) f = f x := rfl
theorem loopP_s {D E R : Type} {step : D → (D → Option R) → (E → Option R) → Option R} {n : Nat} {d : D} {k : E → Option R} : loopP step (n + 1) d k = step d (fun d' => loopP step n d' k) k := rfl
theorem wrap_i64 {n : Int} (h1 : -9223372036854775808 ≤ n) (h2 : n ≤ 9223372036854775807) : IntKind.i64.wrap n = n := IntWalk.i64_in n ⟨h1, h2⟩
theorem pAdd_i {a b : Int} (h1 : -9223372036854775808 ≤ a + b) (h2 : a + b ≤ 9223372036854775807) : pAdd .i64 a b = a + b := wrap_i64 h1 h2
theorem pSub_i {a b : Int} (h1 : -9223372036854775808 ≤ a - b) (h2 : a - b ≤ 9223372036854775807) : pSub .i64 a b = a - b := wrap_i64 h1 h2
theorem pLt_t {a b : Int} (h : a < b) : pLt a b = true := decide_eq_true h
theorem pLt_f {a b : Int} (h : b ≤ a) : pLt a b = false := decide_eq_false (by omega)
theorem pLe_t {a b : Int} (h : a ≤ b) : pLe a b = true := decide_eq_true h
theorem pLe_f {a b : Int} (h : b < a) : pLe a b = false := decide_eq_false (by omega)
theorem pGt_t {a b : Int} (h : b < a) : pGt a b = true := decide_eq_true h
theorem pGt_f {a b : Int} (h : a ≤ b) : pGt a b = false := decide_eq_false (by omega)
theorem pGe_t {a b : Int} (h : b ≤ a) : pGe a b = true := decide_eq_true h
theorem pGe_f {a b : Int} (h : a < b) : pGe a b = false := decide_eq_false (by omega)
theorem pEq_t {a b : Int} (h : a = b) : pEq a b = true := by subst h; simp [pEq]
theorem pEq_f {a b : Int} (h : a ≠ b) : pEq a b = false := by simp [pEq, h]
theorem pNe_t {a b : Int} (h : a ≠ b) : pNe a b = true := by simp [pNe, h]
theorem pNe_f {a b : Int} (h : a = b) : pNe a b = false := by subst h; simp [pNe]
theorem pFit_t {A : Type} {xs ys : List A} (h : xs.length + ys.length ≤ 68719476736) : pFit xs ys = true := decide_eq_true h
theorem idx_n {A : Type} (xs : List A) (i : Nat) : idx xs (i : Int) = xs[i]? := by
  unfold idx; rw [if_pos (by omega)]; rfl
theorem idx_lt {A : Type} {xs : List A} {i : Nat} (h : i < xs.length) : idx xs (i : Int) = some xs[i] := by rw [idx_n]; simp [h]
end Go.AE
namespace Go.AE
theorem ifB_or {c d : Bool} : ifB c (some true) (some d) = some (c || d) := by cases c <;> rfl
theorem ifB_and {c d : Bool} : ifB c (some d) (some false) = some (c && d) := by cases c <;> rfl
theorem ifB_some {A : Type} {c : Bool} {a b : A} : ifB c (some a) (some b) = some (if c = true then a else b) := by cases c <;> rfl
theorem pNot_d {b : Bool} : pNot b = !b := rfl
theorem pGe_d {a b : Int} : pGe a b = decide (a ≥ b) := rfl
theorem pGt_d {a b : Int} : pGt a b = decide (a > b) := rfl
theorem pLe_d {a b : Int} : pLe a b = decide (a ≤ b) := rfl
theorem pLt_d {a b : Int} : pLt a b = decide (a < b) := rfl
theorem pEq_d {a b : Int} : pEq a b = decide (a = b) := by
  by_cases h : a = b
  · rw [pEq_t h, decide_eq_true h]
  · rw [pEq_f h, decide_eq_false h]
theorem pNe_d {a b : Int} : pNe a b = !decide (a = b) := by
  by_cases h : a = b
  · rw [pNe_f h, decide_eq_true h]; rfl
  · rw [pNe_t h, decide_eq_false h]; rfl
theorem pLen_d {A : Type} {xs : List A} : pLen xs = (xs.length : Int) := rfl
theorem succ_of {m N : Nat} (h : m < N) : ∃ q, N = q + 1 := ⟨N - 1, by omega⟩
theorem drop_c {A : Type} {l : List A} {i : Nat} (h : i < l.length) : l.drop i = l[i] :: l.drop (i + 1) := List.drop_eq_getElem_cons h
theorem find_loop {A R : Type} {P : A → Option Bool} {p : A → Bool} {xs : List A} (hx : xs.length ≤ 9223372036854775806) {step : List A × Int × Int × Unit → (List A × Int × Int × Unit → Option R) → (Unit ⊕ (Int × Unit) → Option R) → Option R}
    (hs : ∀ i kn kx, step (xs, (xs.length : Int), i, ()) kn kx = ifB (pLt i xs.length) (bindO (idx xs i) fun y => bindO (P y) fun b => ifB b (kx (.inr (i, ()))) (kn (xs, (xs.length : Int), pAdd .i64 i 1, ()))) (kx (.inl ())))
    (hP : ∀ x ∈ xs, P x = some (p x)) (k : Unit ⊕ (Int × Unit) → Option R) : ∀ (m i n : Nat), xs.length - i = m → i ≤ xs.length → m < n →
    loopP step n (xs, (xs.length : Int), (i : Int), ()) k = match (xs.drop i).findIdx? p with | none => k (.inl ()) | some j => k (.inr (((i + j : Nat) : Int), ())) := by
  intro m
  induction m with
  | zero =>
    intro i n hm hi hn
    obtain ⟨n, rfl⟩ := succ_of hn
    rw [loopP_s, hs, pLt_f (by omega), ifB_f, List.drop_eq_nil_of_le (by omega)]
    rfl
  | succ m ih =>
    intro i n hm hi hn
    obtain ⟨n, rfl⟩ := succ_of hn
    have hlt : i < xs.length := by omega
    rw [loopP_s, hs, pLt_t (by omega), ifB_t, idx_lt hlt, bindO_s, hP _ (List.getElem_mem hlt), bindO_s, drop_c hlt, List.findIdx?_cons]
    cases hp : p xs[i] with
    | true => rw [ifB_t]; rfl
    | false =>
      rw [ifB_f, pAdd_i (by omega) (by omega)]
      have := ih (i + 1) n (by omega) (by omega) (by omega)
      refine Eq.trans this ?_
      cases h : (xs.drop (i + 1)).findIdx? p with
      | none => simp
      | some j =>
        simp only [Bool.false_eq_true, if_false, Option.map_some]
        congr 4
        omega
theorem find_any {A : Type} {p : A → Bool} {xs : List A} : (match xs.findIdx? p with | none => (-1 : Int) | some j => (j : Int)) ≥ 0 ↔ xs.any p = true := by
  cases h : xs.findIdx? p with
  | none =>
    simp only [List.findIdx?_eq_none_iff] at h
    constructor
    · intro q; simp at q
    · intro q
      obtain ⟨x, hx, hp⟩ := List.any_eq_true.1 q
      rw [h x hx] at hp; cases hp
  | some j =>
    rw [List.findIdx?_eq_some_iff_getElem] at h
    obtain ⟨hj, hp, _⟩ := h
    constructor
    · intro _; exact List.any_eq_true.2 ⟨_, List.getElem_mem hj, hp⟩
    · intro _; simp
theorem all_loop {A R : Type} {P : A → Option Bool} {p : A → Bool} {xs : List A} (hx : xs.length ≤ 9223372036854775806) {step : List A × Int × Unit → (List A × Int × Unit → Option R) → (Unit ⊕ (Bool × Unit) → Option R) → Option R}
    (hs : ∀ i kn kx, step (xs, i, ()) kn kx = ifB (pLt i xs.length) (bindO (idx xs i) fun y => bindO (P y) fun b => ifB (pNot b) (kx (.inr (false, ()))) (kn (xs, pAdd .i64 i 1, ()))) (kx (.inl ())))
    (hP : ∀ x ∈ xs, P x = some (p x)) (k : Unit ⊕ (Bool × Unit) → Option R) : ∀ (m i n : Nat), xs.length - i = m → i ≤ xs.length → m < n →
    loopP step n (xs, (i : Int), ()) k = if (xs.drop i).all p = true then k (.inl ()) else k (.inr (false, ())) := by
  intro m
  induction m with
  | zero =>
    intro i n hm hi hn
    obtain ⟨n, rfl⟩ := succ_of hn
    rw [loopP_s, hs, pLt_f (by omega), ifB_f, List.drop_eq_nil_of_le (by omega)]
    rfl
  | succ m ih =>
    intro i n hm hi hn
    obtain ⟨n, rfl⟩ := succ_of hn
    have hlt : i < xs.length := by omega
    rw [loopP_s, hs, pLt_t (by omega), ifB_t, idx_lt hlt, bindO_s, hP _ (List.getElem_mem hlt), bindO_s, drop_c hlt, List.all_cons]
    cases hp : p xs[i] with
    | false => simp [pNot_d, ifB_t]
    | true =>
      rw [pNot_d, Bool.not_true, ifB_f, pAdd_i (by omega) (by omega), Bool.true_and]
      exact ih (i + 1) n (by omega) (by omega) (by omega)
end Go.AE
namespace Go.AE.F
open Go.AE
def ptG (a : Int) : Bool := decide (0 ≤ a) && decide (a ≤ 1114111) && !(decide (55296 ≤ a) && decide (a ≤ 57343))
theorem spec_l01Point_eq (N : Nat) (a : Int) : zB7 N a = some (ptG a) := by
  unfold zB7 ptG
  simp only [ifB_or, ifB_and, bindO_s, pNot_d, pGe_d, pLe_d]
theorem impl_within_eq (N : Nat) (a b c : Int) : zAI N a b c = some (decide (b ≤ a) && decide (a ≤ c)) := by
  unfold zAI
  simp only [ifB_and, bindO_s, pLe_d]
theorem impl_isPoint_eq (N : Nat) (a : Int) : zB8 N a = some (ptG a) := by
  unfold zB8 ptG
  simp only [impl_within_eq, ifB_and, bindO_s, pNot_d]
end Go.AE.F
namespace Go.AE.F
open Go.AE
theorem not_any {A : Type} {p : A → Bool} : ∀ {l : List A}, (!l.any fun a => !p a) = l.all p
  | [] => rfl
  | a :: l => by rw [List.any_cons, List.all_cons, ← not_any]; cases p a <;> simp
end Go.AE.F
namespace Go.AE.F
open Go.AE
def ptsG (l : List Int) : Bool := decide (l.length ≤ 300) && l.all ptG
theorem spec_PointsRight_eq (N : Nat) (l : List Int) (hN : 301 < N) : zA7 N l = some (ptsG l) := by
  unfold zA7 ptsG
  rw [pLen_d]
  by_cases h : l.length ≤ 300
  · rw [pGt_f (by omega), ifB_f, decide_eq_true h, Bool.true_and]
    have := all_loop (R := Bool) (P := zB7 N) (p := ptG) (xs := l) (by omega) (step := zA7.l4 N) (fun i kn kx => by simp only [zA7.l4, pLen_d]) (fun x _ => spec_l01Point_eq N x)
      (onSum (fun d => some true) (fun d => let x37 := d.1; some x37)) _ 0 N rfl (by omega) (by omega)
    rw [List.drop_zero] at this
    refine Eq.trans this ?_
    cases l.all ptG <;> rfl
  · rw [pGt_t (by omega), ifB_t, decide_eq_false h]; rfl
theorem contains_all {A : Type} {N : Nat} {P : A → Option Bool} {p : A → Bool} {l : List A} (hl : l.length < N) (hb : l.length ≤ 9223372036854775806) {step : {R : Type} → List A × Int × Int × Unit → (List A × Int × Int × Unit → Option R) → (Unit ⊕ (Int × Unit) → Option R) → Option R}
    (hs : ∀ i kn kx, step (R := Int) (l, (l.length : Int), i, ()) kn kx = ifB (pLt i l.length) (bindO (idx l i) fun y => bindO (P y) fun b => ifB b (kx (.inr (i, ()))) (kn (l, (l.length : Int), pAdd .i64 i 1, ()))) (kx (.inl ())))
    (hP : ∀ x ∈ l, P x = some (!p x)) :
    (bindO (loopP (R := Int) step N (l, (l.length : Int), (0 : Int), ()) (onSum (fun _ => some (-1)) (fun d => let x43 := d.1; some x43))) fun y1 => some (pGe y1 0)) = some (!l.all p) := by
  have := find_loop (R := Int) (P := P) (p := fun a => !p a) (xs := l) hb (step := step) hs hP (onSum (fun _ => some (-1)) (fun d => let x43 := d.1; some x43)) _ 0 N rfl (by omega) (by omega)
  rw [List.drop_zero] at this
  rw [show (0 : Int) = ((0 : Nat) : Int) from rfl, this]
  have h := find_any (p := fun a => !p a) (xs := l)
  rw [← not_any (p := p)]
  cases hf : l.findIdx? (fun a => !p a) with
  | none =>
    rw [hf] at h
    have ha : l.any (fun a => !p a) = false := by
      cases ha : l.any (fun a => !p a) with
      | false => rfl
      | true => have := h.2 ha; simp at this
    rw [ha]; rfl
  | some j =>
    rw [hf] at h
    have ha : l.any (fun a => !p a) = true := h.1 (by simp)
    rw [ha]
    show (bindO (some ((0 + j : Nat) : Int)) fun y1 => some (pGe y1 0)) = _
    rw [bindO_s, pGe_t (by omega)]; rfl
theorem impl_PointsRight_eq (N : Nat) (l : List Int) (hl : l.length < N) (hb : l.length ≤ 9223372036854775806) : zAW N l = some (ptsG l) := by
  unfold zAW zA3 zA1 ptsG
  rw [pLen_d, contains_all (P := zAU N) (p := ptG) (step := fun {R} => zA1.l2 (R := R) N) hl hb (fun i kn kx => rfl) (fun x _ => by unfold zAU; rw [impl_isPoint_eq, bindO_s, pNot_d]), bindO_s]
  have e : pLe (l.length : Int) 300 = decide (l.length ≤ 300) := by rw [pLe_d]; congr 1; simp; omega
  rw [e, ifB_and, bindO_s, pNot_d]
  simp
theorem slEq_loop {N : Nat} {R : Type} (a b : List Int) (ha : a.length ≤ 9223372036854775806) (hl : a.length = b.length) (k : Unit ⊕ (Bool × Unit) → Option R) : ∀ (m i n : Nat), a.length - i = m → i ≤ a.length → m < n →
    loopP (zA2.l4 N) n (a, b, (a.length : Int), (i : Int), ()) k = if a.drop i = b.drop i then k (.inl ()) else k (.inr (false, ())) := by
  intro m
  induction m with
  | zero =>
    intro i n hm hi hn
    obtain ⟨n, rfl⟩ := succ_of hn
    simp only [loopP_s, zA2.l4]
    rw [pLt_f (by omega), ifB_f, List.drop_eq_nil_of_le (by omega), List.drop_eq_nil_of_le (by omega), if_pos rfl]
  | succ m ih =>
    intro i n hm hi hn
    obtain ⟨n, rfl⟩ := succ_of hn
    have h1 : i < a.length := by omega
    have h2 : i < b.length := by omega
    simp only [loopP_s, zA2.l4]
    rw [pLt_t (by omega), ifB_t, idx_lt h1, bindO_s, idx_lt h2, bindO_s, drop_c h1, drop_c h2]
    by_cases he : a[i] = b[i]
    · rw [pNe_f he, ifB_f, pAdd_i (by omega) (by omega)]
      refine Eq.trans (ih (i + 1) n (by omega) (by omega) (by omega)) ?_
      by_cases hd : a.drop (i + 1) = b.drop (i + 1)
      · rw [if_pos hd, if_pos (by rw [he, hd])]
      · rw [if_neg hd, if_neg (fun q => hd (List.cons.inj q).2)]
    · rw [pNe_t he, ifB_t, if_neg (fun q => he (List.cons.inj q).1)]
theorem slices_Equal_eq (N : Nat) (a b : List Int) (ha : a.length ≤ 9223372036854775806) (hN : a.length < N) : zA2 N a b = some (decide (a = b)) := by
  unfold zA2
  simp only [pLen_d]
  by_cases hl : a.length = b.length
  · rw [pNe_f (by omega), ifB_f]
    have := slEq_loop (N := N) a b ha hl (onSum (fun _ => some true) (fun d => let x49 := d.1; some x49)) _ 0 N rfl (by omega) (by omega)
    rw [List.drop_zero, List.drop_zero] at this
    refine Eq.trans this ?_
    by_cases he : a = b
    · rw [decide_eq_true he, if_pos he]; rfl
    · rw [decide_eq_false he, if_neg he]; rfl
  · rw [pNe_t (by omega), ifB_t, decide_eq_false (fun h => hl (by rw [h]))]
end Go.AE.F
namespace Go.AE.F
open Go.AE
theorem copy_eq (N : Nat) (a : List Int) (h : a.length ≤ 68719476736) : zBH N a = some a := by
  unfold zBH
  rw [pFit_t (by simp; exact h), ifB_t]
  rfl
end Go.AE.F
namespace Go.AE.F
open Go.AE
abbrev BufT := List Int × Int × Int × Unit
def bufG (b : BufT) : Bool := ptsG b.1 && decide (0 ≤ b.2.1) && decide (b.2.1 ≤ b.1.length) && decide (0 ≤ b.2.2.1) && decide (b.2.2.1 ≤ b.1.length)
theorem bufG_iff {b : BufT} : bufG b = true ↔ ptsG b.1 = true ∧ 0 ≤ b.2.1 ∧ b.2.1 ≤ b.1.length ∧ 0 ≤ b.2.2.1 ∧ b.2.2.1 ≤ b.1.length := by
  unfold bufG
  simp only [Bool.and_eq_true, decide_eq_true_eq, and_assoc]
theorem ptsG_len {l : List Int} (h : ptsG l = true) : l.length ≤ 300 := by
  unfold ptsG at h
  simp only [Bool.and_eq_true, decide_eq_true_eq] at h
  exact h.1
theorem spec_BufRight_eq (N : Nat) (b : BufT) (hN : 301 < N) : zBC N b = some (bufG b) := by
  unfold zBC bufG
  rw [spec_PointsRight_eq N b.1 hN]
  simp only [bindO_s, ifB_and, pGe_d, pLe_d, pLen_d, ge_iff_le]
theorem impl_size_eq (N : Nat) (l : List Int) (h : l.length ≤ 9223372036854775807) : zB3 N l = some (l.length : Int) := by
  unfold zB3
  rw [pLen_d]
  first | done | rfl | (simp only [pConv]; rw [wrap_i64 (by omega) (by omega)])
theorem impl_BufRight_eq (N : Nat) (b : BufT) (hl : b.1.length < N) (hb : b.1.length ≤ 9223372036854775806) : zBI N b = some (bufG b) := by
  unfold zBI zAT bufG
  rw [impl_PointsRight_eq N b.1 hl hb]
  simp only [impl_size_eq N b.1 (by omega), impl_within_eq, bindO_s, ifB_and, Bool.and_assoc]
end Go.AE.F
namespace Go.AE.F
open Go.AE
theorem wrap_u64 (a : Int) : IntKind.u64.wrap a = a % 18446744073709551616 := rfl
theorem conv_u64 (a : Int) : 0 ≤ pConv .u64 a ∧ pConv .u64 a < 18446744073709551616 := by
  unfold pConv
  rw [wrap_u64]; omega
abbrev SrcT := List Int × Int × Int × Int × Unit
def srcOk (s : SrcT) : Prop := s.1.length ≤ 1048576 ∧ 0 ≤ s.2.1 ∧ s.2.1 ≤ s.1.length ∧ 0 ≤ s.2.2.2.1 ∧ s.2.2.2.1 ≤ 12
theorem src_loop {N : Nat} {R : Type} (c : List Int) (hc : c.length ≤ 1048576) (k : List Int × SrcT × Unit → Option R) : ∀ (m i n : Nat) (st : Int), 64 - i = m → i ≤ 64 → m < n →
    ∃ st', loopP (zAE.l3 N) n (c, (i : Int), (c, (0, (st, (0, ())))), ()) k = k (c, (c, (0, (st', (0, ())))), ()) := by
  intro m
  induction m with
  | zero =>
    intro i n st hm hi hn
    obtain ⟨n, rfl⟩ := succ_of hn
    refine ⟨st, ?_⟩
    rw [loopP_s]
    unfold zAE.l3
    simp only []
    rw [ifB_and, bindO_s, pLt_f (a := (i : Int)) (b := 64) (by omega), Bool.and_false, ifB_f]
  | succ m ih =>
    intro i n st hm hi hn
    obtain ⟨n, rfl⟩ := succ_of hn
    rw [loopP_s]
    unfold zAE.l3
    simp only []
    rw [ifB_and, bindO_s, pLen_d]
    by_cases hl : i < c.length
    · rw [pLt_t (by omega), pLt_t (by omega), Bool.and_self, ifB_t, idx_lt hl, bindO_s, pAdd_i (by omega) (by omega)]
      exact ih (i + 1) n _ (by omega) (by omega) (by omega)
    · exact ⟨st, by rw [pLt_f (by omega), Bool.false_and, ifB_f]⟩
theorem source_ok (N : Nat) (c : List Int) (hc : c.length ≤ 1048576) (hN : 64 < N) : ∃ s, zAE N c = some s ∧ srcOk s := by
  unfold zAE
  obtain ⟨st, h⟩ := src_loop (N := N) c hc (fun d =>
    let x18 := d.1;
    let x19 := d.2.1;
    ifB (pEq 20 0) (
      none) (
      ifB (pGt (pQuo Go.IntKind.i64 (pLen x18) 20) 12) (
        some (x19.1, (x19.2.1, (x19.2.2.1, (12, x19.2.2.2.2))))) (
        some (x19.1, (x19.2.1, (x19.2.2.1, ((pQuo Go.IntKind.i64 (pLen x18) 20), x19.2.2.2.2))))))) _ 0 N 88172645463325252 rfl (by omega) (by omega)
  have hq : pQuo .i64 (pLen c) 20 = (c.length : Int) / 20 := IntWalk.i64_quo _ _ ⟨by rw [pLen_d]; omega, by rw [pLen_d]; omega, by omega⟩
  simp only [hq, show pEq 20 0 = false from rfl, ifB_f] at h
  by_cases hg : (c.length : Int) / 20 > 12
  · rw [pGt_t hg, ifB_t] at h
    exact ⟨_, h, hc, by simp, by simp, by simp, by simp⟩
  · rw [pGt_f (by omega), ifB_f] at h
    refine ⟨_, h, hc, by simp, by simp, ?_, ?_⟩
    · show (0 : Int) ≤ (c.length : Int) / 20
      omega
    · show (c.length : Int) / 20 ≤ 12
      omega
theorem n_ok (N : Nat) (s : SrcT) (k : Int) (hs : srcOk s) (hk : k ≤ 4611686018427387904) : ∃ v s', zAB N s k = some (v, s') ∧ srcOk s' ∧ 0 ≤ v ∧ (k ≤ 1 → v = 0) ∧ (1 < k → v < k) := by
  obtain ⟨h1, h2, h3, h4, h5⟩ := hs
  unfold zAB
  by_cases hk1 : k ≤ 1
  · rw [pLe_t hk1, ifB_t]
    exact ⟨0, s, rfl, ⟨h1, h2, h3, h4, h5⟩, by omega, fun _ => rfl, fun h => by omega⟩
  · have hc : pConv .u64 k = k := IntWalk.u64_in k ⟨by omega, by omega⟩
    have hr : ∀ x y : Int, 0 ≤ pConv .i64 (pRem (pAdd .u64 x y) k) ∧ pConv .i64 (pRem (pAdd .u64 x y) k) < k := fun x y => by
      have ⟨a, _⟩ := conv_u64 (x + y)
      have e : pRem (pAdd .u64 x y) k = (pAdd .u64 x y) % k := Int.tmod_eq_emod_of_nonneg a
      have b1 := Int.emod_nonneg (pAdd .u64 x y) (show k ≠ 0 by omega)
      have b2 := Int.emod_lt_of_pos (pAdd .u64 x y) (show 0 < k by omega)
      rw [e]
      have e2 : pConv .i64 (pAdd .u64 x y % k) = pAdd .u64 x y % k := wrap_i64 (by omega) (by omega)
      rw [e2]
      exact ⟨b1, b2⟩
    rw [pLe_f (by omega), ifB_f, hc]
    simp only [show pLt 13 0 = false from rfl, show pLt 7 0 = false from rfl, show pLt 17 0 = false from rfl, show pLt 20 0 = false from rfl, ifB_f, pEq_f (show k ≠ 0 by omega)]
    by_cases hp : s.2.1 < s.1.length
    · obtain ⟨p, hp'⟩ : ∃ p : Nat, s.2.1 = (p : Int) := ⟨s.2.1.toNat, by omega⟩
      have hlt : p < s.1.length := by omega
      have hi : idx s.1 s.2.1 = some s.1[p] := by rw [hp']; exact idx_lt hlt
      rw [pLen_d, pLt_t hp, ifB_t, hi, bindO_s]
      refine ⟨_, _, rfl, ⟨h1, ?_, ?_, h4, h5⟩, (hr _ _).1, fun h => by omega, fun _ => (hr _ _).2⟩
      · show 0 ≤ pAdd .i64 s.2.1 1
        rw [pAdd_i (by omega) (by omega)]; omega
      · show pAdd .i64 s.2.1 1 ≤ _
        rw [pAdd_i (by omega) (by omega)]
        show _ ≤ (s.1.length : Int)
        omega
    · rw [pLen_d, pLt_f (by omega), ifB_f]
      exact ⟨_, _, rfl, ⟨h1, h2, h3, h4, h5⟩, (hr _ _).1, fun h => by omega, fun _ => (hr _ _).2⟩
theorem one_ok (N : Nat) (s : SrcT) (k : Int) (hs : srcOk s) (hk : k ≤ 4611686018427387904) : ∃ b s', zAH N s k = some (b, s') ∧ srcOk s' := by
  obtain ⟨v, s', h, hs', _⟩ := n_ok N s k hs hk
  exact ⟨_, s', by unfold zAH; rw [h, bindO_s], hs'⟩
end Go.AE.F
namespace Go.AE.F
open Go.AE
set_option maxRecDepth 100000
theorem lwCopy_eq (N : Nat) (a : List Int) (h : a.length ≤ 68719476736) : zBO N a = some a := by
  unfold zBO
  rw [pFit_t (by simp; exact h), ifB_t]
  rfl
end Go.AE.F
