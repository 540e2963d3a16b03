/- Plain laws of those functions. -/
import Derived.Test.YteoociojgeokmaaDoorXSendF4
import Derived.IntWalk
import Derived.KernelRfl
namespace Go.AE
theorem ifB_t {R : Type} {a b : Option R} : ifB true a b = a := rfl
theorem ifB_f {R : Type} {a b : Option R} : ifB false a b = b := rfl
theorem bindO_s {A R : Type} {x : A} {f : A → Option R} : bindO (some x) f = f x := rfl
theorem loopP_s {D E R : Type} {step : D → (D → Option R) → (E → Option R) → Option R} {n : Nat} {d : D} {k : E → Option R} : loopP step (n + 1) d k = step d (fun d' => loopP step n d' k) k := rfl
theorem wrap_i64 {n : Int} (h1 : -9223372036854775808 ≤ n) (h2 : n ≤ 9223372036854775807) : IntKind.i64.wrap n = n := IntWalk.i64_in n ⟨h1, h2⟩
theorem pAdd_i {a b : Int} (h1 : -9223372036854775808 ≤ a + b) (h2 : a + b ≤ 9223372036854775807) : pAdd .i64 a b = a + b := wrap_i64 h1 h2
theorem pSub_i {a b : Int} (h1 : -9223372036854775808 ≤ a - b) (h2 : a - b ≤ 9223372036854775807) : pSub .i64 a b = a - b := wrap_i64 h1 h2
theorem pLt_t {a b : Int} (h : a < b) : pLt a b = true := decide_eq_true h
theorem pLt_f {a b : Int} (h : b ≤ a) : pLt a b = false := decide_eq_false (by omega)
theorem pLe_t {a b : Int} (h : a ≤ b) : pLe a b = true := decide_eq_true h
theorem pLe_f {a b : Int} (h : b < a) : pLe a b = false := decide_eq_false (by omega)
theorem pGt_t {a b : Int} (h : b < a) : pGt a b = true := decide_eq_true h
theorem pEq_t {a b : Int} (h : a = b) : pEq a b = true := by subst h; simp [pEq]
theorem pEq_f {a b : Int} (h : a ≠ b) : pEq a b = false := by simp [pEq, h]
theorem pNe_t {a b : Int} (h : a ≠ b) : pNe a b = true := by simp [pNe, h]
theorem pNe_f {a b : Int} (h : a = b) : pNe a b = false := by subst h; simp [pNe]
theorem pFit_t {A : Type} {xs ys : List A} (h : xs.length + ys.length ≤ 68719476736) : pFit xs ys = true := decide_eq_true h
theorem idx_n {A : Type} (xs : List A) (i : Nat) : idx xs (i : Int) = xs[i]? := by
  unfold idx; rw [if_pos (by omega)]; rfl
theorem idx_lt {A : Type} {xs : List A} {i : Nat} (h : i < xs.length) : idx xs (i : Int) = some xs[i] := by rw [idx_n]; simp [h]
theorem pSEq_self (a : ByteArray) : pSEq a a = true := by unfold pSEq; exact beq_self_eq_true _
end Go.AE
namespace Go.AE
theorem ifB_or {c d : Bool} : ifB c (some true) (some d) = some (c || d) := by cases c <;> rfl
theorem ifB_and {c d : Bool} : ifB c (some d) (some false) = some (c && d) := by cases c <;> rfl
theorem ifB_some {A : Type} {c : Bool} {a b : A} : ifB c (some a) (some b) = some (if c = true then a else b) := by cases c <;> rfl
theorem pNot_d {b : Bool} : pNot b = !b := rfl
theorem pGe_d {a b : Int} : pGe a b = decide (a ≥ b) := rfl
theorem pGt_d {a b : Int} : pGt a b = decide (a > b) := rfl
theorem pLe_d {a b : Int} : pLe a b = decide (a ≤ b) := rfl
theorem pLt_d {a b : Int} : pLt a b = decide (a < b) := rfl
theorem pEq_d {a b : Int} : pEq a b = decide (a = b) := by
  by_cases h : a = b
  · rw [pEq_t h, decide_eq_true h]
  · rw [pEq_f h, decide_eq_false h]
theorem pNe_d {a b : Int} : pNe a b = !decide (a = b) := by
  by_cases h : a = b
  · rw [pNe_f h, decide_eq_true h]; rfl
  · rw [pNe_t h, decide_eq_false h]; rfl
theorem pLen_d {A : Type} {xs : List A} : pLen xs = (xs.length : Int) := rfl
theorem succ_of {m N : Nat} (h : m < N) : ∃ q, N = q + 1 := ⟨N - 1, by omega⟩
theorem drop_c {A : Type} {l : List A} {i : Nat} (h : i < l.length) : l.drop i = l[i] :: l.drop (i + 1) := List.drop_eq_getElem_cons h
theorem copy_loop {A R : Type} {P : A → Option A} {f : A → A} {xs : List A} (hx : xs.length ≤ 9223372036854775806) {step : List A × Int × List A × Unit → (List A × Int × List A × Unit → Option R) → (List A × Unit → Option R) → Option R}
    (hs : ∀ i out kn kx, step (xs, i, out, ()) kn kx = ifB (pLt i xs.length) (bindO (idx xs i) fun y => bindO (P y) fun z => bindO (idx out i) fun _ => bindO (idx out i) fun _ => kn (xs, pAdd .i64 i 1, pSet out i z, ())) (kx (out, ())))
    (hP : ∀ x ∈ xs, P x = some (f x)) (k : List A × Unit → Option R) : ∀ (m i n : Nat) (out : List A), xs.length - i = m → i ≤ xs.length → m < n → out.length = xs.length → out.take i = (xs.map f).take i →
    loopP step n (xs, (i : Int), out, ()) k = k (xs.map f, ()) := by
  intro m
  induction m with
  | zero =>
    intro i n out hm hi hn ho ht
    obtain ⟨n, rfl⟩ := succ_of hn
    have e : out = xs.map f := by
      rw [List.take_of_length_le (by omega), List.take_of_length_le (by simp; omega)] at ht
      exact ht
    rw [loopP_s, hs, pLt_f (by omega), ifB_f, e]
  | succ m ih =>
    intro i n out hm hi hn ho ht
    obtain ⟨n, rfl⟩ := succ_of hn
    have hlt : i < xs.length := by omega
    rw [loopP_s, hs, pLt_t (by omega), ifB_t, idx_lt hlt, bindO_s, hP _ (List.getElem_mem hlt), bindO_s, idx_lt (by omega : i < out.length), bindO_s, bindO_s, pAdd_i (by omega) (by omega)]
    refine ih (i + 1) n (pSet out (i : Int) (f xs[i])) (by omega) (by omega) (by omega) (by simp [pSet, ho]) ?_
    rw [List.take_succ_eq_append_getElem (by simp [pSet]; omega), List.take_succ_eq_append_getElem (by simp; omega)]
    congr 1
    · rw [← ht]; simp [pSet, List.take_set_of_le]
    · simp [pSet]
theorem eq_loop {A R : Type} {P : A → A → Option Bool} {xs ys : List A} (hx : xs.length ≤ 9223372036854775806) (hl : xs.length = ys.length) {step : List A × List A × Int × Unit → (List A × List A × Int × Unit → Option R) → (Unit ⊕ (Bool × Unit) → Option R) → Option R}
    (hs : ∀ i kn kx, step (xs, ys, i, ()) kn kx = ifB (pLt i xs.length) (bindO (idx xs i) fun x => bindO (idx ys i) fun y => bindO (P x y) fun b => ifB b (kx (.inr (false, ()))) (kn (xs, ys, pAdd .i64 i 1, ()))) (kx (.inl ())))
    (hP : ∀ x ∈ xs, ∀ y ∈ ys, ∃ b, P x y = some b ∧ (b = true ↔ x ≠ y)) (k : Unit ⊕ (Bool × Unit) → Option R) : ∀ (m i n : Nat), xs.length - i = m → i ≤ xs.length → m < n →
    (xs.drop i = ys.drop i → loopP step n (xs, ys, (i : Int), ()) k = k (.inl ())) ∧ (xs.drop i ≠ ys.drop i → loopP step n (xs, ys, (i : Int), ()) k = k (.inr (false, ()))) := by
  intro m
  induction m with
  | zero =>
    intro i n hm hi hn
    obtain ⟨n, rfl⟩ := succ_of hn
    rw [loopP_s, hs, pLt_f (by omega), ifB_f, List.drop_eq_nil_of_le (by omega), List.drop_eq_nil_of_le (by omega)]
    exact ⟨fun _ => rfl, fun h => absurd rfl h⟩
  | succ m ih =>
    intro i n hm hi hn
    obtain ⟨n, rfl⟩ := succ_of hn
    have hlt : i < xs.length := by omega
    have hlt2 : i < ys.length := by omega
    obtain ⟨b, hb, hbe⟩ := hP _ (List.getElem_mem hlt) _ (List.getElem_mem hlt2)
    rw [loopP_s, hs, pLt_t (by omega), ifB_t, idx_lt hlt, bindO_s, idx_lt hlt2, bindO_s, hb, bindO_s, drop_c hlt, drop_c hlt2, List.cons.injEq]
    obtain ⟨i1, i2⟩ := ih (i + 1) n (by omega) (by omega) (by omega)
    cases b with
    | true =>
      have := hbe.1 rfl
      exact ⟨fun h => absurd h.1 this, fun _ => by rw [ifB_t]⟩
    | false =>
      have he : xs[i] = ys[i] := Classical.byContradiction fun h => by cases hbe.2 h
      rw [ifB_f, pAdd_i (by omega) (by omega)]
      exact ⟨fun h => i1 h.2, fun h => i2 fun q => h (by rw [he, q])⟩
end Go.AE
namespace Go.AE.F
open Go.AE
theorem szInt64S_eq (N : Nat) (l : List Int) (a : Int) (h0 : 0 ≤ a) (ha : a ≤ 9223372036854775807) (hl : l.length ≤ 9223372036854775807) :
    laws_szInt64S N l a = some (if a - l.length < 0 then -1 else a - l.length) := by
  unfold laws_szInt64S
  rw [pLen_d, pSub_i (by omega) (by omega)]
  by_cases h : a - (l.length : Int) < 0
  · rw [pLt_t h, ifB_t, if_pos h]
  · rw [pLt_f (by omega), ifB_f, if_neg h]
theorem repl_len {A : Type} (n : Nat) (x : A) : (pRepl (n : Int) x).length = n := by simp [pRepl]
theorem toInt64S_eq (N : Nat) (l : List Int) (hl : l.length ≤ 68719476736) (hN : l.length < N) : laws_toInt64S N l = some l := by
  unfold laws_toInt64S
  rw [pLen_d, pEq_t rfl, ifB_t, pLe_t (by omega), ifB_t, pLe_t (by omega), ifB_t]
  have := copy_loop (R := List Int) (P := some) (f := id) (xs := l) (by omega) (step := laws_toInt64S.l3 N) (fun i out kn kx => by simp only [laws_toInt64S.l3, bindO_s, pLen_d]) (fun _ _ => rfl) (fun d => let x55 := d.1; some x55) _ 0 N (pRepl (l.length : Int) 0) rfl (by omega) (by omega) (repl_len _ _) (by simp)
  refine Eq.trans this ?_
  simp
theorem eqInt64S_eq (N : Nat) (a b : List Int) (ha : a.length ≤ 9223372036854775806) (hN : a.length < N) : laws_eqInt64S N a b = some (decide (a = b)) := by
  unfold laws_eqInt64S
  simp only [pLen_d]
  by_cases hl : a.length = b.length
  · rw [pNe_f (by omega), ifB_f]
    obtain ⟨h1, h2⟩ := eq_loop (R := Bool) (P := fun x y => some (pNe x y)) (xs := a) (ys := b) ha hl (step := laws_eqInt64S.l4 N) (fun i kn kx => by simp only [laws_eqInt64S.l4, bindO_s, pLen_d])
      (fun x _ y _ => ⟨_, rfl, by rw [pNe_d]; simp⟩) (onSum (fun _ => some true) (fun d => let x43 := d.1; some x43)) _ 0 N rfl (by omega) (by omega)
    rw [List.drop_zero, List.drop_zero] at h1 h2
    by_cases he : a = b
    · rw [decide_eq_true he]; exact h1 he
    · rw [decide_eq_false he]; exact h2 he
  · rw [pNe_t (by omega), ifB_t, decide_eq_false (fun h => hl (by rw [h]))]
end Go.AE.F
namespace Go.AE.F
open Go.AE
def ptG (a : Int) : Bool := decide (0 ≤ a) && decide (a ≤ 1114111) && !(decide (55296 ≤ a) && decide (a ≤ 57343))
theorem spec_l01Point_eq (N : Nat) (a : Int) : spec_l01Point N a = some (ptG a) := by
  unfold spec_l01Point ptG
  simp only [ifB_or, ifB_and, bindO_s, pNot_d, pGe_d, pLe_d]
theorem impl_within_eq (N : Nat) (a b c : Int) : impl_within N a b c = some (decide (b ≤ a) && decide (a ≤ c)) := by
  unfold impl_within
  simp only [ifB_and, bindO_s, pLe_d]
theorem impl_isPoint_eq (N : Nat) (a : Int) : impl_isPoint N a = some (ptG a) := by
  unfold impl_isPoint ptG
  simp only [impl_within_eq, ifB_and, bindO_s, pNot_d]
end Go.AE.F
namespace Go.AE.F
open Go.AE
theorem spec_l01Same_eq (N : Nat) (a b : List Int) (ha : a.length ≤ 9223372036854775806) (hN : a.length < N) : spec_l01Same N a b = some (decide (a = b)) := by
  unfold spec_l01Same
  simp only [pLen_d]
  by_cases hl : a.length = b.length
  · rw [pNe_f (by omega), ifB_f]
    obtain ⟨h1, h2⟩ := eq_loop (R := Bool) (P := fun x y => some (pNe x y)) (xs := a) (ys := b) ha hl (step := spec_l01Same.l4 N) (fun i kn kx => by simp only [spec_l01Same.l4, bindO_s, pLen_d])
      (fun x _ y _ => ⟨_, rfl, by rw [pNe_d]; simp⟩) (onSum (fun _ => some true) (fun d => let x43 := d.1; some x43)) _ 0 N rfl (by omega) (by omega)
    rw [List.drop_zero, List.drop_zero] at h1 h2
    by_cases he : a = b
    · rw [decide_eq_true he]; exact h1 he
    · rw [decide_eq_false he]; exact h2 he
  · rw [pNe_t (by omega), ifB_t, decide_eq_false (fun h => hl (by rw [h]))]
theorem slEq_loop {N : Nat} {R : Type} (a b : List Int) (ha : a.length ≤ 9223372036854775806) (hl : a.length = b.length) (k : Unit ⊕ (Bool × Unit) → Option R) : ∀ (m i n : Nat), a.length - i = m → i ≤ a.length → m < n →
    loopP (slices_Equal_Sint64_int64.l4 N) n (a, b, (a.length : Int), (i : Int), ()) k = if a.drop i = b.drop i then k (.inl ()) else k (.inr (false, ())) := by
  intro m
  induction m with
  | zero =>
    intro i n hm hi hn
    obtain ⟨n, rfl⟩ := succ_of hn
    simp only [loopP_s, slices_Equal_Sint64_int64.l4]
    rw [pLt_f (by omega), ifB_f, List.drop_eq_nil_of_le (by omega), List.drop_eq_nil_of_le (by omega), if_pos rfl]
  | succ m ih =>
    intro i n hm hi hn
    obtain ⟨n, rfl⟩ := succ_of hn
    have h1 : i < a.length := by omega
    have h2 : i < b.length := by omega
    simp only [loopP_s, slices_Equal_Sint64_int64.l4]
    rw [pLt_t (by omega), ifB_t, idx_lt h1, bindO_s, idx_lt h2, bindO_s, drop_c h1, drop_c h2]
    by_cases he : a[i] = b[i]
    · rw [pNe_f he, ifB_f, pAdd_i (by omega) (by omega)]
      refine Eq.trans (ih (i + 1) n (by omega) (by omega) (by omega)) ?_
      by_cases hd : a.drop (i + 1) = b.drop (i + 1)
      · rw [if_pos hd, if_pos (by rw [he, hd])]
      · rw [if_neg hd, if_neg (fun q => hd (List.cons.inj q).2)]
    · rw [pNe_t he, ifB_t, if_neg (fun q => he (List.cons.inj q).1)]
theorem slices_Equal_eq (N : Nat) (a b : List Int) (ha : a.length ≤ 9223372036854775806) (hN : a.length < N) : slices_Equal_Sint64_int64 N a b = some (decide (a = b)) := by
  unfold slices_Equal_Sint64_int64
  simp only [pLen_d]
  by_cases hl : a.length = b.length
  · rw [pNe_f (by omega), ifB_f]
    have := slEq_loop (N := N) a b ha hl (onSum (fun _ => some true) (fun d => let x49 := d.1; some x49)) _ 0 N rfl (by omega) (by omega)
    rw [List.drop_zero, List.drop_zero] at this
    refine Eq.trans this ?_
    by_cases he : a = b
    · rw [decide_eq_true he, if_pos he]; rfl
    · rw [decide_eq_false he, if_neg he]; rfl
  · rw [pNe_t (by omega), ifB_t, decide_eq_false (fun h => hl (by rw [h]))]
end Go.AE.F
namespace Go.AE.F
open Go.AE
theorem eqInt64S_self (N : Nat) (l : List Int) (hl : l.length ≤ 9223372036854775806) (hN : l.length < N) : laws_eqInt64S N l l = some true := by
  rw [eqInt64S_eq N l l hl hN, decide_eq_true rfl]
end Go.AE.F
namespace Go.AE.F
open Go.AE
def ctlG (a : Int) : Bool := decide (a < 32) || decide (a = 127)
def wideG (a : Int) : Bool := (decide (4352 ≤ a) && decide (a ≤ 4447)) || (decide (11904 ≤ a) && decide (a ≤ 42191)) || (decide (44032 ≤ a) && decide (a ≤ 55203)) || (decide (63744 ≤ a) && decide (a ≤ 64255)) || (decide (65281 ≤ a) && decide (a ≤ 65376)) || (decide (127744 ≤ a) && decide (a ≤ 129791))
def wG (a : Int) : Int := if (!ptG a || (decide (768 ≤ a) && decide (a ≤ 879))) = true then 0 else if (ctlG a || wideG a) = true then 2 else 1
theorem spec_WidthOf_eq (N : Nat) (a : Int) : spec_WidthOf N a = some (wG a) := by
  unfold spec_WidthOf wG
  simp only [spec_l01Point_eq, ifB_or, ifB_and, bindO_s, pNot_d, pGe_d, pLe_d, pEq_d, pLt_d]
  unfold ctlG wideG
  simp only [Bool.or_assoc, ge_iff_le]
  cases (!ptG a || (decide (768 ≤ a) && decide (a ≤ 879))) with
  | true => rfl
  | false => rw [ifB_f, ifB_some]; rfl
theorem impl_isControl_eq (N : Nat) (a : Int) : impl_isControl N a = some (ctlG a) := by
  unfold impl_isControl ctlG
  simp only [ifB_or, bindO_s, pLt_d, pEq_d]
theorem impl_WidthOf_eq (N : Nat) (hN : 10 < N) (a : Int) : impl_WidthOf N a = some (wG a) := by
  obtain ⟨M, rfl⟩ : ∃ M, N = M + 8 := ⟨N - 8, by omega⟩
  unfold impl_WidthOf wG
  simp only [impl_isPoint_eq, impl_within_eq, impl_isControl_eq, ifB_or, bindO_s, pNot_d]
  by_cases h0 : (!ptG a || (decide (768 ≤ a) && decide (a ≤ 879))) = true
  · rw [h0, ifB_t, if_pos rfl]
  have h0' : (!ptG a || (decide (768 ≤ a) && decide (a ≤ 879))) = false := by simpa using h0
  rw [h0', ifB_f, if_neg (by simp)]
  cases hc : ctlG a with
  | true => rfl
  | false =>
    rw [ifB_f, Bool.false_or]
    have st : ∀ (i : Nat) (lo hi : Int) (n : Nat) (k : Unit ⊕ (Int × Unit) → Option Int), i < 6 → ([(4352, (4447, ((), ()))), (11904, (42191, ((), ()))), (44032, (55203, ((), ()))), (63744, (64255, ((), ()))), (65281, (65376, ((), ()))), (127744, (129791, ((), ())))] : List (Int × Int × Unit × Unit))[i]? = some (lo, (hi, ((), ()))) →
        loopP (impl_WidthOf.l6 (M + 8)) (n + 1) (a, 6, (i : Int), [(4352, (4447, ((), ()))), (11904, (42191, ((), ()))), (44032, (55203, ((), ()))), (63744, (64255, ((), ()))), (65281, (65376, ((), ()))), (127744, (129791, ((), ())))], ()) k =
        if (decide (lo ≤ a) && decide (a ≤ hi)) = true then k (.inr (2, ())) else loopP (impl_WidthOf.l6 (M + 8)) n (a, 6, ((i + 1 : Nat) : Int), [(4352, (4447, ((), ()))), (11904, (42191, ((), ()))), (44032, (55203, ((), ()))), (63744, (64255, ((), ()))), (65281, (65376, ((), ()))), (127744, (129791, ((), ())))], ()) k := fun i lo hi n k hi6 hg => by
      rw [loopP_s]
      unfold impl_WidthOf.l6
      simp only []
      have hix : idx ([(4352, (4447, ((), ()))), (11904, (42191, ((), ()))), (44032, (55203, ((), ()))), (63744, (64255, ((), ()))), (65281, (65376, ((), ()))), (127744, (129791, ((), ())))] : List (Int × Int × Unit × Unit)) (i : Int) = some (lo, (hi, ((), ()))) := by
        unfold idx
        rw [if_pos (by omega), Int.toNat_natCast, hg]
      rw [pLt_t (by omega), ifB_t, hix, bindO_s, bindO_s, impl_within_eq, bindO_s, pAdd_i (by omega) (by omega)]
      cases (decide (lo ≤ a) && decide (a ≤ hi)) <;> rfl
    refine (st 0 4352 4447 _ _ (by omega) rfl).trans ?_
    rw [st 1 11904 42191 _ _ (by omega) rfl, st 2 44032 55203 _ _ (by omega) rfl, st 3 63744 64255 _ _ (by omega) rfl, st 4 65281 65376 _ _ (by omega) rfl, st 5 127744 129791 _ _ (by omega) rfl]
    unfold wideG
    cases (decide (4352 ≤ a) && decide (a ≤ 4447)) with
    | true => rfl
    | false =>
    cases (decide (11904 ≤ a) && decide (a ≤ 42191)) with
    | true => rfl
    | false =>
    cases (decide (44032 ≤ a) && decide (a ≤ 55203)) with
    | true => rfl
    | false =>
    cases (decide (63744 ≤ a) && decide (a ≤ 64255)) with
    | true => rfl
    | false =>
    cases (decide (65281 ≤ a) && decide (a ≤ 65376)) with
    | true => rfl
    | false =>
    cases (decide (127744 ≤ a) && decide (a ≤ 129791)) with
    | true => rfl
    | false => rfl
theorem wG_rng (a : Int) : wG a = 0 ∨ wG a = 1 ∨ wG a = 2 := by
  unfold wG; split
  · exact .inl rfl
  · split
    · exact .inr (.inr rfl)
    · exact .inr (.inl rfl)
abbrev CellT := List Int × Int × Unit
end Go.AE.F
