/- What the laws' own helpers do with lists of numbers. -/
import Derived.Test.YtjofefnjigmnlaaPL
import Derived.Test.YtjofefnjigmnlaaF1
namespace Go.AE.F
open Go.AE

theorem szInt64S_eq (N : Nat) (l : List Int) (a : Int) (h0 : 0 ≤ a) (ha : a ≤ 9223372036854775807) (hl : l.length ≤ 9223372036854775807) :
    laws_szInt64S N l a = some (if a - l.length < 0 then -1 else a - l.length) := by
  unfold laws_szInt64S
  rw [pLen_d, pSub_i (by omega) (by omega)]
  by_cases h : a - (l.length : Int) < 0
  · rw [pLt_t h, ifB_t, if_pos h]
  · rw [pLt_f (by omega), ifB_f, if_neg h]

/-- how many numbers lists hold, each list counted with one more -/
def sumLen (l : List (List Int)) : Nat := (l.map List.length).sum

theorem szInt64SS_loop {N : Nat} {R : Type} (l : List (List Int)) (hl : l.length ≤ 9223372036854775806) (hb : ∀ x ∈ l, x.length ≤ 9223372036854775807) (k : (Int × Unit) ⊕ (Int × Unit) → Option R) :
    ∀ (m i n : Nat) (a : Int), l.length - i = m → i ≤ l.length → m < n → 0 ≤ a → a ≤ 9223372036854775807 →
    loopP (laws_szInt64SS.l5 N) n (l, a, (i : Int), ()) k = if a - sumLen (l.drop i) < 0 then k (.inr (-1, ())) else k (.inl (a - sumLen (l.drop i), ())) := by
  intro m
  induction m with
  | zero =>
    intro i n a hm hi hn h0 ha
    obtain ⟨n, rfl⟩ := succ_of hn
    simp only [loopP_s, laws_szInt64SS.l5, pLen_d]
    rw [pLt_f (by omega), ifB_f, List.drop_eq_nil_of_le (by omega)]
    simp only [sumLen, List.map_nil, List.sum_nil]
    rw [if_neg (by omega)]; simp
  | succ m ih =>
    intro i n a hm hi hn h0 ha
    obtain ⟨n, rfl⟩ := succ_of hn
    have hlt : i < l.length := by omega
    simp only [loopP_s, laws_szInt64SS.l5, pLen_d]
    rw [pLt_t (by omega), ifB_t, idx_lt hlt, bindO_s, szInt64S_eq N _ _ h0 ha (hb _ (List.getElem_mem hlt)), bindO_s, drop_c hlt]
    have es : sumLen (l[i] :: l.drop (i + 1)) = l[i].length + sumLen (l.drop (i + 1)) := rfl
    rw [es]
    by_cases h : a - (l[i].length : Int) < 0
    · rw [if_pos h, pLt_t (by omega), ifB_t, if_pos (by omega)]
    · rw [if_neg h, pLt_f (by omega), ifB_f, pAdd_i (by omega) (by omega)]
      have := ih (i + 1) n (a - l[i].length) (by omega) (by omega) (by omega) (by omega) (by omega)
      refine Eq.trans this ?_
      by_cases h2 : a - (l[i].length : Int) - sumLen (l.drop (i + 1)) < 0
      · rw [if_pos h2, if_pos (by omega)]
      · rw [if_neg h2, if_neg (by omega)]
        congr 3; omega

theorem szInt64SS_eq (N : Nat) (l : List (List Int)) (a : Int) (h0 : 0 ≤ a) (ha : a ≤ 1048576) (hl : l.length ≤ 9223372036854775807) (hb : ∀ x ∈ l, x.length ≤ 9223372036854775807) (hN : 1048578 ≤ N) :
    laws_szInt64SS N l a = some (if a - l.length - sumLen l < 0 then -1 else a - l.length - sumLen l) := by
  unfold laws_szInt64SS
  rw [pLen_d, pSub_i (by omega) (by omega)]
  by_cases h : a - (l.length : Int) < 0
  · rw [pLt_t h, ifB_t, if_pos (by omega)]
  · rw [pLt_f (by omega), ifB_f]
    have := szInt64SS_loop (N := N) l (by omega) hb (onSum (fun d => let x44 := d.1; some x44) (fun d => let x45 := d.1; some x45)) _ 0 N (a - l.length) rfl (by omega) (by omega) (by omega) (by omega)
    refine Eq.trans this ?_
    rw [List.drop_zero]
    by_cases h2 : a - (l.length : Int) - sumLen l < 0
    · rw [if_pos h2, if_pos h2]; rfl
    · rw [if_neg h2, if_neg h2]; rfl

theorem repl_len {A : Type} (n : Nat) (x : A) : (pRepl (n : Int) x).length = n := by simp [pRepl]

theorem toInt64S_eq (N : Nat) (l : List Int) (hl : l.length ≤ 68719476736) (hN : l.length < N) : laws_toInt64S N l = some l := by
  unfold laws_toInt64S
  rw [pLen_d, pEq_t rfl, ifB_t, pLe_t (by omega), ifB_t, pLe_t (by omega), ifB_t]
  have := copy_loop (R := List Int) (P := some) (f := id) (xs := l) (by omega) (step := laws_toInt64S.l3 N) (fun i out kn kx => by simp only [laws_toInt64S.l3, bindO_s, pLen_d]) (fun _ _ => rfl) (fun d => let x55 := d.1; some x55) _ 0 N (pRepl (l.length : Int) 0) rfl (by omega) (by omega) (repl_len _ _) (by simp)
  refine Eq.trans this ?_
  simp

theorem mem_sum {l : List (List Int)} {x : List Int} (h : x ∈ l) : x.length ≤ sumLen l := by
  induction l with
  | nil => cases h
  | cons a l ih =>
    have es : sumLen (a :: l) = a.length + sumLen l := rfl
    rw [es]
    cases h with
    | head => omega
    | tail _ h => have := ih h; omega

theorem toInt64SS_eq (N : Nat) (l : List (List Int)) (hl : l.length ≤ 68719476736) (hb : ∀ x ∈ l, x.length ≤ 68719476736) (hN : l.length < N) (hNb : ∀ x ∈ l, x.length < N) : laws_toInt64SS N l = some l := by
  unfold laws_toInt64SS
  rw [pLen_d, pEq_t rfl, ifB_t, pLe_t (by omega), ifB_t, pLe_t (by omega), ifB_t]
  have := copy_loop (R := List (List Int)) (P := laws_toInt64S N) (f := id) (xs := l) (by omega) (step := laws_toInt64SS.l3 N) (fun i out kn kx => by simp only [laws_toInt64SS.l3, pLen_d]) (fun x hx => toInt64S_eq N x (hb x hx) (hNb x hx)) (fun d => let x67 := d.1; some x67) _ 0 N (pRepl (l.length : Int) []) rfl (by omega) (by omega) (repl_len _ _) (by simp)
  refine Eq.trans this ?_
  simp

theorem eqInt64S_eq (N : Nat) (a b : List Int) (ha : a.length ≤ 9223372036854775806) (hN : a.length < N) : laws_eqInt64S N a b = some (decide (a = b)) := by
  unfold laws_eqInt64S
  simp only [pLen_d]
  by_cases hl : a.length = b.length
  · rw [pNe_f (by omega), ifB_f]
    obtain ⟨h1, h2⟩ := eq_loop (R := Bool) (P := fun x y => some (pNe x y)) (xs := a) (ys := b) ha hl (step := laws_eqInt64S.l4 N) (fun i kn kx => by simp only [laws_eqInt64S.l4, bindO_s, pLen_d])
      (fun x _ y _ => ⟨_, rfl, by rw [pNe_d]; simp⟩) (onSum (fun _ => some true) (fun d => let x43 := d.1; some x43)) _ 0 N rfl (by omega) (by omega)
    rw [List.drop_zero, List.drop_zero] at h1 h2
    by_cases he : a = b
    · rw [decide_eq_true he]; exact h1 he
    · rw [decide_eq_false he]; exact h2 he
  · rw [pNe_t (by omega), ifB_t, decide_eq_false (fun h => hl (by rw [h]))]

theorem eqInt64SS_eq (N : Nat) (a b : List (List Int)) (ha : a.length ≤ 9223372036854775806) (hb : ∀ x ∈ a, x.length ≤ 9223372036854775806) (hN : a.length < N) (hNb : ∀ x ∈ a, x.length < N) : laws_eqInt64SS N a b = some (decide (a = b)) := by
  unfold laws_eqInt64SS
  simp only [pLen_d]
  by_cases hl : a.length = b.length
  · rw [pNe_f (by omega), ifB_f]
    obtain ⟨h1, h2⟩ := eq_loop (R := Bool) (P := fun x y => bindO (laws_eqInt64S N x y) fun b => some (pNot b)) (xs := a) (ys := b) ha hl (step := laws_eqInt64SS.l4 N) (fun i kn kx => by
        simp only [laws_eqInt64SS.l4, pLen_d]
        congr 1; congr 1; funext x; congr 1; funext y
        cases laws_eqInt64S N x y <;> rfl)
      (fun x hx y _ => ⟨_, by rw [eqInt64S_eq N x y (hb x hx) (hNb x hx)]; rfl, by rw [pNot_d]; simp⟩) (onSum (fun _ => some true) (fun d => let x55 := d.1; some x55)) _ 0 N rfl (by omega) (by omega)
    rw [List.drop_zero, List.drop_zero] at h1 h2
    by_cases he : a = b
    · rw [decide_eq_true he]; exact h1 he
    · rw [decide_eq_false he]; exact h2 he
  · rw [pNe_t (by omega), ifB_t, decide_eq_false (fun h => hl (by rw [h]))]

end Go.AE.F
