/- Plain laws of those functions. -/
import Derived.Test.YtpenpjbobpalcaaXCodeOfP2
namespace Go.AE.F
open Go.AE
def kwL : List ByteArray := [(ByteArray.mk #[]), (ByteArray.mk #[]), (ByteArray.mk #[108, 101, 116]), (ByteArray.mk #[105, 102]), (ByteArray.mk #[119, 104, 105, 108, 101]), (ByteArray.mk #[105, 110, 115, 101, 114, 116]), (ByteArray.mk #[100, 101, 108, 101, 116, 101]), (ByteArray.mk #[103, 111]), (ByteArray.mk #[109, 97, 114, 107]), (ByteArray.mk #[98, 101, 108, 108]), (ByteArray.mk #[100, 111]), (ByteArray.mk #[]), (ByteArray.mk #[]), (ByteArray.mk #[99, 117, 114, 115, 111, 114]), (ByteArray.mk #[108, 101, 110, 103, 116, 104]), (ByteArray.mk #[109, 97, 114, 107, 97, 116]), (ByteArray.mk #[97, 116]), (ByteArray.mk #[110, 111, 116]), (ByteArray.mk #[111, 114]), (ByteArray.mk #[97, 110, 100]), (ByteArray.mk #[60]), (ByteArray.mk #[61]), (ByteArray.mk #[62]), (ByteArray.mk #[43]), (ByteArray.mk #[45]), (ByteArray.mk #[42]), (ByteArray.mk #[47]), (ByteArray.mk #[101, 108, 115, 101])]
def mvL : List ByteArray := [(ByteArray.mk #[]), (ByteArray.mk #[108, 101, 102, 116]), (ByteArray.mk #[114, 105, 103, 104, 116]), (ByteArray.mk #[119, 111, 114, 100, 45, 98, 97, 99, 107]), (ByteArray.mk #[119, 111, 114, 100, 45, 110, 101, 120, 116]), (ByteArray.mk #[108, 105, 110, 101, 45, 115, 116, 97, 114, 116]), (ByteArray.mk #[108, 105, 110, 101, 45, 101, 110, 100]), (ByteArray.mk #[117, 112]), (ByteArray.mk #[100, 111, 119, 110]), (ByteArray.mk #[102, 105, 114, 115, 116]), (ByteArray.mk #[108, 97, 115, 116])]
def kwAt : List ByteArray → Nat → ByteArray → Option Nat
  | [], _, _ => none
  | w :: l, i, s => if w = s then some i else kwAt l (i + 1) s
theorem zBW : ∀ (l : List ByteArray) (i : Nat) (s : ByteArray), (kwAt l i s).isSome = l.any fun w => decide (w = s)
  | [], i, s => rfl
  | w :: l, i, s => by
    unfold kwAt
    by_cases h : w = s
    · rw [if_pos h, List.any_cons, decide_eq_true h]; rfl
    · rw [if_neg h, zBW l (i + 1) s, List.any_cons, decide_eq_false h, Bool.false_or]
theorem zDS (N : Nat) : zAS N = some mvL := rfl
theorem zEF (N : Nat) : zAX N = some kwL := rfl
theorem zC5 (N : Nat) (s : ByteArray) (L : List ByteArray) (hL : L.length ≤ 1000) {R : Type} (k : (Unit) ⊕ (Int × Unit) → Option R) :
    ∀ (n i : Nat), i ≤ L.length → L.length < n + i → loopP (zA9.l3 N) n (s, (i : Int), L, ()) k = (match kwAt (L.drop i) i s with | some j => k (.inr ((j : Int), ())) | none => k (.inl ()))
  | 0, i, h, hn => by omega
  | n + 1, i, h, hn => by
    rw [zBJ]; unfold zA9.l3
    simp only [zBK]
    by_cases hi : i < L.length
    · rw [pLt_t (by omega), ifB_t, zBM hi, zA8, zA8, zBV, List.drop_eq_getElem_cons hi]
      unfold kwAt
      by_cases e : L[i] = s
      · rw [decide_eq_true e, ifB_t, if_pos e]
      · rw [decide_eq_false e, ifB_f, if_neg e, zBI (by omega) (by omega)]
        exact zC5 N s L hL k n (i + 1) (by omega) (by omega)
    · rw [pLt_f (by omega), ifB_f, List.drop_eq_nil_of_le (by omega)]; rfl
def motionG (s : ByteArray) : Int := match kwAt (mvL.drop 1) 1 s with | some j => (j : Int) | none => 0
theorem zCL (N : Nat) (hN : 20 < N) (s : ByteArray) : zA9 N s = some (motionG s) := by
  unfold zA9
  rw [zDS, zA8]
  refine (zC5 N s mvL (by decide) _ N 1 (by decide) (by show 11 < N + 1; omega)).trans ?_
  unfold motionG
  cases kwAt (mvL.drop 1) 1 s <;> rfl
theorem zCO (N : Nat) (s : ByteArray) (hs : s ≠ ByteArray.mk #[]) (L : List ByteArray) (hL : L.length ≤ 1000) {R : Type} (k : (Unit) ⊕ (Int × Unit) → Option R) :
    ∀ (n i : Nat), i ≤ L.length → L.length < n + i → loopP (zAF.l3 N) n (s, (i : Int), L, ()) k = (match kwAt (L.drop i) i s with | some j => k (.inr ((j : Int), ())) | none => k (.inl ()))
  | 0, i, h, hn => by omega
  | n + 1, i, h, hn => by
    rw [zBJ]; unfold zAF.l3
    simp only [zBK]
    by_cases hi : i < L.length
    · rw [pLt_t (by omega), ifB_t, zBM hi, zA8, zA8, zBV, zBV, List.drop_eq_getElem_cons hi, decide_eq_false hs]
      unfold kwAt
      by_cases e : L[i] = s
      · rw [decide_eq_true e, ifB_t, if_pos e]; rfl
      · rw [decide_eq_false e, ifB_f, if_neg e, zA8, ifB_f, zBI (by omega) (by omega)]
        exact zCO N s hs L hL k n (i + 1) (by omega) (by omega)
    · rw [pLt_f (by omega), ifB_f, List.drop_eq_nil_of_le (by omega)]; rfl
def kwG (s : ByteArray) : Int := match kwAt (kwL.drop 2) 2 s with | some j => (j : Int) | none => 0
theorem zEZ (N : Nat) (hN : 40 < N) (s : ByteArray) (hs : s ≠ ByteArray.mk #[]) : zAF N s = some (kwG s) := by
  unfold zAF
  rw [zEF, zA8]
  refine (zCO N s hs kwL (by decide) _ N 2 (by decide) (by show 28 < N + 2; omega)).trans ?_
  unfold kwG
  cases kwAt (kwL.drop 2) 2 s <;> rfl
def headG (s : ByteArray) : Int := ((s.data.toList.headD 0).toNat : Int)
theorem hd0 (l : List UInt8) (h : 0 < l.length) : l[0] = l.headD 0 := by
  cases l with
  | nil => simp at h
  | cons _ _ => rfl
theorem zCR {s : ByteArray} (h : 1 ≤ s.size) : bidx s 0 = some (headG s) := by
  have hl := zD1 s
  have := zCH (s := s) (i := 0) (by omega)
  rw [show ((0 : Nat) : Int) = 0 from rfl] at this
  rw [this, hd0 _ (by omega)]; rfl
theorem zCS {s : ByteArray} (h : keyG s = true) : 1 ≤ s.size := by
  unfold keyG at h
  simp only [Bool.and_eq_true, decide_eq_true_eq] at h
  exact h.1.1
def nameG (s : ByteArray) : Bool := keyG s && (!decide (headG s = 45) && decide (kwG s = 0))
theorem zED (N : Nat) (hN : 40 < N) (s : ByteArray) : zB0 N s = some (nameG s) := by
  unfold zB0 nameG
  rw [zEO N (by omega), zA8]
  cases hk : keyG s with
  | false => rfl
  | true =>
    have hs := zCS hk
    rw [ifB_t, zCR hs, zA8, zA8, pNe_d, Bool.true_and]
    cases decide (headG s = 45) with
    | true => rfl
    | false =>
      rw [Bool.not_false, ifB_t, zEZ N hN s (by intro e; rw [e] at hs; exact absurd hs (by decide)), zA8, zA8, pEq_d, Bool.true_and]
def ownG (n : NodeT) : Bool :=
  (decide (1 ≤ n.1) && decide (n.1 ≤ 26)) &&
  (if n.1 = 11 then (decide (0 ≤ n.2.1) && decide (n.2.1 ≤ 999999999)) && decide (n.2.2.1 = ByteArray.mk #[])
   else if n.1 = 2 ∨ n.1 = 12 then decide (n.2.1 = 0) && nameG n.2.2.1
   else if n.1 = 10 then decide (n.2.1 = 0) && decide (0 < motionG n.2.2.1)
   else decide (n.2.1 = 0) && decide (n.2.2.1 = ByteArray.mk #[]))
theorem zFB (N : Nat) (hN : 40 < N) (n : NodeT) : zB7 N n = some (ownG n) := by
  unfold zB7 ownG
  rw [pLt_d, pGt_d, zC0, zA8]
  by_cases h1 : 1 ≤ n.1
  · by_cases h2 : n.1 ≤ 26
    · rw [decide_eq_false (by omega : ¬ n.1 < 1), decide_eq_false (by omega : ¬ n.1 > 26), Bool.or_false, ifB_f, decide_eq_true h1, decide_eq_true h2, Bool.true_and, Bool.true_and]
      by_cases a : n.1 = 11
      · rw [pEq_t a, ifB_t, if_pos a, pGe_d, pLe_d, zBN, zA8, zBN, zA8, zBV]
      rw [pEq_f a, ifB_f, if_neg a]
      by_cases b : n.1 = 2
      · rw [pEq_t b, ifB_t, if_pos (.inl b), zED N hN, zA8, pEq_d, zBN, zA8]
      rw [pEq_f b, ifB_f]
      by_cases c : n.1 = 12
      · rw [pEq_t c, ifB_t, if_pos (.inr c), zED N hN, zA8, pEq_d, zBN, zA8]
      rw [pEq_f c, ifB_f, if_neg (by rintro (z | z) <;> contradiction)]
      by_cases d : n.1 = 10
      · rw [pEq_t d, ifB_t, if_pos d, zCL N (by omega), zA8, pEq_d, zBN, zA8]; rfl
      rw [pEq_f d, ifB_f, if_neg d, pEq_d, zBV, zBN, zA8]
    · rw [decide_eq_true (by omega : n.1 > 26), Bool.or_true, ifB_t, decide_eq_false h2, Bool.and_false]; rfl
  · rw [decide_eq_true (by omega : n.1 < 1), Bool.true_or, ifB_t, decide_eq_false h1]; rfl
end Go.AE.F
namespace Go.AE.F
open Go.AE
def ksG (k K : Int) : ByteArray :=
  if k = 1 then ByteArray.mk #[42] else if k = 2 then ByteArray.mk #[101] else if k = 5 then ByteArray.mk #[101] else if k = 7 then ByteArray.mk #[101] else if k = 8 then ByteArray.mk #[101]
  else if k = 16 then ByteArray.mk #[101] else if k = 17 then ByteArray.mk #[101] else if k = 3 then (if K = 3 then ByteArray.mk #[101, 98, 98] else ByteArray.mk #[101, 98]) else if k = 4 then ByteArray.mk #[101, 98]
  else if k = 6 then ByteArray.mk #[101, 101] else if k = 9 then ByteArray.mk #[] else if k = 10 then ByteArray.mk #[] else if k = 11 then ByteArray.mk #[] else if k = 12 then ByteArray.mk #[]
  else if k = 13 then ByteArray.mk #[] else if k = 14 then ByteArray.mk #[] else if k = 15 then ByteArray.mk #[] else ByteArray.mk #[101, 101]
theorem zD6 (N : Nat) (n : NodeT) : zB4 N n = some (ksG n.1 n.2.2.2.1) := by
  unfold zB4 ksG
  simp only [pEq_d, zEK, decide_eq_true_eq]
def kidC (k : Int) (i : Nat) : Int := if k = 1 then 115 else if (k = 3 ∨ k = 4) ∧ 0 < i then 98 else 101
def kidsB (n : NodeT) : Bool :=
  if n.1 = 1 then decide (0 ≤ n.2.2.2.1) && decide (n.2.2.2.1 ≤ 200) else decide (n.2.2.2.1 = ((ksG n.1 n.2.2.2.1).size : Int))
def kindOk (c k : Int) : Bool := if c = 98 then decide (k = 1) else if c = 115 then decide (2 ≤ k) && decide (k ≤ 10) else decide (11 ≤ k) && decide (k ≤ 26)
theorem ks_at {k K : Int} (h1 : k ≠ 1) (i : Nat) (hi : i < (ksG k K).size) : bidx (ksG k K) (i : Int) = some (kidC k i) := by
  have e1 : ∀ i : Nat, i < (ByteArray.mk #[101]).size → bidx (ByteArray.mk #[101]) (i : Int) = some 101 := fun i hi => by
    have : i = 0 := by have : i < 1 := hi; omega
    subst this; rfl
  have e2 : ∀ i : Nat, i < (ByteArray.mk #[101, 101]).size → bidx (ByteArray.mk #[101, 101]) (i : Int) = some 101 := fun i hi => by
    have hi : i < 2 := hi
    match i, hi with
    | 0, _ => rfl
    | 1, _ => rfl
  have e3 : ∀ i : Nat, i < (ByteArray.mk #[101, 98]).size → bidx (ByteArray.mk #[101, 98]) (i : Int) = some (if 0 < i then 98 else 101) := fun i hi => by
    have hi : i < 2 := hi
    match i, hi with
    | 0, _ => rfl
    | 1, _ => rfl
  have e4 : ∀ i : Nat, i < (ByteArray.mk #[101, 98, 98]).size → bidx (ByteArray.mk #[101, 98, 98]) (i : Int) = some (if 0 < i then 98 else 101) := fun i hi => by
    have hi : i < 3 := hi
    match i, hi with
    | 0, _ => rfl
    | 1, _ => rfl
    | 2, _ => rfl
  have e0 : ∀ i : Nat, i < (ByteArray.mk #[]).size → bidx (ByteArray.mk #[]) (i : Int) = some 101 := fun i hi => absurd (show i < 0 from hi) (by omega)
  by_cases h3 : k = 3
  · subst h3
    have hk : kidC 3 i = if 0 < i then 98 else 101 := by unfold kidC; simp
    rw [hk]
    by_cases hK : K = 3
    · subst hK; exact e4 i hi
    · have : ksG 3 K = ByteArray.mk #[101, 98] := by unfold ksG; simp [hK]
      rw [this] at hi ⊢
      exact e3 i hi
  by_cases h4 : k = 4
  · subst h4
    have hk : kidC 4 i = if 0 < i then 98 else 101 := by unfold kidC; simp
    rw [hk]; exact e3 i hi
  have hk : kidC k i = 101 := by unfold kidC; rw [if_neg h1, if_neg (by rintro ⟨z | z, _⟩ <;> contradiction)]
  rw [hk]
  have hs : ksG k K = ByteArray.mk #[101] ∨ ksG k K = ByteArray.mk #[101, 101] ∨ ksG k K = ByteArray.mk #[] := by
    unfold ksG
    rw [if_neg h1]
    by_cases a : k = 2; · rw [if_pos a]; exact .inl rfl
    rw [if_neg a]; by_cases a : k = 5; · rw [if_pos a]; exact .inl rfl
    rw [if_neg a]; by_cases a : k = 7; · rw [if_pos a]; exact .inl rfl
    rw [if_neg a]; by_cases a : k = 8; · rw [if_pos a]; exact .inl rfl
    rw [if_neg a]; by_cases a : k = 16; · rw [if_pos a]; exact .inl rfl
    rw [if_neg a]; by_cases a : k = 17; · rw [if_pos a]; exact .inl rfl
    rw [if_neg a, if_neg h3, if_neg h4]; by_cases a : k = 6; · rw [if_pos a]; exact .inr (.inl rfl)
    rw [if_neg a]; by_cases a : k = 9; · rw [if_pos a]; exact .inr (.inr rfl)
    rw [if_neg a]; by_cases a : k = 10; · rw [if_pos a]; exact .inr (.inr rfl)
    rw [if_neg a]; by_cases a : k = 11; · rw [if_pos a]; exact .inr (.inr rfl)
    rw [if_neg a]; by_cases a : k = 12; · rw [if_pos a]; exact .inr (.inr rfl)
    rw [if_neg a]; by_cases a : k = 13; · rw [if_pos a]; exact .inr (.inr rfl)
    rw [if_neg a]; by_cases a : k = 14; · rw [if_pos a]; exact .inr (.inr rfl)
    rw [if_neg a]; by_cases a : k = 15; · rw [if_pos a]; exact .inr (.inr rfl)
    rw [if_neg a]; exact .inr (.inl rfl)
  rcases hs with z | z | z
  · rw [z] at hi ⊢; exact e1 i hi
  · rw [z] at hi ⊢; exact e2 i hi
  · rw [z] at hi ⊢; exact e0 i hi
theorem zE5 {k K : Int} (h1 : k ≠ 1) : pSEq (ksG k K) (ByteArray.mk #[42]) = false := by
  rw [zBV]
  refine decide_eq_false ?_
  intro e
  have h0 := ks_at (K := K) h1 0 (by rw [e]; decide)
  rw [e] at h0
  have h0 : some (42 : Int) = some (kidC k 0) := h0
  unfold kidC at h0
  rw [if_neg h1, if_neg (by omega)] at h0
  simp at h0
end Go.AE.F
