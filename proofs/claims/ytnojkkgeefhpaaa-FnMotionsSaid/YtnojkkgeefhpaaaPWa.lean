/- The word ahead of the cursor. -/
import Derived.Test.YtnojkkgeefhpaaaPBuf
namespace Go.AE.F
open Go.AE

/-- where the word that ends at n begins -/
def wordAt (ps : List Int) : Nat → Nat
  | 0 => 0
  | n + 1 => match ps[n]? with
    | some p => if classG p = 2 then wordAt ps n else n + 1
    | none => n + 1

theorem wordAt_le (ps : List Int) : ∀ n, wordAt ps n ≤ n
  | 0 => Nat.le_refl _
  | n + 1 => by
    unfold wordAt
    split
    · split
      · have := wordAt_le ps n; omega
      · omega
    · omega

theorem specWord_loop {N : Nat} {R : Type} (b : BufT) (hb : b.1.length ≤ 300) (k : Int × Unit → Option R) : ∀ (n m : Nat), n ≤ b.1.length → n < m →
    loopP (spec_l15Word.l2 N) m ((n : Int), b, ()) k = k ((wordAt b.1 n : Int), ()) := by
  intro n
  induction n with
  | zero =>
    intro m hn hm
    obtain ⟨m, rfl⟩ := succ_of hm
    simp only [loopP_s, spec_l15Word.l2]
    rw [pGt_f (by omega), ifB_f, bindO_s, ifB_f]
    rfl
  | succ n ih =>
    intro m hn hm
    obtain ⟨m, rfl⟩ := succ_of hm
    have hlt : n < b.1.length := by omega
    simp only [loopP_s, spec_l15Word.l2]
    rw [pGt_t (by omega), ifB_t, pSub_i (by omega) (by omega), show ((n + 1 : Nat) : Int) - 1 = (n : Int) by omega, idx_lt hlt, bindO_s, spec_ClassOf_eq, bindO_s, bindO_s]
    unfold wordAt
    rw [List.getElem?_eq_getElem hlt]
    simp only
    by_cases h : classG b.1[n] = 2
    · rw [pEq_t h, ifB_t, if_pos h, ih m (by omega) (by omega)]
    · rw [pEq_f h, ifB_f, if_neg h]

theorem implWord_loop {N : Nat} {R : Type} (b : BufT) (hb : b.1.length ≤ 300) (k : BufT × Int × Unit → Option R) : ∀ (n m : Nat), n ≤ b.1.length → n < m →
    loopP (impl_Buf_ahead.l2 N) m (b, (n : Int), ()) k = k (b, (wordAt b.1 n : Int), ()) := by
  intro n
  induction n with
  | zero =>
    intro m hn hm
    obtain ⟨m, rfl⟩ := succ_of hm
    simp only [loopP_s, impl_Buf_ahead.l2]
    rw [pGt_f (by omega), ifB_f, bindO_s, ifB_f]
    rfl
  | succ n ih =>
    intro m hn hm
    obtain ⟨m, rfl⟩ := succ_of hm
    have hlt : n < b.1.length := by omega
    simp only [loopP_s, impl_Buf_ahead.l2]
    rw [pGt_t (by omega), ifB_t, pSub_i (by omega) (by omega), show ((n + 1 : Nat) : Int) - 1 = (n : Int) by omega]
    unfold impl_Buf_isWord
    rw [idx_lt hlt, bindO_s, impl_ClassOf_eq, bindO_s, bindO_s, bindO_s]
    unfold wordAt
    rw [List.getElem?_eq_getElem hlt]
    simp only
    by_cases h : classG b.1[n] = 2
    · rw [pEq_t h, ifB_t, if_pos h, ih m (by omega) (by omega)]
    · rw [pEq_f h, ifB_f, if_neg h]

/-- the word ahead of a right buffer's cursor -/
def aheadG (b : BufT) : List Int := sub b.1 (wordAt b.1 b.2.1.toNat : Int) b.2.1
def wordG (b : BufT) : List Int := if bufG b = true then aheadG b else []

theorem impl_ahead_eq (N : Nat) (b : BufT) (h : bufG b = true) (hN : 301 < N) : impl_Buf_ahead N b = some (aheadG b) := by
  obtain ⟨h1, h2, h3, h4, h5⟩ := bufG_iff.1 h
  have hl := ptsG_len h1
  unfold impl_Buf_ahead
  have hc : ((b.2.1.toNat : Nat) : Int) = b.2.1 := by omega
  have := implWord_loop (N := N) (R := List Int) b hl (fun d =>
    let x54 := d.1;
    let x55 := d.2.1;
    ifB (pLe 0 x55) (ifB (pLe x55 x54.2.1) (ifB (pLe x54.2.1 (pLen x54.1)) (some (sub x54.1 x55 x54.2.1)) none) none) none) b.2.1.toNat N (by omega) (by omega)
  rw [hc] at this
  refine Eq.trans this ?_
  have hw := wordAt_le b.1 b.2.1.toNat
  simp only [pLen_d]
  rw [pLe_t (by omega), ifB_t, pLe_t (by omega), ifB_t, pLe_t (by omega), ifB_t]
  rfl

theorem aheadG_len (b : BufT) : (aheadG b).length ≤ b.1.length := by
  unfold aheadG sub
  simp only [List.length_drop, List.length_take]
  omega

theorem impl_WordAhead_eq (N : Nat) (b : BufT) (hl : b.1.length < N) (hb : b.1.length ≤ 68719476736) (hN : 301 < N) : impl_WordAhead N b = some (wordG b) := by
  unfold impl_WordAhead wordG
  rw [impl_BufRight_eq N b hl (by omega), bindO_s, pNot_d]
  cases h : bufG b with
  | false => rfl
  | true =>
    have := aheadG_len b
    rw [impl_ahead_eq N b h hN, bindO_s, clone_eq N _ (by omega)]
    rfl

theorem spec_WordAhead_eq (N : Nat) (b : BufT) (hb : b.1.length ≤ 68719476736) (hN : 301 < N) : spec_WordAhead N b = some (wordG b) := by
  unfold spec_WordAhead wordG
  rw [spec_BufRight_eq N b hN, bindO_s, pNot_d]
  cases h : bufG b with
  | false => rfl
  | true =>
    obtain ⟨h1, h2, h3, h4, h5⟩ := bufG_iff.1 h
    have hl := ptsG_len h1
    have hc : ((b.2.1.toNat : Nat) : Int) = b.2.1 := by omega
    have hw := wordAt_le b.1 b.2.1.toNat
    have e : spec_l15Word N b = some (wordAt b.1 b.2.1.toNat : Int) := by
      unfold spec_l15Word
      have := specWord_loop (N := N) (R := Int) b hl (fun d => let x63 := d.1; some x63) b.2.1.toNat N (by omega) (by omega)
      rw [hc] at this
      exact this
    have ha := aheadG_len b
    rw [e, bindO_s, pLen_d, pLe_t (by omega), pLe_t (by omega), pLe_t (by omega)]
    simp only [Bool.not_true, ifB_f, ifB_t, if_true]
    have : spec_l01Copy N (sub b.1 (wordAt b.1 b.2.1.toNat : Int) b.2.1) = some (aheadG b) := copy_eq N _ (by unfold aheadG at ha; omega)
    rw [this]
    rfl

theorem wordG_len (b : BufT) : (wordG b).length ≤ b.1.length := by
  unfold wordG
  split
  · exact aheadG_len b
  · simp

theorem pure_FnExactWordAhead (b : BufT) (h : (b.1.length ≤ 9223372036854775807 ∧ ∀ a ∈ b.1, IntKind.i64.min ≤ a ∧ a ≤ IntKind.i64.max) ∧ (IntKind.i64.min ≤ b.2.1 ∧ b.2.1 ≤ IntKind.i64.max) ∧ (IntKind.i64.min ≤ b.2.2.1 ∧ b.2.2.1 ≤ IntKind.i64.max) ∧ True) :
    ∃ N, laws_FnExactWordAhead N b = some true := by
  refine ⟨1048600, ?_⟩
  unfold laws_FnExactWordAhead
  rw [szBuf_eq _ b 1048576 (by omega) (by omega) h.1.1, bindO_s]
  by_cases hs : (1048576 : Int) - b.1.length < 0
  · rw [if_pos hs, pLt_t (by omega), ifB_t]
  · rw [if_neg hs, pLt_f (by omega), ifB_f]
    have hl : b.1.length ≤ 1048576 := by omega
    have hw := wordG_len b
    have c1 : laws_toBuf 1048600 b = some b := toBuf_eq _ b (by omega) (by omega)
    have c2 : spec_WordAhead 1048600 b = some (wordG b) := spec_WordAhead_eq _ b (by omega) (by omega)
    have c3 : impl_WordAhead 1048600 b = some (wordG b) := impl_WordAhead_eq _ b (by omega) (by omega) (by omega)
    have c4 : laws_eqInt64S 1048600 (wordG b) (wordG b) = some true := eqInt64S_self _ _ (by omega) (by omega)
    have c5 : laws_eqBuf 1048600 b b = some true := eqBuf_self _ b (by omega) (by omega)
    have c6 : laws_markBuf 1048600 b 1 = some ((1 : Int) + b.1.length, (cnt 1 b.1.length, b.2)) := markBuf_eq _ b 1 (by omega) (by omega) (by omega)
    have c7 : laws_markInt64S 1048600 (wordG b) 1 = some ((1 : Int) + (wordG b).length, cnt 1 (wordG b).length) := markInt64S_eq _ _ _ (by omega) (by omega) (by omega)
    have c8 : laws_heldInt64S 1048600 (cnt 1 (wordG b).length) 1 = some ((1 : Int) + (wordG b).length) := heldInt64S_eq _ _ _ (by omega) (by omega) (by omega)
    have e1 : pNot true = false := rfl
    have e2 : pLt ((1 : Int) + (wordG b).length) 0 = false := pLt_f (by omega)
    have e3 : pNe ((1 : Int) + (wordG b).length) ((1 : Int) + (wordG b).length) = false := pNe_f rfl
    have e4 : pLt ((1 : Int) + b.1.length) 0 = false := pLt_f (by omega)
    simp only [c1, c2, c3, c4, c5, c6, c7, c8, bindO_s, pNot_same, ifB_f, e1, e2, e3, e4]

end Go.AE.F
