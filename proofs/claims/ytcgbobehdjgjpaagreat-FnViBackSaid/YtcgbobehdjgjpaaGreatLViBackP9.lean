/- Plain laws of those functions. -/
import Derived.Test.YtcgbobehdjgjpaaGreatLViBackP8
namespace Go.AE.F
open Go.AE
def hxd (m : Int) : Int := if m < 10 then 48 + m else 87 + m
def hx (b : UInt8) : List Int := [hxd (b.toNat / 16), hxd (b.toNat % 16)]
theorem isLong_one (N : Nat) (s : ByteArray) (hN : 2 < N) : zCO N [s] = some (decide ((s.data.toList.length : Int) > 20000)) := by
  unfold zCO zAC zA2
  obtain ⟨n, rfl⟩ : ∃ q, N = q + 2 := ⟨N - 2, by omega⟩
  simp only [loopP_s, zA2.l2, zC1, pLen, List.length_singleton]
  have e0 : ∀ x : ByteArray, idx [x] 0 = some x := fun x => rfl
  rw [pLt_t (by omega), ifB_t, e0, bindO_s, bindO_s, pSize_l]
  by_cases h : (s.data.toList.length : Int) > 20000
  · rw [pGt_t h, ifB_t, decide_eq_true h]
    rfl
  · rw [pGt_f (by omega), ifB_f, decide_eq_false h, pAdd_i (by omega) (by omega), pLt_f (by omega), ifB_f]
    rfl
end Go.AE.F
namespace Go.AE.F
open Go.AE
def bl (s : ByteArray) : List Int := s.data.toList.map fun b => (b.toNat : Int)
theorem bl_rng (s : ByteArray) (i : Nat) : 0 ≤ (bl s).getD i 0 ∧ (bl s).getD i 0 ≤ 255 := by
  unfold bl
  rw [List.getD_eq_getElem?_getD, List.getElem?_map]
  cases h : s.data.toList[i]? with
  | none => simp
  | some b =>
    have := b.toNat_lt
    simp only [Option.map_some, Option.getD_some]
    omega
theorem bl_at {s : ByteArray} {i : Nat} (h : i < (bl s).length) : bidx s (i : Int) = some ((bl s).getD i 0) := by
  have h2 : i < s.data.toList.length := by simpa [bl] using h
  rw [bidx_lt h2]
  unfold bl
  rw [List.getD_eq_getElem?_getD, List.getElem?_map, List.getElem?_eq_getElem h2]
  rfl
theorem psz (s : ByteArray) : pSize s = ((bl s).length : Int) := by
  rw [pSize_l]; simp [bl]
def isD (L : List Int) (i : Nat) : Bool := (decide (i < L.length) && decide (i < 3)) && pGe (L.getD i 0) 48 && pLe (L.getD i 0) 57 && !(decide (i = 0) && pEq (L.getD i 0) 48)
theorem dig_num {c v : Int} (hc : 0 ≤ c ∧ c ≤ 10000) (h1 : pGe v 48 = true) (h2 : pLe v 57 = true) : pAdd .i64 (pMul .i64 10 c) (pConv .i64 (pSub .u8 v 48)) = 10 * c + (v - 48) := by
  have h1 : 48 ≤ v := of_decide_eq_true h1
  have h2 : v ≤ 57 := of_decide_eq_true h2
  have e1 : pSub .u8 v 48 = v - 48 := IntWalk.u8_in (v - 48) ⟨by omega, by omega⟩
  have e2 : pMul .i64 10 c = 10 * c := wrap_i64 (by omega) (by omega)
  have e3 : pConv .i64 (v - 48) = v - 48 := wrap_i64 (by omega) (by omega)
  rw [e1, e2, e3, pAdd_i (by omega) (by omega)]
theorem isD_get {L : List Int} {i : Nat} (h : isD L i = true) : pGe (L.getD i 0) 48 = true ∧ pLe (L.getD i 0) 57 = true ∧ i < L.length ∧ i < 3 := by
  unfold isD at h
  simp only [Bool.and_eq_true, decide_eq_true_eq] at h
  exact ⟨h.1.1.2, h.1.2, h.1.1.1.1, h.1.1.1.2⟩
theorem pE0 (i : Nat) : pEq (i : Int) 0 = decide (i = 0) := by rw [pEq_d]; congr 1; simp
theorem spec_dig {R : Type} (N : Nat) (s : ByteArray) (i : Nat) (c : Int) {b : BufT} {r : RingT} {o} {kn kx : _ → Option R} (hi : i ≤ 10) (hc : 0 ≤ c ∧ c ≤ 10000) :
    zB8.l3 N (s, (i : Int), c, b, r, o, ()) kn kx = if isD (bl s) i = true then kn (s, ((i + 1 : Nat) : Int), 10 * c + ((bl s).getD i 0 - 48), b, r, o, ()) else kx (s, (i : Int), c, b, r, o, ()) := by
  unfold zB8.l3 isD
  simp only [psz]
  by_cases h1 : i < (bl s).length
  · have e1 : pLt (i : Int) ((bl s).length : Int) = true := pLt_t (by omega)
    rw [e1, ifB_t, bindO_s, bl_at h1, decide_eq_true h1]
    have e2 : pLt (i : Int) 3 = decide (i < 3) := by rw [pLt_d]; congr 1; simp; omega
    rw [e2, pE0]
    have en := fun q1 q2 => dig_num (v := (bl s).getD i 0) hc q1 q2
    have e5 : pAdd .i64 (i : Int) 1 = ((i + 1 : Nat) : Int) := by rw [pAdd_i (by omega) (by omega)]; omega
    generalize (bl s).getD i 0 = v at *
    cases decide (i < 3) with
    | false => rfl
    | true =>
      simp only [ifB_t, bindO_s]
      cases q1 : pGe v 48 with
      | false => rfl
      | true =>
        simp only [ifB_t, bindO_s]
        cases q2 : pLe v 57 with
        | false => rfl
        | true =>
          simp only [ifB_t, bindO_s]
          rw [en q1 q2, e5]
          cases decide (i = 0) with
          | false => rfl
          | true =>
            simp only [ifB_t, bindO_s]
            cases pEq v 48 <;> rfl
  · have e1 : pLt (i : Int) ((bl s).length : Int) = false := pLt_f (by omega)
    rw [e1, decide_eq_false h1]
    rfl
theorem impl_isDigit_eq (N : Nat) (v : Int) : zCK N v = some (pGe v 48 && pLe v 57) := by
  unfold zCK
  cases pGe v 48 <;> rfl
abbrev CmdT := Int × Int × Int × Int × Unit
theorem impl_dig {R : Type} (N : Nat) (s : ByteArray) (i : Nat) (c k a : Int) {o : CmdT} {kn kx : _ → Option R} (hi : i ≤ 10) (hc : 0 ≤ c ∧ c ≤ 10000) :
    zAI.l2 N (s, o, (c, (k, (a, ((i : Int), ())))), ()) kn kx = if isD (bl s) i = true then kn (s, o, (10 * (if i = 0 then 0 else c) + ((bl s).getD i 0 - 48), (k, (a, (((i + 1 : Nat) : Int), ())))), ()) else kx (s, o, (c, (k, (a, ((i : Int), ())))), ()) := by
  unfold zAI.l2 isD
  simp only [psz, impl_isDigit_eq]
  by_cases h1 : i < (bl s).length
  · have e1 : pLt (i : Int) ((bl s).length : Int) = true := pLt_t (by omega)
    have h0 : bidx s 0 = some ((bl s).getD 0 0) := bl_at (s := s) (i := 0) (by omega)
    rw [e1, ifB_t, bindO_s, bl_at h1, h0, decide_eq_true h1]
    have e2 : pLt (i : Int) 3 = decide (i < 3) := by rw [pLt_d]; congr 1; simp; omega
    rw [e2, pE0]
    have en := fun q1 q2 => dig_num (v := (bl s).getD i 0) hc q1 q2
    have en0 := fun q1 q2 => dig_num (c := 0) (v := (bl s).getD i 0) ⟨by omega, by omega⟩ q1 q2
    have e5 : pAdd .i64 (i : Int) 1 = ((i + 1 : Nat) : Int) := by rw [pAdd_i (by omega) (by omega)]; omega
    have e6 : i = 0 → (bl s).getD 0 0 = (bl s).getD i 0 := fun e => by rw [e]
    generalize (bl s).getD i 0 = v at *
    generalize (bl s).getD 0 0 = v0 at *
    cases decide (i < 3) with
    | false => rfl
    | true =>
      simp only [ifB_t, bindO_s]
      cases q1 : pGe v 48 with
      | false => rfl
      | true =>
        cases q2 : pLe v 57 with
        | false => rfl
        | true =>
          simp only [Bool.and_self, Bool.true_and, ifB_t, bindO_s]
          rw [en q1 q2, en0 q1 q2, e5]
          by_cases h0 : i = 0
          · rw [decide_eq_true h0, e6 h0, if_pos h0]
            simp only [ifB_t, bindO_s]
            cases pEq v 48 <;> rfl
          · rw [decide_eq_false h0, if_neg h0]
            rfl
  · have e1 : pLt (i : Int) ((bl s).length : Int) = false := pLt_f (by omega)
    rw [e1, decide_eq_false h1]
    rfl
def readG (L : List Int) : Nat × Int :=
  if isD L 0 = true then
    (if isD L 1 = true then
      (if isD L 2 = true then (3, 10 * (10 * (10 * 0 + (L.getD 0 0 - 48)) + (L.getD 1 0 - 48)) + (L.getD 2 0 - 48)) else (2, 10 * (10 * 0 + (L.getD 0 0 - 48)) + (L.getD 1 0 - 48)))
     else (1, 10 * 0 + (L.getD 0 0 - 48)))
  else (0, 1)
theorem isD_3 (L : List Int) : isD L 3 = false := by unfold isD; simp
theorem isD_num {L : List Int} {i : Nat} (h : isD L i = true) : 0 ≤ L.getD i 0 - 48 ∧ L.getD i 0 - 48 ≤ 9 ∧ (i = 0 → 1 ≤ L.getD i 0 - 48) := by
  obtain ⟨h1, h2, _, _⟩ := isD_get h
  have h1 : 48 ≤ L.getD i 0 := of_decide_eq_true h1
  have h2 : L.getD i 0 ≤ 57 := of_decide_eq_true h2
  refine ⟨by omega, by omega, fun e => ?_⟩
  unfold isD at h
  rw [decide_eq_true e] at h
  simp only [Bool.and_eq_true, Bool.true_and, Bool.not_eq_true', pEq_d, decide_eq_false_iff_not] at h
  have := h.2
  omega
theorem readG_ok (L : List Int) : (readG L).1 ≤ 3 ∧ (readG L).1 ≤ L.length ∧ 1 ≤ (readG L).2 ∧ (readG L).2 ≤ 999 := by
  unfold readG
  split
  · rename_i h0
    have a0 := isD_num h0
    have b0 := isD_get h0
    have a1 := a0.2.2 rfl
    split
    · rename_i h1
      have c1 := isD_num h1
      have d1 := isD_get h1
      split
      · rename_i h2
        have c2 := isD_num h2
        have d2 := isD_get h2
        refine ⟨by simp, ?_, ?_, ?_⟩ <;> simp only [] <;> omega
      · refine ⟨by simp, ?_, ?_, ?_⟩ <;> simp only [] <;> omega
    · refine ⟨by simp, ?_, ?_, ?_⟩ <;> simp only [] <;> omega
  · refine ⟨by simp, by simp, by simp, by simp⟩
def readS (L : List Int) : Int := if isD L 0 = true then (readG L).2 else 0
theorem readS_ok (L : List Int) : 0 ≤ readS L ∧ readS L ≤ 999 ∧ pMax 1 (readS L) = (readG L).2 := by
  have h := readG_ok L
  unfold readS pMax
  by_cases h0 : isD L 0 = true
  · rw [if_pos h0]; refine ⟨by omega, by omega, ?_⟩; split <;> omega
  · rw [if_neg h0]
    have e : (readG L).2 = 1 := by unfold readG; rw [if_neg h0]
    rw [e]; exact ⟨by omega, by omega, rfl⟩
theorem spec_read {R : Type} (N : Nat) (hN : 5 < N) (s : ByteArray) {b : BufT} {r : RingT} {o} (k : _ → Option R) :
    loopP (zB8.l3 N) N (s, 0, 0, b, r, o, ()) k = k (s, (((readG (bl s)).1 : Nat) : Int), readS (bl s), b, r, o, ()) := by
  obtain ⟨M, rfl⟩ : ∃ M, N = M + 5 := ⟨N - 5, by omega⟩
  unfold readS readG
  have st0 := fun (kn kx : _ → Option R) => spec_dig (M + 5) s 0 0 (b := b) (r := r) (o := o) (kn := kn) (kx := kx) (by omega) ⟨by omega, by omega⟩
  rw [loopP_s]
  refine (st0 _ _).trans ?_
  by_cases h0 : isD (bl s) 0 = true
  · have a0 := isD_num h0
    rw [if_pos h0, if_pos h0, if_pos h0]
    rw [loopP_s, spec_dig _ s 1 _ (by omega) ⟨by omega, by omega⟩]
    by_cases h1 : isD (bl s) 1 = true
    · have c1 := isD_num h1
      rw [if_pos h1, if_pos h1, loopP_s, spec_dig _ s 2 _ (by omega) ⟨by omega, by omega⟩]
      by_cases h2 : isD (bl s) 2 = true
      · have c2 := isD_num h2
        rw [if_pos h2, if_pos h2, loopP_s, spec_dig _ s 3 _ (by omega) ⟨by omega, by omega⟩, isD_3, if_neg (by simp)]
      · rw [if_neg h2, if_neg h2]
    · rw [if_neg h1, if_neg h1]
  · rw [if_neg h0, if_neg h0, if_neg h0]
    first | done | rfl
theorem impl_read {R : Type} (N : Nat) (hN : 5 < N) (s : ByteArray) {o : CmdT} (k : _ → Option R) :
    loopP (zAI.l2 N) N (s, o, (1, (0, (0, (0, ())))), ()) k = k (s, o, ((readG (bl s)).2, (0, (0, ((((readG (bl s)).1 : Nat) : Int), ())))), ()) := by
  obtain ⟨M, rfl⟩ : ∃ M, N = M + 5 := ⟨N - 5, by omega⟩
  unfold readG
  have st0 := fun (kn kx : _ → Option R) => impl_dig (M + 5) s 0 1 0 0 (o := o) (kn := kn) (kx := kx) (by omega) ⟨by omega, by omega⟩
  rw [loopP_s]
  refine (st0 _ _).trans ?_
  by_cases h0 : isD (bl s) 0 = true
  · have a0 := isD_num h0
    rw [if_pos h0, if_pos h0, if_pos rfl]
    rw [loopP_s, impl_dig _ s 1 _ 0 0 (by omega) ⟨by omega, by omega⟩, if_neg (show ¬ (1 : Nat) = 0 by omega)]
    by_cases h1 : isD (bl s) 1 = true
    · have c1 := isD_num h1
      rw [if_pos h1, if_pos h1, loopP_s, impl_dig _ s 2 _ 0 0 (by omega) ⟨by omega, by omega⟩, if_neg (show ¬ (2 : Nat) = 0 by omega)]
      by_cases h2 : isD (bl s) 2 = true
      · have c2 := isD_num h2
        rw [if_pos h2, if_pos h2, loopP_s, impl_dig _ s 3 _ 0 0 (by omega) ⟨by omega, by omega⟩, isD_3, if_neg (by simp)]
      · rw [if_neg h2, if_neg h2]
    · rw [if_neg h1, if_neg h1]
  · rw [if_neg h0, if_neg h0]
    first | done | rfl
end Go.AE.F
