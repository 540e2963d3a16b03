/- Plain laws of those functions. -/
import Derived.Test.YtmokidikfomifaaGreatXMachineRunP1
namespace Go.AE.F
open Go.AE
def ptsG (l : List Int) : Bool := decide (l.length ≤ 300) && l.all ptG
theorem spec_PointsRight_eq (N : Nat) (l : List Int) (hN : 301 < N) : spec_PointsRight N l = some (ptsG l) := by
  unfold spec_PointsRight ptsG
  rw [pLen_d]
  by_cases h : l.length ≤ 300
  · rw [pGt_f (by omega), ifB_f, decide_eq_true h, Bool.true_and]
    have := all_loop (R := Bool) (P := spec_l01Point N) (p := ptG) (xs := l) (by omega) (step := spec_PointsRight.l4 N) (fun i kn kx => by simp only [spec_PointsRight.l4, pLen_d]) (fun x _ => spec_l01Point_eq N x)
      (onSum (fun d => some true) (fun d => let x37 := d.1; some x37)) _ 0 N rfl (by omega) (by omega)
    rw [List.drop_zero] at this
    refine Eq.trans this ?_
    cases l.all ptG <;> rfl
  · rw [pGt_t (by omega), ifB_t, decide_eq_false h]; rfl
theorem contains_all {A : Type} {N : Nat} {P : A → Option Bool} {p : A → Bool} {l : List A} (hl : l.length < N) (hb : l.length ≤ 9223372036854775806) {step : {R : Type} → List A × Int × Int × Unit → (List A × Int × Int × Unit → Option R) → (Unit ⊕ (Int × Unit) → Option R) → Option R}
    (hs : ∀ i kn kx, step (R := Int) (l, (l.length : Int), i, ()) kn kx = ifB (pLt i l.length) (bindO (idx l i) fun y => bindO (P y) fun b => ifB b (kx (.inr (i, ()))) (kn (l, (l.length : Int), pAdd .i64 i 1, ()))) (kx (.inl ())))
    (hP : ∀ x ∈ l, P x = some (!p x)) :
    (bindO (loopP (R := Int) step N (l, (l.length : Int), (0 : Int), ()) (onSum (fun _ => some (-1)) (fun d => let x43 := d.1; some x43))) fun y1 => some (pGe y1 0)) = some (!l.all p) := by
  have := find_loop (R := Int) (P := P) (p := fun a => !p a) (xs := l) hb (step := step) hs hP (onSum (fun _ => some (-1)) (fun d => let x43 := d.1; some x43)) _ 0 N rfl (by omega) (by omega)
  rw [List.drop_zero] at this
  rw [show (0 : Int) = ((0 : Nat) : Int) from rfl, this]
  have h := find_any (p := fun a => !p a) (xs := l)
  rw [← not_any (p := p)]
  cases hf : l.findIdx? (fun a => !p a) with
  | none =>
    rw [hf] at h
    have ha : l.any (fun a => !p a) = false := by
      cases ha : l.any (fun a => !p a) with
      | false => rfl
      | true => have := h.2 ha; simp at this
    rw [ha]; rfl
  | some j =>
    rw [hf] at h
    have ha : l.any (fun a => !p a) = true := h.1 (by simp)
    rw [ha]
    show (bindO (some ((0 + j : Nat) : Int)) fun y1 => some (pGe y1 0)) = _
    rw [bindO_s, pGe_t (by omega)]; rfl
theorem impl_PointsRight_eq (N : Nat) (l : List Int) (hl : l.length < N) (hb : l.length ≤ 9223372036854775806) : impl_PointsRight N l = some (ptsG l) := by
  unfold impl_PointsRight slices_ContainsFunc_Sint64_int64__impl_PointsRight_c1 slices_IndexFunc_Sint64_int64__impl_PointsRight_c1 ptsG
  rw [pLen_d, contains_all (P := impl_PointsRight_c1 N) (p := ptG) (step := fun {R} => slices_IndexFunc_Sint64_int64__impl_PointsRight_c1.l2 (R := R) N) hl hb (fun i kn kx => rfl) (fun x _ => by unfold impl_PointsRight_c1; rw [impl_isPoint_eq, bindO_s, pNot_d]), bindO_s]
  have e : pLe (l.length : Int) 300 = decide (l.length ≤ 300) := by rw [pLe_d]; congr 1; simp; omega
  rw [e, ifB_and, bindO_s, pNot_d]
  simp
end Go.AE.F
namespace Go.AE.F
open Go.AE
theorem pNot_same {A : Type} [DecidableEq A] (a : A) : pNot (decide (a = a)) = false := by rw [decide_eq_true rfl]; rfl
end Go.AE.F
namespace Go.AE.F
open Go.AE
theorem same_self {R : Type} (a : Option R) : same a a = a := if_pos rfl
theorem clone_eq (N : Nat) (a : List Int) (h : a.length ≤ 68719476736) : slices_Clone_Sint64_int64 N a = some a := by
  unfold slices_Clone_Sint64_int64 slices_Clone_Sint64_int64.g
  rw [pFit_t (by simp; exact h), pLen_d]
  simp only [ifB_t]
  cases a with
  | nil =>
    rw [pEq_t (by simp), ifB_t]
    exact same_self _
  | cons x l =>
    rw [pEq_f (by simp; omega), ifB_f]
    rfl
theorem copy_eq (N : Nat) (a : List Int) (h : a.length ≤ 68719476736) : spec_l01Copy N a = some a := by
  unfold spec_l01Copy
  rw [pFit_t (by simp; exact h), ifB_t]
  rfl
end Go.AE.F
namespace Go.AE.F
open Go.AE
abbrev BufT := List Int × Int × Int × Unit
def bufG (b : BufT) : Bool := ptsG b.1 && decide (0 ≤ b.2.1) && decide (b.2.1 ≤ b.1.length) && decide (0 ≤ b.2.2.1) && decide (b.2.2.1 ≤ b.1.length)
theorem bufG_iff {b : BufT} : bufG b = true ↔ ptsG b.1 = true ∧ 0 ≤ b.2.1 ∧ b.2.1 ≤ b.1.length ∧ 0 ≤ b.2.2.1 ∧ b.2.2.1 ≤ b.1.length := by
  unfold bufG
  simp only [Bool.and_eq_true, decide_eq_true_eq, and_assoc]
theorem ptsG_len {l : List Int} (h : ptsG l = true) : l.length ≤ 300 := by
  unfold ptsG at h
  simp only [Bool.and_eq_true, decide_eq_true_eq] at h
  exact h.1
theorem spec_BufRight_eq (N : Nat) (b : BufT) (hN : 301 < N) : spec_BufRight N b = some (bufG b) := by
  unfold spec_BufRight bufG
  rw [spec_PointsRight_eq N b.1 hN]
  simp only [bindO_s, ifB_and, pGe_d, pLe_d, pLen_d, ge_iff_le]
theorem impl_size_eq (N : Nat) (l : List Int) (h : l.length ≤ 9223372036854775807) : impl_size_Sint64 N l = some (l.length : Int) := by
  unfold impl_size_Sint64
  rw [pLen_d]
  first | done | rfl | (simp only [pConv]; rw [wrap_i64 (by omega) (by omega)])
theorem impl_BufRight_eq (N : Nat) (b : BufT) (hl : b.1.length < N) (hb : b.1.length ≤ 9223372036854775806) : impl_BufRight N b = some (bufG b) := by
  unfold impl_BufRight impl_Buf_isPlace bufG
  rw [impl_PointsRight_eq N b.1 hl hb]
  simp only [impl_size_eq N b.1 (by omega), impl_within_eq, bindO_s, ifB_and, Bool.and_assoc]
theorem szBuf_eq (N : Nat) (b : BufT) (a : Int) (h0 : 0 ≤ a) (ha : a ≤ 9223372036854775807) (hl : b.1.length ≤ 9223372036854775807) :
    laws_szBuf N b a = some (if a - b.1.length < 0 then -1 else a - b.1.length) := by
  unfold laws_szBuf
  rw [szInt64S_eq N b.1 a h0 ha hl, bindO_s]
  by_cases h : a - (b.1.length : Int) < 0
  · rw [if_pos h, pLt_t (by omega), ifB_t]
  · rw [if_neg h, pLt_f (by omega), ifB_f]
theorem toBuf_eq (N : Nat) (b : BufT) (hl : b.1.length ≤ 68719476736) (hN : b.1.length < N) : laws_toBuf N b = some b := by
  unfold laws_toBuf
  rw [toInt64S_eq N b.1 hl hN]
  rfl
theorem eqBuf_self (N : Nat) (b : BufT) (hl : b.1.length ≤ 9223372036854775806) (hN : b.1.length < N) : laws_eqBuf N b b = some true := by
  unfold laws_eqBuf
  rw [eqInt64S_eq N b.1 b.1 hl hN, bindO_s, pNot_same, ifB_f, pNe_f rfl, ifB_f, pNe_f rfl, ifB_f]
theorem markBuf_eq (N : Nat) (b : BufT) (k : Int) (hk : 0 ≤ k) (hL : k + b.1.length ≤ 4611686018427387904) (hN : b.1.length < N) : laws_markBuf N b k = some (k + b.1.length, (cnt k b.1.length, b.2)) := by
  unfold laws_markBuf
  rw [markInt64S_eq N b.1 k hk hL hN]
  rfl
end Go.AE.F
namespace Go.AE.F
open Go.AE
theorem u64_w (a : Int) : IntKind.u64.wrap a = a % 18446744073709551616 := rfl
theorem mask32 (a : Nat) (h : a < 4294967296) : pAnd .u64 (a : Int) 4294967295 = a := by
  unfold pAnd
  have e : (BitVec.ofInt IntKind.u64.bits (a : Int) &&& BitVec.ofInt IntKind.u64.bits 4294967295).toNat = a := by
    show (BitVec.ofInt 64 (a : Int) &&& BitVec.ofInt 64 4294967295).toNat = a
    rw [BitVec.toNat_and]
    have e1 : (BitVec.ofInt 64 (a : Int)).toNat = a := by
      rw [BitVec.ofInt_natCast, BitVec.toNat_ofNat]; omega
    have e2 : (BitVec.ofInt 64 4294967295).toNat = 2 ^ 32 - 1 := rfl
    rw [e1, e2, Nat.and_two_pow_sub_one_eq_mod]
    omega
  rw [e, u64_w]; omega
theorem shr32 (a : Nat) (h : a < 4294967296) : pShr .u64 (a : Int) 32 = 0 := by
  unfold pShr
  have e : ((2 : Int) ^ (min (32 : Int).toNat IntKind.u64.bits)) = 4294967296 := rfl
  rw [e, Int.fdiv_eq_ediv_of_nonneg _ (by omega)]
  omega
theorem mul_small (N : Nat) (n : Nat) (h : n < 4294967296) : math_bits_Mul N 1 (n : Int) = some (0, (n : Int)) := by
  unfold math_bits_Mul math_bits_Mul64
  have s1 : pShr .u64 1 32 = 0 := rfl
  have a1 : pAnd .u64 1 4294967295 = 1 := rfl
  have s0 : pShr .u64 0 32 = 0 := rfl
  have a0 : pAnd .u64 0 4294967295 = 0 := rfl
  have m00 : pMul .u64 0 0 = 0 := rfl
  have m01 : pMul .u64 1 0 = 0 := rfl
  have m0n : pMul .u64 0 (n : Int) = 0 := by unfold pMul; rw [u64_w]; omega
  have m1n : pMul .u64 1 (n : Int) = n := by unfold pMul; rw [u64_w]; omega
  have p00 : pAdd .u64 0 0 = 0 := rfl
  simp only [show pLt 32 0 = false from rfl, ifB_f, s1, a1, shr32 n h, mask32 n h, m00, m01, m0n, m1n, p00, s0, a0, bindO_s]
theorem rep_loop {N : Nat} {R : Type} (v : Int) (L : Nat) (hL : L ≤ 68719476736) (k : List Int × Unit → Option R) : ∀ (m i n : Nat) (rest : List Int), L - i = m → 1 ≤ i → i ≤ L → rest.length = L - i → m < n →
    loopP (slices_Repeat_Sint64_int64.l8 N) n ((i : Int), List.replicate i v ++ rest, ()) k = k (List.replicate L v, ()) := by
  intro m
  induction m using Nat.strongRecOn with
  | ind m ih =>
    intro i n rest hm h1 hi hr hn
    obtain ⟨n, rfl⟩ := succ_of hn
    rw [loopP_s]; unfold slices_Repeat_Sint64_int64.l8; simp only [pLen_d]
    have hlen : (List.replicate i v ++ rest).length = L := by simp [hr]; omega
    rw [hlen]
    by_cases h0 : i = L
    · rw [pLt_f (by omega), ifB_f]
      have : rest = [] := List.eq_nil_of_length_eq_zero (by omega)
      rw [this, List.append_nil, h0]
    · rw [pLt_t (by omega), ifB_t, pLe_t (by omega), ifB_t, pLe_t (by omega), ifB_t, pLe_t (by omega), ifB_t, pLe_t (by omega), ifB_t, ifB_t, ifB_t]
      have es : sub (List.replicate i v ++ rest) 0 (i : Int) = List.replicate i v := by
        unfold sub
        simp
      rw [es, List.length_replicate]
      obtain ⟨c, hc, hc1⟩ : ∃ c : Nat, pMin (pDif (L : Int) i) (i : Int) = (c : Int) ∧ 1 ≤ c ∧ c ≤ i ∧ i + c ≤ L := by
        unfold pMin pDif
        by_cases q : (i : Int) < (L : Int) - i
        · rw [if_pos q]; exact ⟨i, rfl, h1, Nat.le_refl _, by omega⟩
        · rw [if_neg q]; exact ⟨L - i, by omega, by omega, by omega, by omega⟩
      rw [hc, pAdd_i (by omega) (by omega)]
      have ec : pCopy (List.replicate i v ++ rest) (i : Int) (c : Int) (List.replicate i v) = List.replicate (i + c) v ++ rest.drop c := by
        unfold pCopy
        simp only [Int.toNat_natCast]
        rw [List.take_append_of_le_length (by simp), List.take_of_length_le (by simp), List.take_replicate, Nat.min_eq_left hc1.2.1, List.replicate_append_replicate, List.drop_append, List.length_replicate]
        rw [List.drop_eq_nil_of_le (by simp), List.nil_append]
        congr 2; omega
      rw [ec]
      exact ih (L - (i + c)) (by omega) (i + c) n _ rfl (by omega) (by omega) (by simp; omega) (by omega)
theorem repeat_eq (N : Nat) (v : Int) (n : Nat) (h1 : 1 ≤ n) (h2 : n < 4294967296) (hN : n < N) : slices_Repeat_Sint64_int64 N [v] (n : Int) = some (List.replicate n v) := by
  unfold slices_Repeat_Sint64_int64
  have e1 : pConv .u64 (pLen [v]) = 1 := rfl
  have e2 : pConv .u64 (n : Int) = n := IntWalk.u64_in _ ⟨by omega, by omega⟩
  have e3 : pConv .i64 (n : Int) = n := wrap_i64 (by omega) (by omega)
  rw [pLt_f (by omega), ifB_f, e1, e2, mul_small N n h2, bindO_s]
  simp only []
  rw [show pGt 0 0 = false from rfl, ifB_f, bindO_s, pGt_f (by omega), ifB_f, e3, pEq_t rfl, ifB_t, pLe_t (by omega), ifB_t, pLe_t (by omega), ifB_t]
  have e4 : pLen (pRepl (n : Int) (0 : Int)) = n := by rw [pLen_d, repl_len]
  rw [e4]
  by_cases hh : n = 1
  · subst hh
    have e6 : pMin (pDif ((1 : Nat) : Int) 0) (pLen [v]) = ((1 : Nat) : Int) := rfl
    rw [e6]
    have e7 : pCopy (pRepl ((1 : Nat) : Int) 0) 0 ((1 : Nat) : Int) [v] = List.replicate 1 v ++ [] := rfl
    rw [e7]
    exact rep_loop (N := N) v 1 (by omega) _ _ 1 N [] rfl (by omega) (by omega) rfl (by omega)
  · have e5 : pMin (pDif (n : Int) 0) (pLen [v]) = ((1 : Nat) : Int) := by
      unfold pMin pDif
      rw [pLen_d, if_pos (by simp; omega)]
      rfl
    rw [e5]
    have e7 : pCopy (pRepl (n : Int) 0) 0 ((1 : Nat) : Int) [v] = List.replicate 1 v ++ List.replicate (n - 1) 0 := by
      unfold pCopy pRepl
      simp
    rw [e7]
    exact rep_loop (N := N) v n (by omega) _ _ 1 N _ rfl (by omega) (by omega) (by simp) (by omega)
end Go.AE.F
namespace Go.AE.F
open Go.AE
def pushG (d : Int) : List Int → List Int × List Int → Option (List Int × List Int)
  | [], s => some s
  | k :: ks, s =>
    if s.1[k.toNat]? = some (-1) then pushG d ks (s.1.set k.toNat d, s.2 ++ [k])
    else if s.1[k.toNat]? = some d then pushG d ks s
    else none
structure DInv (n : Nat) (s : List Int × List Int) : Prop where
  len : s.1.length = n + 1
  rng : ∀ v ∈ s.1, -1 ≤ v ∧ v ≤ 24
  pla : ∀ k ∈ s.2, 0 ≤ k ∧ k ≤ (n : Int) ∧ ∃ v, s.1[k.toNat]? = some v ∧ 0 ≤ v
def meas (s : List Int × List Int) : Nat := s.1.count (-1) + s.2.length
theorem pushG_inv {n : Nat} {d : Int} (hd : 0 ≤ d ∧ d ≤ 24) : ∀ (ks : List Int) (s t : List Int × List Int), (∀ k ∈ ks, 0 ≤ k ∧ k ≤ (n : Int)) → DInv n s → pushG d ks s = some t →
    DInv n t ∧ meas t = meas s ∧ t.2.length ≤ s.2.length + ks.length ∧ ∀ v, s.1[n]? = some v → 0 ≤ v → t.1[n]? = some v
  | [], s, t, _, hs, h => by
    have := Option.some.inj h
    subst this
    exact ⟨hs, rfl, by simp, fun v hv _ => hv⟩
  | k :: ks, s, t, hk, hs, h => by
    unfold pushG at h
    have hk0 := hk k (by simp)
    have hks : ∀ k ∈ ks, 0 ≤ k ∧ k ≤ (n : Int) := fun k h => hk k (by simp [h])
    split at h
    · rename_i h1
      have hlt : k.toNat < s.1.length := by have := hs.len; omega
      have hg : s.1[k.toNat] = -1 := by
        rw [List.getElem?_eq_getElem hlt] at h1
        exact Option.some.inj h1
      have hs2 : DInv n (s.1.set k.toNat d, s.2 ++ [k]) := by
        refine ⟨by simp [hs.len], ?_, ?_⟩
        · intro v hv
          rcases List.mem_or_eq_of_mem_set hv with h | h
          · exact hs.rng v h
          · subst h; omega
        · intro j hj
          simp only [List.mem_append, List.mem_singleton] at hj
          rcases hj with hj | hj
          · obtain ⟨a, b, v, hv, hv0⟩ := hs.pla j hj
            refine ⟨a, b, v, ?_, hv0⟩
            have hne : k.toNat ≠ j.toNat := by
              intro he
              rw [← he, List.getElem?_eq_getElem hlt, hg] at hv
              have := Option.some.inj hv
              omega
            show (s.1.set k.toNat d)[j.toNat]? = some v
            rw [List.getElem?_set_ne hne]
            exact hv
          · subst hj
            refine ⟨hk0.1, hk0.2, d, ?_, hd.1⟩
            show (s.1.set j.toNat d)[j.toNat]? = some d
            rw [List.getElem?_set_self hlt]
      obtain ⟨i1, i2, i3, i4⟩ := pushG_inv hd ks _ t hks hs2 h
      refine ⟨i1, ?_, ?_, ?_⟩
      · rw [i2]
        unfold meas
        simp only [List.length_append, List.length_singleton]
        have hc : (s.1.set k.toNat d).count (-1) = s.1.count (-1) - 1 := by
          rw [List.count_set hlt, hg]
          have : (d == -1) = false := by simp; omega
          simp [this]
        have hp : 0 < s.1.count (-1) := List.count_pos_iff.2 (by rw [← hg]; exact List.getElem_mem hlt)
        omega
      · simp only [List.length_append, List.length_singleton] at i3
        simp only [List.length_cons]
        omega
      · intro v hv hv0
        refine i4 v ?_ hv0
        have hne : k.toNat ≠ n := by
          intro he
          rw [← he, List.getElem?_eq_getElem hlt, hg] at hv
          have := Option.some.inj hv
          omega
        show (s.1.set k.toNat d)[n]? = some v
        rw [List.getElem?_set_ne hne]
        exact hv
    · split at h
      · obtain ⟨i1, i2, i3, i4⟩ := pushG_inv hd ks s t hks hs h
        exact ⟨i1, i2, by simp only [List.length_cons]; omega, i4⟩
      · exact absurd h (by simp)
theorem pop_inv {n : Nat} {o td : List Int} {k : Int} (h : DInv n (o, td ++ [k])) : DInv n (o, td) ∧ meas (o, td ++ [k]) = meas (o, td) + 1 :=
  ⟨⟨h.len, h.rng, fun j hj => h.pla j (List.mem_append_left _ hj)⟩, by unfold meas; simp; omega⟩
end Go.AE.F
