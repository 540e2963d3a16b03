/- Repeating one number. -/
import Derived.Test.YtjofefnjigmnlaaPLaw
import Derived.Test.YtjofefnjigmnlaaF7
namespace Go.AE.F
open Go.AE

theorem u64_w (a : Int) : IntKind.u64.wrap a = a % 18446744073709551616 := rfl
theorem mask32 (a : Nat) (h : a < 4294967296) : pAnd .u64 (a : Int) 4294967295 = a := by
  unfold pAnd
  have e : (BitVec.ofInt IntKind.u64.bits (a : Int) &&& BitVec.ofInt IntKind.u64.bits 4294967295).toNat = a := by
    show (BitVec.ofInt 64 (a : Int) &&& BitVec.ofInt 64 4294967295).toNat = a
    rw [BitVec.toNat_and]
    have e1 : (BitVec.ofInt 64 (a : Int)).toNat = a := by
      rw [BitVec.ofInt_natCast, BitVec.toNat_ofNat]; omega
    have e2 : (BitVec.ofInt 64 4294967295).toNat = 2 ^ 32 - 1 := rfl
    rw [e1, e2, Nat.and_two_pow_sub_one_eq_mod]
    omega
  rw [e, u64_w]; omega

theorem shr32 (a : Nat) (h : a < 4294967296) : pShr .u64 (a : Int) 32 = 0 := by
  unfold pShr
  have e : ((2 : Int) ^ (min (32 : Int).toNat IntKind.u64.bits)) = 4294967296 := rfl
  rw [e, Int.fdiv_eq_ediv_of_nonneg _ (by omega)]
  omega

theorem mul_small (N : Nat) (n : Nat) (h : n < 4294967296) : math_bits_Mul N 1 (n : Int) = some (0, (n : Int)) := by
  unfold math_bits_Mul math_bits_Mul64
  have s1 : pShr .u64 1 32 = 0 := rfl
  have a1 : pAnd .u64 1 4294967295 = 1 := rfl
  have s0 : pShr .u64 0 32 = 0 := rfl
  have a0 : pAnd .u64 0 4294967295 = 0 := rfl
  have m00 : pMul .u64 0 0 = 0 := rfl
  have m01 : pMul .u64 1 0 = 0 := rfl
  have m0n : pMul .u64 0 (n : Int) = 0 := by unfold pMul; rw [u64_w]; omega
  have m1n : pMul .u64 1 (n : Int) = n := by unfold pMul; rw [u64_w]; omega
  have p00 : pAdd .u64 0 0 = 0 := rfl
  simp only [show pLt 32 0 = false from rfl, ifB_f, s1, a1, shr32 n h, mask32 n h, m00, m01, m0n, m1n, p00, s0, a0, bindO_s]

theorem rep_loop {N : Nat} {R : Type} (v : Int) (L : Nat) (hL : L ≤ 68719476736) (k : List Int × Unit → Option R) : ∀ (m i n : Nat) (rest : List Int), L - i = m → 1 ≤ i → i ≤ L → rest.length = L - i → m < n →
    loopP (slices_Repeat_Sint64_int64.l8 N) n ((i : Int), List.replicate i v ++ rest, ()) k = k (List.replicate L v, ()) := by
  intro m
  induction m using Nat.strongRecOn with
  | ind m ih =>
    intro i n rest hm h1 hi hr hn
    obtain ⟨n, rfl⟩ := succ_of hn
    rw [loopP_s]; unfold slices_Repeat_Sint64_int64.l8; simp only [pLen_d]
    have hlen : (List.replicate i v ++ rest).length = L := by simp [hr]; omega
    rw [hlen]
    by_cases h0 : i = L
    · rw [pLt_f (by omega), ifB_f]
      have : rest = [] := List.eq_nil_of_length_eq_zero (by omega)
      rw [this, List.append_nil, h0]
    · rw [pLt_t (by omega), ifB_t, pLe_t (by omega), ifB_t, pLe_t (by omega), ifB_t, pLe_t (by omega), ifB_t, pLe_t (by omega), ifB_t, ifB_t, ifB_t]
      have es : sub (List.replicate i v ++ rest) 0 (i : Int) = List.replicate i v := by
        unfold sub
        simp
      rw [es, List.length_replicate]
      obtain ⟨c, hc, hc1⟩ : ∃ c : Nat, pMin (pDif (L : Int) i) (i : Int) = (c : Int) ∧ 1 ≤ c ∧ c ≤ i ∧ i + c ≤ L := by
        unfold pMin pDif
        by_cases q : (i : Int) < (L : Int) - i
        · rw [if_pos q]; exact ⟨i, rfl, h1, Nat.le_refl _, by omega⟩
        · rw [if_neg q]; exact ⟨L - i, by omega, by omega, by omega, by omega⟩
      rw [hc, pAdd_i (by omega) (by omega)]
      have ec : pCopy (List.replicate i v ++ rest) (i : Int) (c : Int) (List.replicate i v) = List.replicate (i + c) v ++ rest.drop c := by
        unfold pCopy
        simp only [Int.toNat_natCast]
        rw [List.take_append_of_le_length (by simp), List.take_of_length_le (by simp), List.take_replicate, Nat.min_eq_left hc1.2.1, List.replicate_append_replicate, List.drop_append, List.length_replicate]
        rw [List.drop_eq_nil_of_le (by simp), List.nil_append]
        congr 2; omega
      rw [ec]
      exact ih (L - (i + c)) (by omega) (i + c) n _ rfl (by omega) (by omega) (by simp; omega) (by omega)

theorem repeat_eq (N : Nat) (v : Int) (n : Nat) (h1 : 1 ≤ n) (h2 : n < 4294967296) (hN : n < N) : slices_Repeat_Sint64_int64 N [v] (n : Int) = some (List.replicate n v) := by
  unfold slices_Repeat_Sint64_int64
  have e1 : pConv .u64 (pLen [v]) = 1 := rfl
  have e2 : pConv .u64 (n : Int) = n := IntWalk.u64_in _ ⟨by omega, by omega⟩
  have e3 : pConv .i64 (n : Int) = n := wrap_i64 (by omega) (by omega)
  rw [pLt_f (by omega), ifB_f, e1, e2, mul_small N n h2, bindO_s]
  simp only []
  rw [show pGt 0 0 = false from rfl, ifB_f, bindO_s, pGt_f (by omega), ifB_f, e3, pEq_t rfl, ifB_t, pLe_t (by omega), ifB_t, pLe_t (by omega), ifB_t]
  have e4 : pLen (pRepl (n : Int) (0 : Int)) = n := by rw [pLen_d, repl_len]
  rw [e4]
  by_cases hh : n = 1
  · subst hh
    have e6 : pMin (pDif ((1 : Nat) : Int) 0) (pLen [v]) = ((1 : Nat) : Int) := rfl
    rw [e6]
    have e7 : pCopy (pRepl ((1 : Nat) : Int) 0) 0 ((1 : Nat) : Int) [v] = List.replicate 1 v ++ [] := rfl
    rw [e7]
    exact rep_loop (N := N) v 1 (by omega) _ _ 1 N [] rfl (by omega) (by omega) rfl (by omega)
  · have e5 : pMin (pDif (n : Int) 0) (pLen [v]) = ((1 : Nat) : Int) := by
      unfold pMin pDif
      rw [pLen_d, if_pos (by simp; omega)]
      rfl
    rw [e5]
    have e7 : pCopy (pRepl (n : Int) 0) 0 ((1 : Nat) : Int) [v] = List.replicate 1 v ++ List.replicate (n - 1) 0 := by
      unfold pCopy pRepl
      simp
    rw [e7]
    exact rep_loop (N := N) v n (by omega) _ _ 1 N _ rfl (by omega) (by omega) (by simp) (by omega)

end Go.AE.F
