/- Buffers: when they are right; copies, comparisons and marks of the laws. -/
import Derived.Test.YtnojkkgeefhpaaaPCc
import Derived.Test.YtnojkkgeefhpaaaF4
namespace Go.AE.F
open Go.AE

abbrev BufT := List Int × Int × Int × Unit

/-- a right buffer -/
def bufG (b : BufT) : Bool := ptsG b.1 && decide (0 ≤ b.2.1) && decide (b.2.1 ≤ b.1.length) && decide (0 ≤ b.2.2.1) && decide (b.2.2.1 ≤ b.1.length)

theorem bufG_iff {b : BufT} : bufG b = true ↔ ptsG b.1 = true ∧ 0 ≤ b.2.1 ∧ b.2.1 ≤ b.1.length ∧ 0 ≤ b.2.2.1 ∧ b.2.2.1 ≤ b.1.length := by
  unfold bufG
  simp only [Bool.and_eq_true, decide_eq_true_eq, and_assoc]

theorem ptsG_len {l : List Int} (h : ptsG l = true) : l.length ≤ 300 := by
  unfold ptsG at h
  simp only [Bool.and_eq_true, decide_eq_true_eq] at h
  exact h.1

theorem spec_BufRight_eq (N : Nat) (b : BufT) (hN : 301 < N) : spec_BufRight N b = some (bufG b) := by
  unfold spec_BufRight bufG
  rw [spec_PointsRight_eq N b.1 hN]
  simp only [bindO_s, ifB_and, pGe_d, pLe_d, pLen_d, ge_iff_le]

theorem impl_size_eq (N : Nat) (l : List Int) (h : l.length ≤ 9223372036854775807) : impl_size_Sint64 N l = some (l.length : Int) := by
  unfold impl_size_Sint64
  rw [pLen_d]
  first | done | rfl | (simp only [pConv]; rw [wrap_i64 (by omega) (by omega)])

theorem impl_BufRight_eq (N : Nat) (b : BufT) (hl : b.1.length < N) (hb : b.1.length ≤ 9223372036854775806) : impl_BufRight N b = some (bufG b) := by
  unfold impl_BufRight impl_Buf_isPlace bufG
  rw [impl_PointsRight_eq N b.1 hl hb]
  simp only [impl_size_eq N b.1 (by omega), impl_within_eq, bindO_s, ifB_and, Bool.and_assoc]

theorem szBuf_eq (N : Nat) (b : BufT) (a : Int) (h0 : 0 ≤ a) (ha : a ≤ 9223372036854775807) (hl : b.1.length ≤ 9223372036854775807) :
    laws_szBuf N b a = some (if a - b.1.length < 0 then -1 else a - b.1.length) := by
  unfold laws_szBuf
  rw [szInt64S_eq N b.1 a h0 ha hl, bindO_s]
  by_cases h : a - (b.1.length : Int) < 0
  · rw [if_pos h, pLt_t (by omega), ifB_t]
  · rw [if_neg h, pLt_f (by omega), ifB_f]

theorem toBuf_eq (N : Nat) (b : BufT) (hl : b.1.length ≤ 68719476736) (hN : b.1.length < N) : laws_toBuf N b = some b := by
  unfold laws_toBuf
  rw [toInt64S_eq N b.1 hl hN]
  rfl

theorem eqInt64S_self (N : Nat) (l : List Int) (hl : l.length ≤ 9223372036854775806) (hN : l.length < N) : laws_eqInt64S N l l = some true := by
  rw [eqInt64S_eq N l l hl hN, decide_eq_true rfl]

theorem eqBuf_self (N : Nat) (b : BufT) (hl : b.1.length ≤ 9223372036854775806) (hN : b.1.length < N) : laws_eqBuf N b b = some true := by
  unfold laws_eqBuf
  rw [eqInt64S_eq N b.1 b.1 hl hN, bindO_s, pNot_same, ifB_f, pNe_f rfl, ifB_f, pNe_f rfl, ifB_f]

theorem markBuf_eq (N : Nat) (b : BufT) (k : Int) (hk : 0 ≤ k) (hL : k + b.1.length ≤ 4611686018427387904) (hN : b.1.length < N) : laws_markBuf N b k = some (k + b.1.length, (cnt k b.1.length, b.2)) := by
  unfold laws_markBuf
  rw [markInt64S_eq N b.1 k hk hL hN]
  rfl

end Go.AE.F
