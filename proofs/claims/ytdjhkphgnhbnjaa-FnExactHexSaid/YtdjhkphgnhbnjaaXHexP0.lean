/- Hex: both ways of writing bytes in hexadecimal come to one text. -/
import Derived.Test.YtdjhkphgnhbnjaaU
import Derived.Test.YtdjhkphgnhbnjaaXHexF
namespace Go.AE.F
open Go.AE

/-- a digit -/
def hxd (m : Int) : Int := if m < 10 then 48 + m else 87 + m
def hx (b : UInt8) : List Int := [hxd (b.toNat / 16), hxd (b.toNat % 16)]
def hxs (l : List UInt8) : List Int := l.flatMap hx

theorem hx_all : ∀ n : Fin 256, bidx (ByteArray.mk #[48, 49, 50, 51, 52, 53, 54, 55, 56, 57, 97, 98, 99, 100, 101, 102]) (pQuo .u8 (n.val : Int) 16) = some (hxd ((n.val : Int) / 16)) ∧
    bidx (ByteArray.mk #[48, 49, 50, 51, 52, 53, 54, 55, 56, 57, 97, 98, 99, 100, 101, 102]) (pRem (n.val : Int) 16) = some (hxd ((n.val : Int) % 16)) ∧
    bidx (ByteArray.mk #[48, 49, 50, 51, 52, 53, 54, 55, 56, 57, 97, 98, 99, 100, 101, 102]) (pShr .u8 (n.val : Int) 4) = some (hxd ((n.val : Int) / 16)) ∧
    bidx (ByteArray.mk #[48, 49, 50, 51, 52, 53, 54, 55, 56, 57, 97, 98, 99, 100, 101, 102]) (pAnd .u8 (n.val : Int) 15) = some (hxd ((n.val : Int) % 16)) := by decide +kernel

theorem hx_of (b : UInt8) : bidx (ByteArray.mk #[48, 49, 50, 51, 52, 53, 54, 55, 56, 57, 97, 98, 99, 100, 101, 102]) (pQuo .u8 (b.toNat : Int) 16) = some (hxd ((b.toNat : Int) / 16)) ∧
    bidx (ByteArray.mk #[48, 49, 50, 51, 52, 53, 54, 55, 56, 57, 97, 98, 99, 100, 101, 102]) (pRem (b.toNat : Int) 16) = some (hxd ((b.toNat : Int) % 16)) ∧
    bidx (ByteArray.mk #[48, 49, 50, 51, 52, 53, 54, 55, 56, 57, 97, 98, 99, 100, 101, 102]) (pShr .u8 (b.toNat : Int) 4) = some (hxd ((b.toNat : Int) / 16)) ∧
    bidx (ByteArray.mk #[48, 49, 50, 51, 52, 53, 54, 55, 56, 57, 97, 98, 99, 100, 101, 102]) (pAnd .u8 (b.toNat : Int) 15) = some (hxd ((b.toNat : Int) % 16)) := hx_all ⟨b.toNat, b.toNat_lt⟩

theorem hxs_len (l : List UInt8) : (hxs l).length = 2 * l.length := by
  induction l with
  | nil => rfl
  | cons a l ih =>
    have : hxs (a :: l) = hx a ++ hxs l := rfl
    rw [this, List.length_append, ih]; simp [hx]; omega

theorem drop_cons {l : List UInt8} {i : Nat} (h : i < l.length) : l.drop i = l[i] :: l.drop (i + 1) := by
  rw [List.drop_eq_getElem_cons h]

theorem l18Hex_loop (s : ByteArray) (hs : s.data.toList.length ≤ 20000) {R : Type} {N : Nat} (k : List Int × Unit → Option R) : ∀ (m i n : Nat) (out : List Int), s.data.toList.length - i = m → i ≤ s.data.toList.length → m < n → out.length = 2 * i →
    loopP (spec_l18Hex.l3 N) n (s, (i : Int), out, ()) k = k (out ++ hxs (s.data.toList.drop i), ()) := by
  intro m
  induction m with
  | zero =>
    intro i n out hm hi hn ho
    obtain ⟨n, rfl⟩ : ∃ q, n = q + 1 := ⟨n - 1, by omega⟩
    simp only [loopP_s, spec_l18Hex.l3, pSize_l]
    rw [pLt_f (by omega), ifB_f, List.drop_eq_nil_of_le (by omega)]
    simp [hxs]
  | succ m ih =>
    intro i n out hm hi hn ho
    obtain ⟨n, rfl⟩ : ∃ q, n = q + 1 := ⟨n - 1, by omega⟩
    have hlt : i < s.data.toList.length := by omega
    obtain ⟨d1, d2, _, _⟩ := hx_of (s.data.toList[i])
    simp only [loopP_s, spec_l18Hex.l3, pSize_l]
    rw [pLt_t (by omega), ifB_t, bidx_lt hlt, bindO_s, pEq_f (by omega), ifB_f, d1, bindO_s, bindO_s, ifB_f, d2, bindO_s, pFit_t (by simp; omega), ifB_t, pAdd_i (by omega) (by omega)]
    have := ih (i + 1) n (out ++ [hxd ((s.data.toList[i].toNat : Int) / 16), hxd ((s.data.toList[i].toNat : Int) % 16)]) (by omega) (by omega) (by omega) (by simp; omega)
    rw [drop_cons hlt]
    refine Eq.trans this ?_
    simp [hxs, hx]

theorem implHex_loop (s : ByteArray) (hs : s.data.toList.length ≤ 20000) {R : Type} {N : Nat} (k : List Int × Unit → Option R) : ∀ (m i n : Nat) (out : List Int), s.data.toList.length - i = m → i ≤ s.data.toList.length → m < n → out.length = 2 * i →
    loopP (impl_Hex.l5 N) n (s, (s.data.toList.length : Int), (i : Int), out, ()) k = k (out ++ hxs (s.data.toList.drop i), ()) := by
  intro m
  induction m with
  | zero =>
    intro i n out hm hi hn ho
    obtain ⟨n, rfl⟩ : ∃ q, n = q + 1 := ⟨n - 1, by omega⟩
    simp only [loopP_s, impl_Hex.l5]
    rw [pLt_f (by omega), ifB_f, List.drop_eq_nil_of_le (by omega)]
    simp [hxs]
  | succ m ih =>
    intro i n out hm hi hn ho
    obtain ⟨n, rfl⟩ : ∃ q, n = q + 1 := ⟨n - 1, by omega⟩
    have hlt : i < s.data.toList.length := by omega
    obtain ⟨_, _, d1, d2⟩ := hx_of (s.data.toList[i])
    simp only [loopP_s, impl_Hex.l5]
    rw [pLt_t (by omega), ifB_t, bidx_lt hlt, bindO_s, pLt_f (by omega), ifB_f, d1, bindO_s, bindO_s, d2, bindO_s, pFit_t (by simp; omega), ifB_t, pAdd_i (by omega) (by omega)]
    have := ih (i + 1) n (out ++ [hxd ((s.data.toList[i].toNat : Int) / 16), hxd ((s.data.toList[i].toNat : Int) % 16)]) (by omega) (by omega) (by omega) (by simp; omega)
    rw [drop_cons hlt]
    refine Eq.trans this ?_
    simp [hxs, hx]

/-- what Hex answers -/
def hexG (s : ByteArray) : ByteArray := if s.data.toList.length > 20000 then ⟨#[]⟩ else bytesOf (hxs s.data.toList)

theorem spec_Hex_eq (N : Nat) (s : ByteArray) (hN : 20001 < N) : spec_Hex N s = some (hexG s) := by
  unfold spec_Hex hexG
  rw [pSize_l]
  by_cases h : s.data.toList.length > 20000
  · rw [pGt_t (by omega), ifB_t, if_pos h]
  · rw [pGt_f (by omega), ifB_f, if_neg h]
    unfold spec_l18Hex
    have := l18Hex_loop s (by omega) (N := N) (fun d => let x67 := d.1; some (bytesOf x67)) _ 0 N [] rfl (by omega) (by omega) rfl
    simp only at this
    rw [show ((0 : Int)) = ((0 : Nat) : Int) from rfl, this]
    rfl

theorem isLong_one (N : Nat) (s : ByteArray) (hN : 2 < N) : impl_isLong N [s] = some (decide ((s.data.toList.length : Int) > 20000)) := by
  unfold impl_isLong slices_ContainsFunc_Sstring_string__impl_isLong_c1 slices_IndexFunc_Sstring_string__impl_isLong_c1
  obtain ⟨n, rfl⟩ : ∃ q, N = q + 2 := ⟨N - 2, by omega⟩
  simp only [loopP_s, slices_IndexFunc_Sstring_string__impl_isLong_c1.l2, impl_isLong_c1, pLen, List.length_singleton]
  have e0 : ∀ x : ByteArray, idx [x] 0 = some x := fun x => rfl
  rw [pLt_t (by omega), ifB_t, e0, bindO_s, bindO_s, pSize_l]
  by_cases h : (s.data.toList.length : Int) > 20000
  · rw [pGt_t h, ifB_t, decide_eq_true h]
    rfl
  · rw [pGt_f (by omega), ifB_f, decide_eq_false h, pAdd_i (by omega) (by omega), pLt_f (by omega), ifB_f]
    rfl

theorem impl_Hex_eq (N : Nat) (s : ByteArray) (hN : 20001 < N) : impl_Hex N s = some (hexG s) := by
  unfold impl_Hex hexG
  rw [isLong_one N s (by omega), bindO_s, pSize_l]
  by_cases h : s.data.toList.length > 20000
  · rw [decide_eq_true (by omega), ifB_t, if_pos h]
  · rw [decide_eq_false (by omega), ifB_f, if_neg h]
    have := implHex_loop s (by omega) (N := N) (fun d => let x67 := d.1; some (bytesOf x67)) _ 0 N [] rfl (by omega) (by omega) rfl
    simp only at this
    rw [show ((0 : Int)) = ((0 : Nat) : Int) from rfl, this]
    rfl

theorem law_FnExactHex (s : ByteArray) : laws_FnExactHex 20002 s = some true := by
  unfold laws_FnExactHex
  rw [pSize_l]
  by_cases h : (s.data.toList.length : Int) > 1048576
  · rw [pGt_t h]; rfl
  · rw [pGt_f (by omega), ifB_f, spec_Hex_eq _ _ (by omega), impl_Hex_eq _ _ (by omega), bindO_s, bindO_s, pSEq_self]
    rfl

theorem pure_FnExactHex (s : ByteArray) (_ : s.size ≤ 9223372036854775807) : ∃ N, laws_FnExactHex N s = some true := ⟨_, law_FnExactHex s⟩

end Go.AE.F
