/- Plain laws of those functions. -/
import Derived.Test.YteoociojgeokmaaDoorXSendP4
namespace Go.AE.F
open Go.AE
theorem dec_c0 (M : Nat) : impl_decimal M 0 = some ⟨#[48]⟩ ∧ spec_l01Dec (M + 4) 0 = some ⟨#[48]⟩ := ⟨by kernel_rfl, by kernel_rfl⟩
theorem dec_c1 (M : Nat) : impl_decimal M 1 = some ⟨#[49]⟩ ∧ spec_l01Dec (M + 4) 1 = some ⟨#[49]⟩ := ⟨by kernel_rfl, by kernel_rfl⟩
theorem dec_c2 (M : Nat) : impl_decimal M 2 = some ⟨#[50]⟩ ∧ spec_l01Dec (M + 4) 2 = some ⟨#[50]⟩ := ⟨by kernel_rfl, by kernel_rfl⟩
theorem dec_c3 (M : Nat) : impl_decimal M 3 = some ⟨#[51]⟩ ∧ spec_l01Dec (M + 4) 3 = some ⟨#[51]⟩ := ⟨by kernel_rfl, by kernel_rfl⟩
theorem dec_c4 (M : Nat) : impl_decimal M 4 = some ⟨#[52]⟩ ∧ spec_l01Dec (M + 4) 4 = some ⟨#[52]⟩ := ⟨by kernel_rfl, by kernel_rfl⟩
theorem dec_c5 (M : Nat) : impl_decimal M 5 = some ⟨#[53]⟩ ∧ spec_l01Dec (M + 4) 5 = some ⟨#[53]⟩ := ⟨by kernel_rfl, by kernel_rfl⟩
theorem dec_c6 (M : Nat) : impl_decimal M 6 = some ⟨#[54]⟩ ∧ spec_l01Dec (M + 4) 6 = some ⟨#[54]⟩ := ⟨by kernel_rfl, by kernel_rfl⟩
theorem dec_c7 (M : Nat) : impl_decimal M 7 = some ⟨#[55]⟩ ∧ spec_l01Dec (M + 4) 7 = some ⟨#[55]⟩ := ⟨by kernel_rfl, by kernel_rfl⟩
theorem dec_c8 (M : Nat) : impl_decimal M 8 = some ⟨#[56]⟩ ∧ spec_l01Dec (M + 4) 8 = some ⟨#[56]⟩ := ⟨by kernel_rfl, by kernel_rfl⟩
theorem dec_c9 (M : Nat) : impl_decimal M 9 = some ⟨#[57]⟩ ∧ spec_l01Dec (M + 4) 9 = some ⟨#[57]⟩ := ⟨by kernel_rfl, by kernel_rfl⟩
theorem dec_c10 (M : Nat) : impl_decimal M 10 = some ⟨#[49, 48]⟩ ∧ spec_l01Dec (M + 4) 10 = some ⟨#[49, 48]⟩ := ⟨by kernel_rfl, by kernel_rfl⟩
theorem dec_c11 (M : Nat) : impl_decimal M 11 = some ⟨#[49, 49]⟩ ∧ spec_l01Dec (M + 4) 11 = some ⟨#[49, 49]⟩ := ⟨by kernel_rfl, by kernel_rfl⟩
theorem dec_c12 (M : Nat) : impl_decimal M 12 = some ⟨#[49, 50]⟩ ∧ spec_l01Dec (M + 4) 12 = some ⟨#[49, 50]⟩ := ⟨by kernel_rfl, by kernel_rfl⟩
theorem dec_c13 (M : Nat) : impl_decimal M 13 = some ⟨#[49, 51]⟩ ∧ spec_l01Dec (M + 4) 13 = some ⟨#[49, 51]⟩ := ⟨by kernel_rfl, by kernel_rfl⟩
theorem dec_c14 (M : Nat) : impl_decimal M 14 = some ⟨#[49, 52]⟩ ∧ spec_l01Dec (M + 4) 14 = some ⟨#[49, 52]⟩ := ⟨by kernel_rfl, by kernel_rfl⟩
theorem dec_c15 (M : Nat) : impl_decimal M 15 = some ⟨#[49, 53]⟩ ∧ spec_l01Dec (M + 4) 15 = some ⟨#[49, 53]⟩ := ⟨by kernel_rfl, by kernel_rfl⟩
theorem dec_c16 (M : Nat) : impl_decimal M 16 = some ⟨#[49, 54]⟩ ∧ spec_l01Dec (M + 4) 16 = some ⟨#[49, 54]⟩ := ⟨by kernel_rfl, by kernel_rfl⟩
theorem dec_c17 (M : Nat) : impl_decimal M 17 = some ⟨#[49, 55]⟩ ∧ spec_l01Dec (M + 4) 17 = some ⟨#[49, 55]⟩ := ⟨by kernel_rfl, by kernel_rfl⟩
theorem dec_c18 (M : Nat) : impl_decimal M 18 = some ⟨#[49, 56]⟩ ∧ spec_l01Dec (M + 4) 18 = some ⟨#[49, 56]⟩ := ⟨by kernel_rfl, by kernel_rfl⟩
theorem dec_c19 (M : Nat) : impl_decimal M 19 = some ⟨#[49, 57]⟩ ∧ spec_l01Dec (M + 4) 19 = some ⟨#[49, 57]⟩ := ⟨by kernel_rfl, by kernel_rfl⟩
theorem dec_c20 (M : Nat) : impl_decimal M 20 = some ⟨#[50, 48]⟩ ∧ spec_l01Dec (M + 4) 20 = some ⟨#[50, 48]⟩ := ⟨by kernel_rfl, by kernel_rfl⟩
theorem dec_c21 (M : Nat) : impl_decimal M 21 = some ⟨#[50, 49]⟩ ∧ spec_l01Dec (M + 4) 21 = some ⟨#[50, 49]⟩ := ⟨by kernel_rfl, by kernel_rfl⟩
theorem dec_c22 (M : Nat) : impl_decimal M 22 = some ⟨#[50, 50]⟩ ∧ spec_l01Dec (M + 4) 22 = some ⟨#[50, 50]⟩ := ⟨by kernel_rfl, by kernel_rfl⟩
theorem dec_c23 (M : Nat) : impl_decimal M 23 = some ⟨#[50, 51]⟩ ∧ spec_l01Dec (M + 4) 23 = some ⟨#[50, 51]⟩ := ⟨by kernel_rfl, by kernel_rfl⟩
theorem dec_c24 (M : Nat) : impl_decimal M 24 = some ⟨#[50, 52]⟩ ∧ spec_l01Dec (M + 4) 24 = some ⟨#[50, 52]⟩ := ⟨by kernel_rfl, by kernel_rfl⟩
theorem dec_c25 (M : Nat) : impl_decimal M 25 = some ⟨#[50, 53]⟩ ∧ spec_l01Dec (M + 4) 25 = some ⟨#[50, 53]⟩ := ⟨by kernel_rfl, by kernel_rfl⟩
theorem dec_c26 (M : Nat) : impl_decimal M 26 = some ⟨#[50, 54]⟩ ∧ spec_l01Dec (M + 4) 26 = some ⟨#[50, 54]⟩ := ⟨by kernel_rfl, by kernel_rfl⟩
theorem dec_c27 (M : Nat) : impl_decimal M 27 = some ⟨#[50, 55]⟩ ∧ spec_l01Dec (M + 4) 27 = some ⟨#[50, 55]⟩ := ⟨by kernel_rfl, by kernel_rfl⟩
theorem dec_c28 (M : Nat) : impl_decimal M 28 = some ⟨#[50, 56]⟩ ∧ spec_l01Dec (M + 4) 28 = some ⟨#[50, 56]⟩ := ⟨by kernel_rfl, by kernel_rfl⟩
theorem dec_c29 (M : Nat) : impl_decimal M 29 = some ⟨#[50, 57]⟩ ∧ spec_l01Dec (M + 4) 29 = some ⟨#[50, 57]⟩ := ⟨by kernel_rfl, by kernel_rfl⟩
theorem dec_c30 (M : Nat) : impl_decimal M 30 = some ⟨#[51, 48]⟩ ∧ spec_l01Dec (M + 4) 30 = some ⟨#[51, 48]⟩ := ⟨by kernel_rfl, by kernel_rfl⟩
theorem dec_c31 (M : Nat) : impl_decimal M 31 = some ⟨#[51, 49]⟩ ∧ spec_l01Dec (M + 4) 31 = some ⟨#[51, 49]⟩ := ⟨by kernel_rfl, by kernel_rfl⟩
theorem dec_c32 (M : Nat) : impl_decimal M 32 = some ⟨#[51, 50]⟩ ∧ spec_l01Dec (M + 4) 32 = some ⟨#[51, 50]⟩ := ⟨by kernel_rfl, by kernel_rfl⟩
theorem dec_c33 (M : Nat) : impl_decimal M 33 = some ⟨#[51, 51]⟩ ∧ spec_l01Dec (M + 4) 33 = some ⟨#[51, 51]⟩ := ⟨by kernel_rfl, by kernel_rfl⟩
theorem dec_c34 (M : Nat) : impl_decimal M 34 = some ⟨#[51, 52]⟩ ∧ spec_l01Dec (M + 4) 34 = some ⟨#[51, 52]⟩ := ⟨by kernel_rfl, by kernel_rfl⟩
theorem dec_c35 (M : Nat) : impl_decimal M 35 = some ⟨#[51, 53]⟩ ∧ spec_l01Dec (M + 4) 35 = some ⟨#[51, 53]⟩ := ⟨by kernel_rfl, by kernel_rfl⟩
theorem dec_c36 (M : Nat) : impl_decimal M 36 = some ⟨#[51, 54]⟩ ∧ spec_l01Dec (M + 4) 36 = some ⟨#[51, 54]⟩ := ⟨by kernel_rfl, by kernel_rfl⟩
theorem dec_c37 (M : Nat) : impl_decimal M 37 = some ⟨#[51, 55]⟩ ∧ spec_l01Dec (M + 4) 37 = some ⟨#[51, 55]⟩ := ⟨by kernel_rfl, by kernel_rfl⟩
theorem dec_c38 (M : Nat) : impl_decimal M 38 = some ⟨#[51, 56]⟩ ∧ spec_l01Dec (M + 4) 38 = some ⟨#[51, 56]⟩ := ⟨by kernel_rfl, by kernel_rfl⟩
theorem dec_c39 (M : Nat) : impl_decimal M 39 = some ⟨#[51, 57]⟩ ∧ spec_l01Dec (M + 4) 39 = some ⟨#[51, 57]⟩ := ⟨by kernel_rfl, by kernel_rfl⟩
theorem dec_c40 (M : Nat) : impl_decimal M 40 = some ⟨#[52, 48]⟩ ∧ spec_l01Dec (M + 4) 40 = some ⟨#[52, 48]⟩ := ⟨by kernel_rfl, by kernel_rfl⟩
theorem dec_c41 (M : Nat) : impl_decimal M 41 = some ⟨#[52, 49]⟩ ∧ spec_l01Dec (M + 4) 41 = some ⟨#[52, 49]⟩ := ⟨by kernel_rfl, by kernel_rfl⟩
theorem dec_c42 (M : Nat) : impl_decimal M 42 = some ⟨#[52, 50]⟩ ∧ spec_l01Dec (M + 4) 42 = some ⟨#[52, 50]⟩ := ⟨by kernel_rfl, by kernel_rfl⟩
theorem dec_c43 (M : Nat) : impl_decimal M 43 = some ⟨#[52, 51]⟩ ∧ spec_l01Dec (M + 4) 43 = some ⟨#[52, 51]⟩ := ⟨by kernel_rfl, by kernel_rfl⟩
theorem dec_c44 (M : Nat) : impl_decimal M 44 = some ⟨#[52, 52]⟩ ∧ spec_l01Dec (M + 4) 44 = some ⟨#[52, 52]⟩ := ⟨by kernel_rfl, by kernel_rfl⟩
theorem dec_c45 (M : Nat) : impl_decimal M 45 = some ⟨#[52, 53]⟩ ∧ spec_l01Dec (M + 4) 45 = some ⟨#[52, 53]⟩ := ⟨by kernel_rfl, by kernel_rfl⟩
theorem dec_c46 (M : Nat) : impl_decimal M 46 = some ⟨#[52, 54]⟩ ∧ spec_l01Dec (M + 4) 46 = some ⟨#[52, 54]⟩ := ⟨by kernel_rfl, by kernel_rfl⟩
theorem dec_c47 (M : Nat) : impl_decimal M 47 = some ⟨#[52, 55]⟩ ∧ spec_l01Dec (M + 4) 47 = some ⟨#[52, 55]⟩ := ⟨by kernel_rfl, by kernel_rfl⟩
theorem dec_c48 (M : Nat) : impl_decimal M 48 = some ⟨#[52, 56]⟩ ∧ spec_l01Dec (M + 4) 48 = some ⟨#[52, 56]⟩ := ⟨by kernel_rfl, by kernel_rfl⟩
theorem dec_c49 (M : Nat) : impl_decimal M 49 = some ⟨#[52, 57]⟩ ∧ spec_l01Dec (M + 4) 49 = some ⟨#[52, 57]⟩ := ⟨by kernel_rfl, by kernel_rfl⟩
theorem dec_c50 (M : Nat) : impl_decimal M 50 = some ⟨#[53, 48]⟩ ∧ spec_l01Dec (M + 4) 50 = some ⟨#[53, 48]⟩ := ⟨by kernel_rfl, by kernel_rfl⟩
theorem dec_c51 (M : Nat) : impl_decimal M 51 = some ⟨#[53, 49]⟩ ∧ spec_l01Dec (M + 4) 51 = some ⟨#[53, 49]⟩ := ⟨by kernel_rfl, by kernel_rfl⟩
theorem dec_c52 (M : Nat) : impl_decimal M 52 = some ⟨#[53, 50]⟩ ∧ spec_l01Dec (M + 4) 52 = some ⟨#[53, 50]⟩ := ⟨by kernel_rfl, by kernel_rfl⟩
theorem dec_c53 (M : Nat) : impl_decimal M 53 = some ⟨#[53, 51]⟩ ∧ spec_l01Dec (M + 4) 53 = some ⟨#[53, 51]⟩ := ⟨by kernel_rfl, by kernel_rfl⟩
theorem dec_c54 (M : Nat) : impl_decimal M 54 = some ⟨#[53, 52]⟩ ∧ spec_l01Dec (M + 4) 54 = some ⟨#[53, 52]⟩ := ⟨by kernel_rfl, by kernel_rfl⟩
theorem dec_c55 (M : Nat) : impl_decimal M 55 = some ⟨#[53, 53]⟩ ∧ spec_l01Dec (M + 4) 55 = some ⟨#[53, 53]⟩ := ⟨by kernel_rfl, by kernel_rfl⟩
theorem dec_c56 (M : Nat) : impl_decimal M 56 = some ⟨#[53, 54]⟩ ∧ spec_l01Dec (M + 4) 56 = some ⟨#[53, 54]⟩ := ⟨by kernel_rfl, by kernel_rfl⟩
theorem dec_c57 (M : Nat) : impl_decimal M 57 = some ⟨#[53, 55]⟩ ∧ spec_l01Dec (M + 4) 57 = some ⟨#[53, 55]⟩ := ⟨by kernel_rfl, by kernel_rfl⟩
theorem dec_c58 (M : Nat) : impl_decimal M 58 = some ⟨#[53, 56]⟩ ∧ spec_l01Dec (M + 4) 58 = some ⟨#[53, 56]⟩ := ⟨by kernel_rfl, by kernel_rfl⟩
theorem dec_c59 (M : Nat) : impl_decimal M 59 = some ⟨#[53, 57]⟩ ∧ spec_l01Dec (M + 4) 59 = some ⟨#[53, 57]⟩ := ⟨by kernel_rfl, by kernel_rfl⟩
theorem dec_c60 (M : Nat) : impl_decimal M 60 = some ⟨#[54, 48]⟩ ∧ spec_l01Dec (M + 4) 60 = some ⟨#[54, 48]⟩ := ⟨by kernel_rfl, by kernel_rfl⟩
theorem dec_c61 (M : Nat) : impl_decimal M 61 = some ⟨#[54, 49]⟩ ∧ spec_l01Dec (M + 4) 61 = some ⟨#[54, 49]⟩ := ⟨by kernel_rfl, by kernel_rfl⟩
theorem dec_c62 (M : Nat) : impl_decimal M 62 = some ⟨#[54, 50]⟩ ∧ spec_l01Dec (M + 4) 62 = some ⟨#[54, 50]⟩ := ⟨by kernel_rfl, by kernel_rfl⟩
theorem dec_c63 (M : Nat) : impl_decimal M 63 = some ⟨#[54, 51]⟩ ∧ spec_l01Dec (M + 4) 63 = some ⟨#[54, 51]⟩ := ⟨by kernel_rfl, by kernel_rfl⟩
theorem dec_c64 (M : Nat) : impl_decimal M 64 = some ⟨#[54, 52]⟩ ∧ spec_l01Dec (M + 4) 64 = some ⟨#[54, 52]⟩ := ⟨by kernel_rfl, by kernel_rfl⟩
theorem dec_c65 (M : Nat) : impl_decimal M 65 = some ⟨#[54, 53]⟩ ∧ spec_l01Dec (M + 4) 65 = some ⟨#[54, 53]⟩ := ⟨by kernel_rfl, by kernel_rfl⟩
theorem dec_c66 (M : Nat) : impl_decimal M 66 = some ⟨#[54, 54]⟩ ∧ spec_l01Dec (M + 4) 66 = some ⟨#[54, 54]⟩ := ⟨by kernel_rfl, by kernel_rfl⟩
theorem dec_c67 (M : Nat) : impl_decimal M 67 = some ⟨#[54, 55]⟩ ∧ spec_l01Dec (M + 4) 67 = some ⟨#[54, 55]⟩ := ⟨by kernel_rfl, by kernel_rfl⟩
theorem dec_c68 (M : Nat) : impl_decimal M 68 = some ⟨#[54, 56]⟩ ∧ spec_l01Dec (M + 4) 68 = some ⟨#[54, 56]⟩ := ⟨by kernel_rfl, by kernel_rfl⟩
theorem dec_c69 (M : Nat) : impl_decimal M 69 = some ⟨#[54, 57]⟩ ∧ spec_l01Dec (M + 4) 69 = some ⟨#[54, 57]⟩ := ⟨by kernel_rfl, by kernel_rfl⟩
theorem dec_c70 (M : Nat) : impl_decimal M 70 = some ⟨#[55, 48]⟩ ∧ spec_l01Dec (M + 4) 70 = some ⟨#[55, 48]⟩ := ⟨by kernel_rfl, by kernel_rfl⟩
theorem dec_c71 (M : Nat) : impl_decimal M 71 = some ⟨#[55, 49]⟩ ∧ spec_l01Dec (M + 4) 71 = some ⟨#[55, 49]⟩ := ⟨by kernel_rfl, by kernel_rfl⟩
theorem dec_c72 (M : Nat) : impl_decimal M 72 = some ⟨#[55, 50]⟩ ∧ spec_l01Dec (M + 4) 72 = some ⟨#[55, 50]⟩ := ⟨by kernel_rfl, by kernel_rfl⟩
theorem dec_c73 (M : Nat) : impl_decimal M 73 = some ⟨#[55, 51]⟩ ∧ spec_l01Dec (M + 4) 73 = some ⟨#[55, 51]⟩ := ⟨by kernel_rfl, by kernel_rfl⟩
theorem dec_c74 (M : Nat) : impl_decimal M 74 = some ⟨#[55, 52]⟩ ∧ spec_l01Dec (M + 4) 74 = some ⟨#[55, 52]⟩ := ⟨by kernel_rfl, by kernel_rfl⟩
theorem dec_c75 (M : Nat) : impl_decimal M 75 = some ⟨#[55, 53]⟩ ∧ spec_l01Dec (M + 4) 75 = some ⟨#[55, 53]⟩ := ⟨by kernel_rfl, by kernel_rfl⟩
theorem dec_c76 (M : Nat) : impl_decimal M 76 = some ⟨#[55, 54]⟩ ∧ spec_l01Dec (M + 4) 76 = some ⟨#[55, 54]⟩ := ⟨by kernel_rfl, by kernel_rfl⟩
theorem dec_c77 (M : Nat) : impl_decimal M 77 = some ⟨#[55, 55]⟩ ∧ spec_l01Dec (M + 4) 77 = some ⟨#[55, 55]⟩ := ⟨by kernel_rfl, by kernel_rfl⟩
theorem dec_c78 (M : Nat) : impl_decimal M 78 = some ⟨#[55, 56]⟩ ∧ spec_l01Dec (M + 4) 78 = some ⟨#[55, 56]⟩ := ⟨by kernel_rfl, by kernel_rfl⟩
theorem dec_c79 (M : Nat) : impl_decimal M 79 = some ⟨#[55, 57]⟩ ∧ spec_l01Dec (M + 4) 79 = some ⟨#[55, 57]⟩ := ⟨by kernel_rfl, by kernel_rfl⟩
theorem dec_c80 (M : Nat) : impl_decimal M 80 = some ⟨#[56, 48]⟩ ∧ spec_l01Dec (M + 4) 80 = some ⟨#[56, 48]⟩ := ⟨by kernel_rfl, by kernel_rfl⟩
def decG (n : Nat) : ByteArray := if n < 10 then ⟨#[UInt8.ofNat (48 + n)]⟩ else ⟨#[UInt8.ofNat (48 + n / 10), UInt8.ofNat (48 + n % 10)]⟩
theorem dec_both (N n : Nat) (h : n ≤ 80) (hN : 4 ≤ N) : impl_decimal N (n : Int) = some (decG n) ∧ spec_l01Dec N (n : Int) = some (decG n) := by
  obtain ⟨M, rfl⟩ : ∃ M, N = M + 4 := ⟨N - 4, by omega⟩
  match n, h with
  | 0, _ => exact ⟨(dec_c0 (M + 4)).1, (dec_c0 M).2⟩
  | 1, _ => exact ⟨(dec_c1 (M + 4)).1, (dec_c1 M).2⟩
  | 2, _ => exact ⟨(dec_c2 (M + 4)).1, (dec_c2 M).2⟩
  | 3, _ => exact ⟨(dec_c3 (M + 4)).1, (dec_c3 M).2⟩
  | 4, _ => exact ⟨(dec_c4 (M + 4)).1, (dec_c4 M).2⟩
  | 5, _ => exact ⟨(dec_c5 (M + 4)).1, (dec_c5 M).2⟩
  | 6, _ => exact ⟨(dec_c6 (M + 4)).1, (dec_c6 M).2⟩
  | 7, _ => exact ⟨(dec_c7 (M + 4)).1, (dec_c7 M).2⟩
  | 8, _ => exact ⟨(dec_c8 (M + 4)).1, (dec_c8 M).2⟩
  | 9, _ => exact ⟨(dec_c9 (M + 4)).1, (dec_c9 M).2⟩
  | 10, _ => exact ⟨(dec_c10 (M + 4)).1, (dec_c10 M).2⟩
  | 11, _ => exact ⟨(dec_c11 (M + 4)).1, (dec_c11 M).2⟩
  | 12, _ => exact ⟨(dec_c12 (M + 4)).1, (dec_c12 M).2⟩
  | 13, _ => exact ⟨(dec_c13 (M + 4)).1, (dec_c13 M).2⟩
  | 14, _ => exact ⟨(dec_c14 (M + 4)).1, (dec_c14 M).2⟩
  | 15, _ => exact ⟨(dec_c15 (M + 4)).1, (dec_c15 M).2⟩
  | 16, _ => exact ⟨(dec_c16 (M + 4)).1, (dec_c16 M).2⟩
  | 17, _ => exact ⟨(dec_c17 (M + 4)).1, (dec_c17 M).2⟩
  | 18, _ => exact ⟨(dec_c18 (M + 4)).1, (dec_c18 M).2⟩
  | 19, _ => exact ⟨(dec_c19 (M + 4)).1, (dec_c19 M).2⟩
  | 20, _ => exact ⟨(dec_c20 (M + 4)).1, (dec_c20 M).2⟩
  | 21, _ => exact ⟨(dec_c21 (M + 4)).1, (dec_c21 M).2⟩
  | 22, _ => exact ⟨(dec_c22 (M + 4)).1, (dec_c22 M).2⟩
  | 23, _ => exact ⟨(dec_c23 (M + 4)).1, (dec_c23 M).2⟩
  | 24, _ => exact ⟨(dec_c24 (M + 4)).1, (dec_c24 M).2⟩
  | 25, _ => exact ⟨(dec_c25 (M + 4)).1, (dec_c25 M).2⟩
  | 26, _ => exact ⟨(dec_c26 (M + 4)).1, (dec_c26 M).2⟩
  | 27, _ => exact ⟨(dec_c27 (M + 4)).1, (dec_c27 M).2⟩
  | 28, _ => exact ⟨(dec_c28 (M + 4)).1, (dec_c28 M).2⟩
  | 29, _ => exact ⟨(dec_c29 (M + 4)).1, (dec_c29 M).2⟩
  | 30, _ => exact ⟨(dec_c30 (M + 4)).1, (dec_c30 M).2⟩
  | 31, _ => exact ⟨(dec_c31 (M + 4)).1, (dec_c31 M).2⟩
  | 32, _ => exact ⟨(dec_c32 (M + 4)).1, (dec_c32 M).2⟩
  | 33, _ => exact ⟨(dec_c33 (M + 4)).1, (dec_c33 M).2⟩
  | 34, _ => exact ⟨(dec_c34 (M + 4)).1, (dec_c34 M).2⟩
  | 35, _ => exact ⟨(dec_c35 (M + 4)).1, (dec_c35 M).2⟩
  | 36, _ => exact ⟨(dec_c36 (M + 4)).1, (dec_c36 M).2⟩
  | 37, _ => exact ⟨(dec_c37 (M + 4)).1, (dec_c37 M).2⟩
  | 38, _ => exact ⟨(dec_c38 (M + 4)).1, (dec_c38 M).2⟩
  | 39, _ => exact ⟨(dec_c39 (M + 4)).1, (dec_c39 M).2⟩
  | 40, _ => exact ⟨(dec_c40 (M + 4)).1, (dec_c40 M).2⟩
  | 41, _ => exact ⟨(dec_c41 (M + 4)).1, (dec_c41 M).2⟩
  | 42, _ => exact ⟨(dec_c42 (M + 4)).1, (dec_c42 M).2⟩
  | 43, _ => exact ⟨(dec_c43 (M + 4)).1, (dec_c43 M).2⟩
  | 44, _ => exact ⟨(dec_c44 (M + 4)).1, (dec_c44 M).2⟩
  | 45, _ => exact ⟨(dec_c45 (M + 4)).1, (dec_c45 M).2⟩
  | 46, _ => exact ⟨(dec_c46 (M + 4)).1, (dec_c46 M).2⟩
  | 47, _ => exact ⟨(dec_c47 (M + 4)).1, (dec_c47 M).2⟩
  | 48, _ => exact ⟨(dec_c48 (M + 4)).1, (dec_c48 M).2⟩
  | 49, _ => exact ⟨(dec_c49 (M + 4)).1, (dec_c49 M).2⟩
  | 50, _ => exact ⟨(dec_c50 (M + 4)).1, (dec_c50 M).2⟩
  | 51, _ => exact ⟨(dec_c51 (M + 4)).1, (dec_c51 M).2⟩
  | 52, _ => exact ⟨(dec_c52 (M + 4)).1, (dec_c52 M).2⟩
  | 53, _ => exact ⟨(dec_c53 (M + 4)).1, (dec_c53 M).2⟩
  | 54, _ => exact ⟨(dec_c54 (M + 4)).1, (dec_c54 M).2⟩
  | 55, _ => exact ⟨(dec_c55 (M + 4)).1, (dec_c55 M).2⟩
  | 56, _ => exact ⟨(dec_c56 (M + 4)).1, (dec_c56 M).2⟩
  | 57, _ => exact ⟨(dec_c57 (M + 4)).1, (dec_c57 M).2⟩
  | 58, _ => exact ⟨(dec_c58 (M + 4)).1, (dec_c58 M).2⟩
  | 59, _ => exact ⟨(dec_c59 (M + 4)).1, (dec_c59 M).2⟩
  | 60, _ => exact ⟨(dec_c60 (M + 4)).1, (dec_c60 M).2⟩
  | 61, _ => exact ⟨(dec_c61 (M + 4)).1, (dec_c61 M).2⟩
  | 62, _ => exact ⟨(dec_c62 (M + 4)).1, (dec_c62 M).2⟩
  | 63, _ => exact ⟨(dec_c63 (M + 4)).1, (dec_c63 M).2⟩
  | 64, _ => exact ⟨(dec_c64 (M + 4)).1, (dec_c64 M).2⟩
  | 65, _ => exact ⟨(dec_c65 (M + 4)).1, (dec_c65 M).2⟩
  | 66, _ => exact ⟨(dec_c66 (M + 4)).1, (dec_c66 M).2⟩
  | 67, _ => exact ⟨(dec_c67 (M + 4)).1, (dec_c67 M).2⟩
  | 68, _ => exact ⟨(dec_c68 (M + 4)).1, (dec_c68 M).2⟩
  | 69, _ => exact ⟨(dec_c69 (M + 4)).1, (dec_c69 M).2⟩
  | 70, _ => exact ⟨(dec_c70 (M + 4)).1, (dec_c70 M).2⟩
  | 71, _ => exact ⟨(dec_c71 (M + 4)).1, (dec_c71 M).2⟩
  | 72, _ => exact ⟨(dec_c72 (M + 4)).1, (dec_c72 M).2⟩
  | 73, _ => exact ⟨(dec_c73 (M + 4)).1, (dec_c73 M).2⟩
  | 74, _ => exact ⟨(dec_c74 (M + 4)).1, (dec_c74 M).2⟩
  | 75, _ => exact ⟨(dec_c75 (M + 4)).1, (dec_c75 M).2⟩
  | 76, _ => exact ⟨(dec_c76 (M + 4)).1, (dec_c76 M).2⟩
  | 77, _ => exact ⟨(dec_c77 (M + 4)).1, (dec_c77 M).2⟩
  | 78, _ => exact ⟨(dec_c78 (M + 4)).1, (dec_c78 M).2⟩
  | 79, _ => exact ⟨(dec_c79 (M + 4)).1, (dec_c79 M).2⟩
  | 80, _ => exact ⟨(dec_c80 (M + 4)).1, (dec_c80 M).2⟩
  | n + 81, h => omega
theorem decG_size (n : Nat) : (decG n).size ≤ 2 := by
  unfold decG
  split <;> simp [ByteArray.size]
theorem pConv_u8 {x : Int} (h0 : 0 ≤ x) (h1 : x < 256) : pConv .u8 x = x := by
  unfold pConv IntKind.wrap
  have hb : IntKind.u8.bits = 8 := rfl
  have hs : IntKind.u8.signed = false := rfl
  rw [hb, hs]
  have : x % (2 ^ 8 : Int) = x := Int.emod_eq_of_lt h0 (by omega)
  rw [this]
  simp
theorem pConv_u8m {x : Int} : pConv .u8 x = x % 256 := by
  unfold pConv IntKind.wrap
  have hb : IntKind.u8.bits = 8 := rfl
  have hs : IntKind.u8.signed = false := rfl
  rw [hb, hs]
  simp
theorem pConv_u32 {x : Int} (h0 : 0 ≤ x) (h1 : x < 4294967296) : pConv .u32 x = x := by
  unfold pConv IntKind.wrap
  have hb : IntKind.u32.bits = 32 := rfl
  have hs : IntKind.u32.signed = false := rfl
  rw [hb, hs]
  have : x % (2 ^ 32 : Int) = x := Int.emod_eq_of_lt h0 (by omega)
  rw [this]
  simp
theorem pConv_i32 {x : Int} (h0 : 0 ≤ x) (h1 : x < 2147483648) : pConv .i32 x = x := by
  unfold pConv IntKind.wrap
  have hb : IntKind.i32.bits = 32 := rfl
  have hs : IntKind.i32.signed = true := rfl
  rw [hb, hs]
  have : x % (2 ^ 32 : Int) = x := Int.emod_eq_of_lt h0 (by omega)
  rw [this]
  have h2 : ¬ (x ≥ (2 ^ (32 - 1) : Int)) := by omega
  rw [if_neg (by simp only [Bool.true_and, decide_eq_true_eq]; exact h2)]
theorem fin_int {P : Int → Prop} {n : Nat} (h : ∀ i : Fin n, P ((i : Nat) : Int)) {x : Int} (h0 : 0 ≤ x) (h1 : x < n) : P x := by
  have := h ⟨x.toNat, by omega⟩
  simpa [Int.toNat_of_nonneg h0] using this
theorem or128 {x : Int} (h0 : 0 ≤ x) (h1 : x < 64) : pOr .u8 128 x = 128 + x := fin_int (P := fun x => pOr .u8 128 x = 128 + x) (n := 64) (by decide +kernel) h0 h1
theorem or192 {x : Int} (h0 : 0 ≤ x) (h1 : x < 32) : pOr .u8 192 x = 192 + x := fin_int (P := fun x => pOr .u8 192 x = 192 + x) (n := 32) (by decide +kernel) h0 h1
theorem or224 {x : Int} (h0 : 0 ≤ x) (h1 : x < 16) : pOr .u8 224 x = 224 + x := fin_int (P := fun x => pOr .u8 224 x = 224 + x) (n := 16) (by decide +kernel) h0 h1
theorem or240 {x : Int} (h0 : 0 ≤ x) (h1 : x < 8) : pOr .u8 240 x = 240 + x := fin_int (P := fun x => pOr .u8 240 x = 240 + x) (n := 8) (by decide +kernel) h0 h1
end Go.AE.F
