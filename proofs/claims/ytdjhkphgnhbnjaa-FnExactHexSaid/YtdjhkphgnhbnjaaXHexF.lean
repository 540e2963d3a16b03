/- The functions as they are printed out of the program: plain Lean, nothing is claimed here. -/
import Derived.Test.YtdjhkphgnhbnjaaA1
namespace Go.AE.F
open Go.AE
def spec_l18Hex.l3 {R : Type} (N : Nat) (d : ByteArray × Int × List Int × Unit) (kn : ByteArray × Int × List Int × Unit → Option R) (kx : List Int × Unit → Option R) : Option R :=
  let x56 := d.1;
  let x57 := d.2.1;
  let x58 := d.2.2.1;
    ifB (pLt x57 (pSize x56)) (
      bindO (bidx x56 x57) fun y63 =>
      ifB (pEq 16 0) (
        none) (
        bindO (bidx (ByteArray.mk #[48, 49, 50, 51, 52, 53, 54, 55, 56, 57, 97, 98, 99, 100, 101, 102]) (pQuo Go.IntKind.u8 y63 16)) fun y64 =>
        bindO (bidx x56 x57) fun y65 =>
        ifB (pEq 16 0) (
          none) (
          bindO (bidx (ByteArray.mk #[48, 49, 50, 51, 52, 53, 54, 55, 56, 57, 97, 98, 99, 100, 101, 102]) (pRem y65 16)) fun y66 =>
          ifB (pFit x58 [y64, y66]) (
            kn (x56, (pAdd Go.IntKind.i64 x57 1), (pApp x58 [y64, y66]), ())) (
            none)))) (
      kx (x58, ()))
def spec_l18Hex (N : Nat) (a0 : ByteArray) : Option (ByteArray) :=
  loopP (spec_l18Hex.l3 N) N (a0, 0, [], ()) (
    fun d =>
    let x67 := d.1;
    some (bytesOf x67))

def spec_Hex (N : Nat) (a0 : ByteArray) : Option (ByteArray) :=
  ifB (pGt (pSize a0) 20000) (
    some (ByteArray.mk #[])) (
    bindO (spec_l18Hex N a0) fun y1 =>
    some y1)

def impl_isLong_c1 (N : Nat) (a0 : ByteArray) : Option (Bool) :=
  some (pGt (pSize a0) 20000)

def slices_IndexFunc_Sstring_string__impl_isLong_c1.l2 {R : Type} (N : Nat) (d : List ByteArray × Int × Int × Unit) (kn : List ByteArray × Int × Int × Unit → Option R) (kx : (Unit) ⊕ (Int × Unit) → Option R) : Option R :=
  let x36 := d.1;
  let x37 := d.2.1;
  let x38 := d.2.2.1;
    ifB (pLt x38 x37) (
      bindO (idx x36 x38) fun y41 =>
      bindO (impl_isLong_c1 N y41) fun y42 =>
      ifB y42 (
        kx (.inr (x38, ()))) (
        kn (x36, x37, (pAdd Go.IntKind.i64 x38 1), ()))) (
      kx (.inl (())))
def slices_IndexFunc_Sstring_string__impl_isLong_c1 (N : Nat) (a0 : List (ByteArray)) : Option (Int) :=
  loopP (slices_IndexFunc_Sstring_string__impl_isLong_c1.l2 N) N (a0, (pLen a0), 0, ()) (
    onSum (fun d =>
      some (-1)) (
    fun d =>
    let x43 := d.1;
    some x43))

def slices_ContainsFunc_Sstring_string__impl_isLong_c1 (N : Nat) (a0 : List (ByteArray)) : Option (Bool) :=
  bindO (slices_IndexFunc_Sstring_string__impl_isLong_c1 N a0) fun y1 =>
  some (pGe y1 0)

def impl_isLong (N : Nat) (a0 : List (ByteArray)) : Option (Bool) :=
  bindO (slices_ContainsFunc_Sstring_string__impl_isLong_c1 N a0) fun y1 =>
  some y1

def impl_Hex.l5 {R : Type} (N : Nat) (d : ByteArray × Int × Int × List Int × Unit) (kn : ByteArray × Int × Int × List Int × Unit → Option R) (kx : List Int × Unit → Option R) : Option R :=
  let x63 := d.1;
  let x64 := d.2.1;
  let x65 := d.2.2.1;
  let x66 := d.2.2.2.1;
    ifB (pLt x65 x64) (
      bindO (bidx x63 x65) fun y71 =>
      ifB (pLt 4 0) (
        none) (
        bindO (bidx (ByteArray.mk #[48, 49, 50, 51, 52, 53, 54, 55, 56, 57, 97, 98, 99, 100, 101, 102]) (pShr Go.IntKind.u8 y71 4)) fun y72 =>
        bindO (bidx x63 x65) fun y73 =>
        bindO (bidx (ByteArray.mk #[48, 49, 50, 51, 52, 53, 54, 55, 56, 57, 97, 98, 99, 100, 101, 102]) (pAnd Go.IntKind.u8 y73 15)) fun y74 =>
        ifB (pFit x66 [y72, y74]) (
          kn (x63, x64, (pAdd Go.IntKind.i64 x65 1), (pApp x66 [y72, y74]), ())) (
          none))) (
      kx (x66, ()))
def impl_Hex (N : Nat) (a0 : ByteArray) : Option (ByteArray) :=
  bindO (impl_isLong N [a0]) fun y38 =>
  ifB y38 (
    some (ByteArray.mk #[])) (
    loopP (impl_Hex.l5 N) N (a0, (pSize a0), 0, [], ()) (
      fun d =>
      let x75 := d.1;
      some (bytesOf x75)))

def laws_FnExactHex (N : Nat) (a0 : ByteArray) : Option (Bool) :=
  ifB (pGt (pSize a0) 1048576) (
    some true) (
    bindO (spec_Hex N a0) fun y2 =>
    bindO (impl_Hex N a0) fun y3 =>
    ifB (pNot (pSEq y3 y2)) (
      some false) (
      some true))

end Go.AE.F
