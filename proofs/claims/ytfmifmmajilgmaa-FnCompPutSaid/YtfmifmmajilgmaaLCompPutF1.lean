/- Functions as they are printed out of the program: plain Lean, nothing is claimed here. -/
import Derived.Test.YtfmifmmajilgmaaA5
namespace Go.AE.F
open Go.AE
def spec_l01Point (N : Nat) (a0 : Int) : Option (Bool) :=
  bindO (
    ifB (pGe a0 0) (
      some (pLe a0 1114111)) (
      some false)) fun y3 =>
  bindO (
    ifB y3 (
      bindO (
        ifB (pGe a0 55296) (
          some (pLe a0 57343)) (
          some false)) fun y5 =>
      some (pNot y5)) (
      some false)) fun y4 =>
  some y4

def spec_ClassOf (N : Nat) (a0 : Int) : Option (Int) :=
  bindO (spec_l01Point N a0) fun y10 =>
  ifB (pNot y10) (
    some 0) (
    bindO (
      ifB (pEq a0 32) (
        some true) (
        some (pEq a0 9))) fun y11 =>
    bindO (
      ifB y11 (
        some true) (
        some (pEq a0 10))) fun y12 =>
    ifB y12 (
      some 1) (
      bindO (
        ifB (pGe a0 97) (
          some (pLe a0 122)) (
          some false)) fun y13 =>
      bindO (
        ifB y13 (
          some true) (
          bindO (
            ifB (pGe a0 65) (
              some (pLe a0 90)) (
              some false)) fun y15 =>
          some y15)) fun y14 =>
      bindO (
        ifB y14 (
          some true) (
          bindO (
            ifB (pGe a0 48) (
              some (pLe a0 57)) (
              some false)) fun y17 =>
          some y17)) fun y16 =>
      bindO (
        ifB y16 (
          some true) (
          some (pEq a0 95))) fun y18 =>
      bindO (
        ifB y18 (
          some true) (
          some (pGe a0 128))) fun y19 =>
      ifB y19 (
        some 2) (
        some 3)))

def spec_CandsRight.l9 {R : Type} (N : Nat) (d : List (List Int) × Int × Int × Unit) (kn : List (List Int) × Int × Int × Unit → Option R) (kx : (List (List Int) × Int × Unit) ⊕ (Bool × Unit) → Option R) : Option R :=
  let x432 := d.1;
  let x433 := d.2.1;
  let x434 := d.2.2.1;
    bindO (idx x432 x433) fun y435 =>
    ifB (pLt x434 (pLen y435)) (
      bindO (idx x432 x433) fun y439 =>
      bindO (idx y439 x434) fun y440 =>
      bindO (spec_ClassOf N y440) fun y441 =>
      ifB (pNe y441 2) (
        kx (.inr (false, ()))) (
        kn (x432, x433, (pAdd Go.IntKind.i64 x434 1), ()))) (
      kx (.inl (x432, x433, ())))
def spec_CandsRight.l4 {R : Type} (N : Nat) (d : List (List Int) × Int × Unit) (kn : List (List Int) × Int × Unit → Option R) (kx : (Unit) ⊕ (Bool × Unit) → Option R) : Option R :=
  let x371 := d.1;
  let x372 := d.2.1;
    ifB (pLt x372 (pLen x371)) (
      bindO (idx x371 x372) fun y409 =>
      bindO (
        ifB (pLt (pLen y409) 1) (
          some true) (
          bindO (idx x371 x372) fun y411 =>
          some (pGt (pLen y411) 40))) fun y410 =>
      ifB y410 (
        kx (.inr (false, ()))) (
        loopP (spec_CandsRight.l9 N) N (x371, x372, 0, ()) (
          onSum (fun d =>
            let x442 := d.1;
            let x443 := d.2.1;
            kn (x442, (pAdd Go.IntKind.i64 x443 1), ())) (
          fun d =>
          let x444 := d.1;
          kx (.inr (x444, ())))))) (
      kx (.inl (())))
def spec_CandsRight (N : Nat) (a0 : List (List (Int))) : Option (Bool) :=
  ifB (pGt (pLen a0) 40) (
    some false) (
    loopP (spec_CandsRight.l4 N) N (a0, 0, ()) (
      onSum (fun d =>
        some true) (
      fun d =>
      let x445 := d.1;
      some x445)))

def impl_size_Sint64 (N : Nat) (a0 : List (Int)) : Option (Int) :=
  some (pLen a0)

def impl_within (N : Nat) (a0 : Int) (a1 : Int) (a2 : Int) : Option (Bool) :=
  bindO (
    ifB (pLe a1 a0) (
      some (pLe a0 a2)) (
      some false)) fun y1 =>
  some y1

def impl_isPoint (N : Nat) (a0 : Int) : Option (Bool) :=
  bindO (impl_within N a0 0 1114111) fun y3 =>
  bindO (
    ifB y3 (
      bindO (impl_within N a0 55296 57343) fun y5 =>
      some (pNot y5)) (
      some false)) fun y4 =>
  some y4

def impl_ClassOf (N : Nat) (a0 : Int) : Option (Int) :=
  bindO (impl_isPoint N a0) fun y30 =>
  ifB (pNot y30) (
    some 0) (
    bindO (
      ifB (pEq a0 32) (
        some true) (
        some (pEq a0 9))) fun y31 =>
    bindO (
      ifB y31 (
        some true) (
        some (pEq a0 10))) fun y32 =>
    ifB y32 (
      some 1) (
      bindO (impl_within N a0 65 90) fun y33 =>
      bindO (
        ifB y33 (
          some true) (
          bindO (impl_within N a0 97 122) fun y35 =>
          some y35)) fun y34 =>
      bindO (
        ifB y34 (
          some true) (
          bindO (impl_within N a0 48 57) fun y37 =>
          some y37)) fun y36 =>
      bindO (
        ifB y36 (
          some true) (
          some (pEq a0 95))) fun y38 =>
      bindO (
        ifB y38 (
          some true) (
          some (pGe a0 128))) fun y39 =>
      ifB y39 (
        some 2) (
        some 3)))

def impl_CandsRight_c1_c1 (N : Nat) (a0 : Int) : Option (Bool) :=
  bindO (impl_ClassOf N a0) fun y1 =>
  some (pNe y1 2)

def slices_IndexFunc_Sint64_int64__impl_CandsRight_c1_c1.l2 {R : Type} (N : Nat) (d : List Int × Int × Int × Unit) (kn : List Int × Int × Int × Unit → Option R) (kx : (Unit) ⊕ (Int × Unit) → Option R) : Option R :=
  let x36 := d.1;
  let x37 := d.2.1;
  let x38 := d.2.2.1;
    ifB (pLt x38 x37) (
      bindO (idx x36 x38) fun y41 =>
      bindO (impl_CandsRight_c1_c1 N y41) fun y42 =>
      ifB y42 (
        kx (.inr (x38, ()))) (
        kn (x36, x37, (pAdd Go.IntKind.i64 x38 1), ()))) (
      kx (.inl (())))
def slices_IndexFunc_Sint64_int64__impl_CandsRight_c1_c1 (N : Nat) (a0 : List (Int)) : Option (Int) :=
  loopP (slices_IndexFunc_Sint64_int64__impl_CandsRight_c1_c1.l2 N) N (a0, (pLen a0), 0, ()) (
    onSum (fun d =>
      some (-1)) (
    fun d =>
    let x43 := d.1;
    some x43))

def slices_ContainsFunc_Sint64_int64__impl_CandsRight_c1_c1 (N : Nat) (a0 : List (Int)) : Option (Bool) :=
  bindO (slices_IndexFunc_Sint64_int64__impl_CandsRight_c1_c1 N a0) fun y1 =>
  some (pGe y1 0)

def impl_CandsRight_c1 (N : Nat) (a0 : List (Int)) : Option (Bool) :=
  bindO (impl_size_Sint64 N a0) fun y4 =>
  bindO (impl_within N y4 1 40) fun y5 =>
  bindO (
    ifB (pNot y5) (
      some true) (
      bindO (slices_ContainsFunc_Sint64_int64__impl_CandsRight_c1_c1 N a0) fun y7 =>
      some y7)) fun y6 =>
  some y6

def slices_IndexFunc_S_Sint64__Sint64__impl_CandsRight_c1.l2 {R : Type} (N : Nat) (d : List (List Int) × Int × Int × Unit) (kn : List (List Int) × Int × Int × Unit → Option R) (kx : (Unit) ⊕ (Int × Unit) → Option R) : Option R :=
  let x36 := d.1;
  let x37 := d.2.1;
  let x38 := d.2.2.1;
    ifB (pLt x38 x37) (
      bindO (idx x36 x38) fun y41 =>
      bindO (impl_CandsRight_c1 N y41) fun y42 =>
      ifB y42 (
        kx (.inr (x38, ()))) (
        kn (x36, x37, (pAdd Go.IntKind.i64 x38 1), ()))) (
      kx (.inl (())))
def slices_IndexFunc_S_Sint64__Sint64__impl_CandsRight_c1 (N : Nat) (a0 : List (List (Int))) : Option (Int) :=
  loopP (slices_IndexFunc_S_Sint64__Sint64__impl_CandsRight_c1.l2 N) N (a0, (pLen a0), 0, ()) (
    onSum (fun d =>
      some (-1)) (
    fun d =>
    let x43 := d.1;
    some x43))

def slices_ContainsFunc_S_Sint64__Sint64__impl_CandsRight_c1 (N : Nat) (a0 : List (List (Int))) : Option (Bool) :=
  bindO (slices_IndexFunc_S_Sint64__Sint64__impl_CandsRight_c1 N a0) fun y1 =>
  some (pGe y1 0)

def impl_CandsRight (N : Nat) (a0 : List (List (Int))) : Option (Bool) :=
  bindO (
    ifB (pLe (pLen a0) 40) (
      bindO (slices_ContainsFunc_S_Sint64__Sint64__impl_CandsRight_c1 N a0) fun y3 =>
      some (pNot y3)) (
      some false)) fun y2 =>
  some y2

def spec_PointsRight.l4 {R : Type} (N : Nat) (d : List Int × Int × Unit) (kn : List Int × Int × Unit → Option R) (kx : (Unit) ⊕ (Bool × Unit) → Option R) : Option R :=
  let x31 := d.1;
  let x32 := d.2.1;
    ifB (pLt x32 (pLen x31)) (
      bindO (idx x31 x32) fun y35 =>
      bindO (spec_l01Point N y35) fun y36 =>
      ifB (pNot y36) (
        kx (.inr (false, ()))) (
        kn (x31, (pAdd Go.IntKind.i64 x32 1), ()))) (
      kx (.inl (())))
def spec_PointsRight (N : Nat) (a0 : List (Int)) : Option (Bool) :=
  ifB (pGt (pLen a0) 300) (
    some false) (
    loopP (spec_PointsRight.l4 N) N (a0, 0, ()) (
      onSum (fun d =>
        some true) (
      fun d =>
      let x37 := d.1;
      some x37)))

def spec_BufRight (N : Nat) (a0 : List (Int) × Int × Int × Unit) : Option (Bool) :=
  bindO (spec_PointsRight N a0.1) fun y5 =>
  bindO (
    ifB y5 (
      some (pGe a0.2.1 0)) (
      some false)) fun y6 =>
  bindO (
    ifB y6 (
      some (pLe a0.2.1 (pLen a0.1))) (
      some false)) fun y7 =>
  bindO (
    ifB y7 (
      some (pGe a0.2.2.1 0)) (
      some false)) fun y8 =>
  bindO (
    ifB y8 (
      some (pLe a0.2.2.1 (pLen a0.1))) (
      some false)) fun y9 =>
  some y9

def spec_l15Word.l2 {R : Type} (N : Nat) (d : Int × (List Int × Int × Int × Unit) × Unit) (kn : Int × (List Int × Int × Int × Unit) × Unit → Option R) (kx : Int × Unit → Option R) : Option R :=
  let x58 := d.1;
  let x59 := d.2.1;
    bindO (
      ifB (pGt x58 0) (
        bindO (idx x59.1 (pSub Go.IntKind.i64 x58 1)) fun y61 =>
        bindO (spec_ClassOf N y61) fun y62 =>
        some (pEq y62 2)) (
        some false)) fun y60 =>
    ifB y60 (
      kn ((pSub Go.IntKind.i64 x58 1), x59, ())) (
      kx (x58, ()))
def spec_l15Word (N : Nat) (a0 : List (Int) × Int × Int × Unit) : Option (Int) :=
  loopP (spec_l15Word.l2 N) N (a0.2.1, a0, ()) (
    fun d =>
    let x63 := d.1;
    some x63)

def spec_l01Copy (N : Nat) (a0 : List (Int)) : Option (List Int) :=
  ifB (pFit [] a0) (
    some (pApp [] a0)) (
    none)

def spec_WordAhead (N : Nat) (a0 : List (Int) × Int × Int × Unit) : Option (List Int) :=
  bindO (spec_BufRight N a0) fun y3 =>
  ifB (pNot y3) (
    some []) (
    bindO (spec_l15Word N a0) fun y4 =>
    ifB (pLe 0 y4) (
      ifB (pLe y4 a0.2.1) (
        ifB (pLe a0.2.1 (pLen a0.1)) (
          bindO (spec_l01Copy N (sub a0.1 y4 a0.2.1)) fun y5 =>
          some y5) (
          none)) (
        none)) (
      none))

def impl_PointsRight_c1 (N : Nat) (a0 : Int) : Option (Bool) :=
  bindO (impl_isPoint N a0) fun y1 =>
  some (pNot y1)

def slices_IndexFunc_Sint64_int64__impl_PointsRight_c1.l2 {R : Type} (N : Nat) (d : List Int × Int × Int × Unit) (kn : List Int × Int × Int × Unit → Option R) (kx : (Unit) ⊕ (Int × Unit) → Option R) : Option R :=
  let x36 := d.1;
  let x37 := d.2.1;
  let x38 := d.2.2.1;
    ifB (pLt x38 x37) (
      bindO (idx x36 x38) fun y41 =>
      bindO (impl_PointsRight_c1 N y41) fun y42 =>
      ifB y42 (
        kx (.inr (x38, ()))) (
        kn (x36, x37, (pAdd Go.IntKind.i64 x38 1), ()))) (
      kx (.inl (())))
def slices_IndexFunc_Sint64_int64__impl_PointsRight_c1 (N : Nat) (a0 : List (Int)) : Option (Int) :=
  loopP (slices_IndexFunc_Sint64_int64__impl_PointsRight_c1.l2 N) N (a0, (pLen a0), 0, ()) (
    onSum (fun d =>
      some (-1)) (
    fun d =>
    let x43 := d.1;
    some x43))

def slices_ContainsFunc_Sint64_int64__impl_PointsRight_c1 (N : Nat) (a0 : List (Int)) : Option (Bool) :=
  bindO (slices_IndexFunc_Sint64_int64__impl_PointsRight_c1 N a0) fun y1 =>
  some (pGe y1 0)

def impl_PointsRight (N : Nat) (a0 : List (Int)) : Option (Bool) :=
  bindO (
    ifB (pLe (pLen a0) 300) (
      bindO (slices_ContainsFunc_Sint64_int64__impl_PointsRight_c1 N a0) fun y3 =>
      some (pNot y3)) (
      some false)) fun y2 =>
  some y2

def impl_Buf_isPlace (N : Nat) (a0 : List (Int) × Int × Int × Unit) (a1 : Int) : Option (Bool) :=
  bindO (impl_size_Sint64 N a0.1) fun y2 =>
  bindO (impl_within N a1 0 y2) fun y3 =>
  some y3

def impl_BufRight (N : Nat) (a0 : List (Int) × Int × Int × Unit) : Option (Bool) :=
  bindO (impl_PointsRight N a0.1) fun y5 =>
  bindO (
    ifB y5 (
      bindO (impl_Buf_isPlace N a0 a0.2.1) fun y7 =>
      some y7) (
      some false)) fun y6 =>
  bindO (
    ifB y6 (
      bindO (impl_Buf_isPlace N a0 a0.2.2.1) fun y9 =>
      some y9) (
      some false)) fun y8 =>
  some y8

def impl_Buf_isWord (N : Nat) (a0 : List (Int) × Int × Int × Unit) (a1 : Int) : Option (Bool) :=
  bindO (idx a0.1 a1) fun y2 =>
  bindO (impl_ClassOf N y2) fun y3 =>
  some (pEq y3 2)

def impl_Buf_ahead.l2 {R : Type} (N : Nat) (d : (List Int × Int × Int × Unit) × Int × Unit) (kn : (List Int × Int × Int × Unit) × Int × Unit → Option R) (kx : (List Int × Int × Int × Unit) × Int × Unit → Option R) : Option R :=
  let x50 := d.1;
  let x51 := d.2.1;
    bindO (
      ifB (pGt x51 0) (
        bindO (impl_Buf_isWord N x50 (pSub Go.IntKind.i64 x51 1)) fun y53 =>
        some y53) (
        some false)) fun y52 =>
    ifB y52 (
      kn (x50, (pSub Go.IntKind.i64 x51 1), ())) (
      kx (x50, x51, ()))
def impl_Buf_ahead (N : Nat) (a0 : List (Int) × Int × Int × Unit) : Option (List Int) :=
  loopP (impl_Buf_ahead.l2 N) N (a0, a0.2.1, ()) (
    fun d =>
    let x54 := d.1;
    let x55 := d.2.1;
    ifB (pLe 0 x55) (
      ifB (pLe x55 x54.2.1) (
        ifB (pLe x54.2.1 (pLen x54.1)) (
          some (sub x54.1 x55 x54.2.1)) (
          none)) (
        none)) (
      none))

def spec_l01Same.l4 {R : Type} (N : Nat) (d : List Int × List Int × Int × Unit) (kn : List Int × List Int × Int × Unit → Option R) (kx : (Unit) ⊕ (Bool × Unit) → Option R) : Option R :=
  let x36 := d.1;
  let x37 := d.2.1;
  let x38 := d.2.2.1;
    ifB (pLt x38 (pLen x36)) (
      bindO (idx x36 x38) fun y41 =>
      bindO (idx x37 x38) fun y42 =>
      ifB (pNe y41 y42) (
        kx (.inr (false, ()))) (
        kn (x36, x37, (pAdd Go.IntKind.i64 x38 1), ()))) (
      kx (.inl (())))
def spec_l01Same (N : Nat) (a0 : List (Int)) (a1 : List (Int)) : Option (Bool) :=
  ifB (pNe (pLen a0) (pLen a1)) (
    some false) (
    loopP (spec_l01Same.l4 N) N (a0, a1, 0, ()) (
      onSum (fun d =>
        some true) (
      fun d =>
      let x43 := d.1;
      some x43)))

def spec_l06Begins (N : Nat) (a0 : List (Int)) (a1 : List (Int)) : Option (Bool) :=
  bindO (
    ifB (pGe (pLen a0) (pLen a1)) (
      ifB (pLe 0 0) (
        ifB (pLe 0 (pLen a1)) (
          ifB (pLe (pLen a1) (pLen a0)) (
            bindO (spec_l01Same N (sub a0 0 (pLen a1)) a1) fun y3 =>
            some y3) (
            none)) (
          none)) (
        none)) (
      some false)) fun y2 =>
  some y2

def spec_CompMatch.l5 {R : Type} (N : Nat) (d : List (List Int) × List Int × Int × List Int × Unit) (kn : List (List Int) × List Int × Int × List Int × Unit → Option R) (kx : List Int × Unit → Option R) : Option R :=
  let x81 := d.1;
  let x82 := d.2.1;
  let x83 := d.2.2.1;
  let x84 := d.2.2.2.1;
    ifB (pLt x83 (pLen x81)) (
      bindO (A := List (List Int) × List Int × Int × List Int × Unit) (
        bindO (idx x81 x83) fun y89 =>
        bindO (spec_l06Begins N y89 x82) fun y90 =>
        ifB y90 (
          ifB (pFit x84 [x83]) (
            some (x81, x82, x83, (pApp x84 [x83]), ())) (
            none)) (
          some (x81, x82, x83, x84, ()))) (
        fun d =>
        let x91 := d.1;
        let x92 := d.2.1;
        let x93 := d.2.2.1;
        let x94 := d.2.2.2.1;
        kn (x91, x92, (pAdd Go.IntKind.i64 x93 1), x94, ()))) (
      kx (x84, ()))
def spec_CompMatch (N : Nat) (a0 : List (List (Int))) (a1 : List (Int)) : Option (List Int) :=
  bindO (
    ifB (pGt (pLen a0) 400) (
      some true) (
      some (pGt (pLen a1) 400))) fun y48 =>
  bindO (
    ifB y48 (
      some true) (
      bindO (spec_CandsRight N a0) fun y50 =>
      some (pNot y50))) fun y49 =>
  bindO (
    ifB y49 (
      some true) (
      bindO (spec_PointsRight N a1) fun y52 =>
      some (pNot y52))) fun y51 =>
  ifB y51 (
    some []) (
    loopP (spec_CompMatch.l5 N) N (a0, a1, 0, [], ()) (
      fun d =>
      let x95 := d.1;
      some x95))

def impl_isMany (N : Nat) (a0 : Int) : Option (Bool) :=
  some (pGt a0 400)

def impl_compAsked (N : Nat) (a0 : List (List (Int))) (a1 : List (Int)) : Option (Bool) :=
  bindO (impl_isMany N (pLen a0)) fun y7 =>
  bindO (
    ifB (pNot y7) (
      bindO (impl_isMany N (pLen a1)) fun y9 =>
      some (pNot y9)) (
      some false)) fun y8 =>
  bindO (
    ifB y8 (
      bindO (impl_CandsRight N a0) fun y11 =>
      some y11) (
      some false)) fun y10 =>
  bindO (
    ifB y10 (
      bindO (impl_PointsRight N a1) fun y13 =>
      some y13) (
      some false)) fun y12 =>
  some y12

def slices_Equal_Sint64_int64.l4 {R : Type} (N : Nat) (d : List Int × List Int × Int × Int × Unit) (kn : List Int × List Int × Int × Int × Unit → Option R) (kx : (Unit) ⊕ (Bool × Unit) → Option R) : Option R :=
  let x41 := d.1;
  let x42 := d.2.1;
  let x43 := d.2.2.1;
  let x44 := d.2.2.2.1;
    ifB (pLt x44 x43) (
      bindO (idx x41 x44) fun y47 =>
      bindO (idx x42 x44) fun y48 =>
      ifB (pNe y47 y48) (
        kx (.inr (false, ()))) (
        kn (x41, x42, x43, (pAdd Go.IntKind.i64 x44 1), ()))) (
      kx (.inl (())))
def slices_Equal_Sint64_int64 (N : Nat) (a0 : List (Int)) (a1 : List (Int)) : Option (Bool) :=
  ifB (pNe (pLen a0) (pLen a1)) (
    some false) (
    loopP (slices_Equal_Sint64_int64.l4 N) N (a0, a1, (pLen a0), 0, ()) (
      onSum (fun d =>
        some true) (
      fun d =>
      let x49 := d.1;
      some x49)))

def impl_begins (N : Nat) (a0 : List (Int)) (a1 : List (Int)) : Option (Bool) :=
  bindO (
    ifB (pGe (pLen a0) (pLen a1)) (
      ifB (pLe 0 0) (
        ifB (pLe 0 (pLen a1)) (
          ifB (pLe (pLen a1) (pLen a0)) (
            bindO (slices_Equal_Sint64_int64 N (sub a0 0 (pLen a1)) a1) fun y3 =>
            some y3) (
            none)) (
          none)) (
        none)) (
      some false)) fun y2 =>
  some y2

def impl_matches.l3 {R : Type} (N : Nat) (d : List Int × List (List Int) × Int × Int × List (List Int) × List Int × Unit) (kn : List Int × List (List Int) × Int × Int × List (List Int) × List Int × Unit → Option R) (kx : List (List Int) × List Int × Unit → Option R) : Option R :=
  let x92 := d.1;
  let x93 := d.2.1;
  let x94 := d.2.2.1;
  let x95 := d.2.2.2.1;
  let x96 := d.2.2.2.2.1;
  let x97 := d.2.2.2.2.2.1;
    ifB (pLt x95 x94) (
      bindO (A := List Int × List (List Int) × Int × Int × List (List Int) × List Int × Unit) (
        bindO (idx x93 x95) fun y102 =>
        bindO (impl_begins N y102 x92) fun y103 =>
        ifB y103 (
          ifB (pFit x96 [y102]) (
            ifB (pFit x97 [x95]) (
              some (x92, x93, x94, x95, (pApp x96 [y102]), (pApp x97 [x95]), ())) (
              none)) (
            none)) (
          some (x92, x93, x94, x95, x96, x97, ()))) (
        fun d =>
        let x104 := d.1;
        let x105 := d.2.1;
        let x106 := d.2.2.1;
        let x107 := d.2.2.2.1;
        let x108 := d.2.2.2.2.1;
        let x109 := d.2.2.2.2.2.1;
        kn (x104, x105, x106, (pAdd Go.IntKind.i64 x107 1), x108, x109, ()))) (
      kx (x96, x97, ()))
def impl_matches (N : Nat) (a0 : List (List (Int))) (a1 : List (Int)) : Option (List (List Int) × List Int) :=
  loopP (impl_matches.l3 N) N (a1, a0, (pLen a0), 0, [], [], ()) (
    fun d =>
    let x110 := d.1;
    let x111 := d.2.1;
    some (x110, x111))

end Go.AE.F
namespace Go.AE.F
open Go.AE
noncomputable def slices_Clone_Sint64_int64.g {R : Type} (N : Nat) (a0 : List (Int)) (k : List Int → Option R) : Option R :=
  ifB (pEq (pLen a0) 0) (
    same (
      k []) (
      ifB (pFit [] a0) (
        k (pApp [] a0)) (
        none))) (
    ifB (pFit [] a0) (
      k (pApp [] a0)) (
      none))
noncomputable def slices_Clone_Sint64_int64 (N : Nat) (a0 : List (Int)) : Option (List Int) := slices_Clone_Sint64_int64.g N a0 some

def impl_CompMatch (N : Nat) (a0 : List (List (Int))) (a1 : List (Int)) : Option (List Int) :=
  bindO (impl_compAsked N a0 a1) fun y2 =>
  ifB (pNot y2) (
    some []) (
    bindO (impl_matches N a0 a1) fun y3 =>
    some y3.2)

end Go.AE.F
namespace Go.AE.F
open Go.AE
noncomputable def spec_CompCommon.l10 {R : Type} (N : Nat) (d : List (List Int) × Int × List Int × List Int × Unit) (kn : List (List Int) × Int × List Int × List Int × Unit → Option R) (kx : List (List Int) × Int × List Int × List Int × Unit → Option R) : Option R :=
  let x367 := d.1;
  let x368 := d.2.1;
  let x369 := d.2.2.1;
  let x370 := d.2.2.2.1;
    bindO (idx x369 x368) fun y371 =>
    bindO (idx x369 x368) fun y372 =>
    bindO (idx x367 y372) fun y373 =>
    bindO (spec_l06Begins N y373 x370) fun y374 =>
    ifB (pNot y374) (
      ifB (pLe 0 0) (
        ifB (pLe 0 (pSub Go.IntKind.i64 (pLen x370) 1)) (
          ifB (pLe (pSub Go.IntKind.i64 (pLen x370) 1) (pLen x370)) (
            kn (x367, x368, x369, (sub x370 0 (pSub Go.IntKind.i64 (pLen x370) 1)), ())) (
            none)) (
          none)) (
        none)) (
      kx (x367, x368, x369, x370, ()))
noncomputable def spec_CompCommon.l8 {R : Type} (N : Nat) (d : List (List Int) × Int × List Int × List Int × Unit) (kn : List (List Int) × Int × List Int × List Int × Unit → Option R) (kx : List Int × Unit → Option R) : Option R :=
  let x319 := d.1;
  let x320 := d.2.1;
  let x321 := d.2.2.1;
  let x322 := d.2.2.2.1;
    ifB (pLt x320 (pLen x321)) (
      loopP (spec_CompCommon.l10 N) N (x319, x320, x321, x322, ()) (
        fun d =>
        let x375 := d.1;
        let x376 := d.2.1;
        let x377 := d.2.2.1;
        let x378 := d.2.2.2.1;
        kn (x375, (pAdd Go.IntKind.i64 x376 1), x377, x378, ()))) (
      kx (x322, ()))
noncomputable def spec_CompCommon (N : Nat) (a0 : List (List (Int))) (a1 : List (Int)) : Option (List Int) :=
  bindO (
    ifB (pGt (pLen a0) 400) (
      some true) (
      some (pGt (pLen a1) 400))) fun y190 =>
  bindO (
    ifB y190 (
      some true) (
      bindO (spec_PointsRight N a1) fun y192 =>
      some (pNot y192))) fun y191 =>
  ifB y191 (
    some []) (
    bindO (spec_CompMatch N a0 a1) fun y193 =>
    ifB (pEq (pLen y193) 0) (
      bindO (spec_l01Copy N a1) fun y194 =>
      some y194) (
      bindO (idx y193 0) fun y195 =>
      bindO (idx y193 0) fun y196 =>
      bindO (idx a0 y196) fun y197 =>
      bindO (spec_l01Copy N y197) fun y198 =>
      loopP (spec_CompCommon.l8 N) N (a0, 1, y193, y198, ()) (
        fun d =>
        let x379 := d.1;
        some x379)))

noncomputable def impl_common_c1 (N : Nat) (a0 : List (Int)) (a1 : List (List (Int))) (a2 : Int) : Option (Bool) :=
  bindO (idx a1 0) fun y2 =>
  ifB (pLe 0 0) (
    ifB (pLe 0 a2) (
      ifB (pLe a2 (pLen y2)) (
        bindO (impl_begins N a0 (sub y2 0 a2)) fun y3 =>
        some (pNot y3)) (
        none)) (
      none)) (
    none)

noncomputable def slices_IndexFunc_S_Sint64__Sint64__impl_common_c1.l2 {R : Type} (N : Nat) (d : List (List Int) × List (List Int) × Int × Int × Int × Unit) (kn : List (List Int) × List (List Int) × Int × Int × Int × Unit → Option R) (kx : (Unit) ⊕ (Int × Unit) → Option R) : Option R :=
  let x46 := d.1;
  let x47 := d.2.1;
  let x48 := d.2.2.1;
  let x49 := d.2.2.2.1;
  let x50 := d.2.2.2.2.1;
    ifB (pLt x50 x49) (
      bindO (idx x46 x50) fun y53 =>
      bindO (impl_common_c1 N y53 x47 x48) fun y54 =>
      ifB y54 (
        kx (.inr (x50, ()))) (
        kn (x46, x47, x48, x49, (pAdd Go.IntKind.i64 x50 1), ()))) (
      kx (.inl (())))
noncomputable def slices_IndexFunc_S_Sint64__Sint64__impl_common_c1 (N : Nat) (a0 : List (List (Int))) (a1 : List (List (Int))) (a2 : Int) : Option (Int) :=
  loopP (slices_IndexFunc_S_Sint64__Sint64__impl_common_c1.l2 N) N (a0, a1, a2, (pLen a0), 0, ()) (
    onSum (fun d =>
      some (-1)) (
    fun d =>
    let x55 := d.1;
    some x55))

noncomputable def slices_ContainsFunc_S_Sint64__Sint64__impl_common_c1 (N : Nat) (a0 : List (List (Int))) (a1 : List (List (Int))) (a2 : Int) : Option (Bool) :=
  bindO (slices_IndexFunc_S_Sint64__Sint64__impl_common_c1 N a0 a1 a2) fun y1 =>
  some (pGe y1 0)

noncomputable def impl_common.l5 {R : Type} (N : Nat) (d : List (List Int) × Int × Unit) (kn : List (List Int) × Int × Unit → Option R) (kx : List (List Int) × Int × Unit → Option R) : Option R :=
  let x47 := d.1;
  let x48 := d.2.1;
    bindO (slices_ContainsFunc_S_Sint64__Sint64__impl_common_c1 N x47 x47 x48) fun y49 =>
    ifB y49 (
      kn (x47, (pSub Go.IntKind.i64 x48 1), ())) (
      kx (x47, x48, ()))
noncomputable def impl_common (N : Nat) (a0 : List (List (Int))) (a1 : List (Int)) : Option (List Int) :=
  bindO (impl_matches N a0 a1) fun y27 =>
  ifB (pEq (pLen y27.1) 0) (
    some a1) (
    bindO (idx y27.1 0) fun y28 =>
    bindO (idx y27.1 0) fun y29 =>
    loopP (impl_common.l5 N) N (y27.1, (pLen y29), ()) (
      fun d =>
      let x50 := d.1;
      let x51 := d.2.1;
      bindO (idx x50 0) fun y52 =>
      bindO (idx x50 0) fun y53 =>
      ifB (pLe 0 0) (
        ifB (pLe 0 x51) (
          ifB (pLe x51 (pLen y53)) (
            some (sub y53 0 x51)) (
            none)) (
          none)) (
        none)))

noncomputable def impl_CompCommon (N : Nat) (a0 : List (List (Int))) (a1 : List (Int)) : Option (List Int) :=
  bindO (impl_isMany N (pLen a0)) fun y17 =>
  bindO (
    ifB y17 (
      some true) (
      bindO (impl_PointsRight N a1) fun y19 =>
      some (pNot y19))) fun y18 =>
  ifB y18 (
    some []) (
    bindO (impl_CandsRight N a0) fun y20 =>
    ifB (pNot y20) (
      bindO (slices_Clone_Sint64_int64 N a1) fun y21 =>
      some y21) (
      bindO (impl_common N a0 a1) fun y22 =>
      bindO (slices_Clone_Sint64_int64 N y22) fun y23 =>
      some y23))

end Go.AE.F
namespace Go.AE.F
open Go.AE
noncomputable def impl_WordAhead (N : Nat) (a0 : List (Int) × Int × Int × Unit) : Option (List Int) :=
  bindO (impl_BufRight N a0) fun y3 =>
  ifB (pNot y3) (
    some []) (
    bindO (impl_Buf_ahead N a0) fun y4 =>
    bindO (slices_Clone_Sint64_int64 N y4) fun y5 =>
    some y5)

end Go.AE.F
namespace Go.AE.F
open Go.AE
noncomputable def spec_l01Source.l3 {R : Type} (N : Nat) (d : List Int × Int × (List Int × Int × Int × Int × Unit) × Unit) (kn : List Int × Int × (List Int × Int × Int × Int × Unit) × Unit → Option R) (kx : List Int × (List Int × Int × Int × Int × Unit) × Unit → Option R) : Option R :=
  let x13 := d.1;
  let x14 := d.2.1;
  let x15 := d.2.2.1;
    bindO (
      ifB (pLt x14 (pLen x13)) (
        some (pLt x14 64)) (
        some false)) fun y16 =>
    ifB y16 (
      bindO (idx x13 x14) fun y17 =>
      kn (x13, (pAdd Go.IntKind.i64 x14 1), (x15.1, (x15.2.1, ((pMul Go.IntKind.u64 (pXor Go.IntKind.u64 x15.2.2.1 (pConv Go.IntKind.u64 y17)) 1099511628211), x15.2.2.2))), ())) (
      kx (x13, x15, ()))
noncomputable def spec_l01Source (N : Nat) (a0 : List (Int)) : Option (List Int × Int × Int × Int × Unit) :=
  loopP (spec_l01Source.l3 N) N (a0, 0, (a0, (0, (88172645463325252, (0, ())))), ()) (
    fun d =>
    let x18 := d.1;
    let x19 := d.2.1;
    ifB (pEq 20 0) (
      none) (
      ifB (pGt (pQuo Go.IntKind.i64 (pLen x18) 20) 12) (
        some (x19.1, (x19.2.1, (x19.2.2.1, (12, x19.2.2.2.2))))) (
        some (x19.1, (x19.2.1, (x19.2.2.1, ((pQuo Go.IntKind.i64 (pLen x18) 20), x19.2.2.2.2)))))))

noncomputable def spec_l01Src_n (N : Nat) (a0 : List (Int) × Int × Int × Int × Unit) (a1 : Int) : Option (Int × List Int × Int × Int × Int × Unit) :=
  ifB (pLe a1 1) (
    some (0, a0)) (
    ifB (pLt a0.2.1 (pLen a0.1)) (
      bindO (idx a0.1 a0.2.1) fun y1 =>
      ifB (pLt 13 0) (
        none) (
        ifB (pLt 7 0) (
          none) (
          ifB (pLt 17 0) (
            none) (
            ifB (pLt 20 0) (
              none) (
              ifB (pEq (pConv Go.IntKind.u64 a1) 0) (
                none) (
                some ((pConv Go.IntKind.i64 (pRem (pAdd Go.IntKind.u64 (pConv Go.IntKind.u64 y1) (pShr Go.IntKind.u64 (pXor Go.IntKind.u64 (pXor Go.IntKind.u64 (pXor Go.IntKind.u64 a0.2.2.1 (pShl Go.IntKind.u64 a0.2.2.1 13)) (pShr Go.IntKind.u64 (pXor Go.IntKind.u64 a0.2.2.1 (pShl Go.IntKind.u64 a0.2.2.1 13)) 7)) (pShl Go.IntKind.u64 (pXor Go.IntKind.u64 (pXor Go.IntKind.u64 a0.2.2.1 (pShl Go.IntKind.u64 a0.2.2.1 13)) (pShr Go.IntKind.u64 (pXor Go.IntKind.u64 a0.2.2.1 (pShl Go.IntKind.u64 a0.2.2.1 13)) 7)) 17)) 20)) (pConv Go.IntKind.u64 a1))), (a0.1, ((pAdd Go.IntKind.i64 a0.2.1 1), ((pXor Go.IntKind.u64 (pXor Go.IntKind.u64 (pXor Go.IntKind.u64 a0.2.2.1 (pShl Go.IntKind.u64 a0.2.2.1 13)) (pShr Go.IntKind.u64 (pXor Go.IntKind.u64 a0.2.2.1 (pShl Go.IntKind.u64 a0.2.2.1 13)) 7)) (pShl Go.IntKind.u64 (pXor Go.IntKind.u64 (pXor Go.IntKind.u64 a0.2.2.1 (pShl Go.IntKind.u64 a0.2.2.1 13)) (pShr Go.IntKind.u64 (pXor Go.IntKind.u64 a0.2.2.1 (pShl Go.IntKind.u64 a0.2.2.1 13)) 7)) 17)), a0.2.2.2)))))))))) (
      ifB (pLt 13 0) (
        none) (
        ifB (pLt 7 0) (
          none) (
          ifB (pLt 17 0) (
            none) (
            ifB (pLt 20 0) (
              none) (
              ifB (pEq (pConv Go.IntKind.u64 a1) 0) (
                none) (
                some ((pConv Go.IntKind.i64 (pRem (pAdd Go.IntKind.u64 0 (pShr Go.IntKind.u64 (pXor Go.IntKind.u64 (pXor Go.IntKind.u64 (pXor Go.IntKind.u64 a0.2.2.1 (pShl Go.IntKind.u64 a0.2.2.1 13)) (pShr Go.IntKind.u64 (pXor Go.IntKind.u64 a0.2.2.1 (pShl Go.IntKind.u64 a0.2.2.1 13)) 7)) (pShl Go.IntKind.u64 (pXor Go.IntKind.u64 (pXor Go.IntKind.u64 a0.2.2.1 (pShl Go.IntKind.u64 a0.2.2.1 13)) (pShr Go.IntKind.u64 (pXor Go.IntKind.u64 a0.2.2.1 (pShl Go.IntKind.u64 a0.2.2.1 13)) 7)) 17)) 20)) (pConv Go.IntKind.u64 a1))), (a0.1, (a0.2.1, ((pXor Go.IntKind.u64 (pXor Go.IntKind.u64 (pXor Go.IntKind.u64 a0.2.2.1 (pShl Go.IntKind.u64 a0.2.2.1 13)) (pShr Go.IntKind.u64 (pXor Go.IntKind.u64 a0.2.2.1 (pShl Go.IntKind.u64 a0.2.2.1 13)) 7)) (pShl Go.IntKind.u64 (pXor Go.IntKind.u64 (pXor Go.IntKind.u64 a0.2.2.1 (pShl Go.IntKind.u64 a0.2.2.1 13)) (pShr Go.IntKind.u64 (pXor Go.IntKind.u64 a0.2.2.1 (pShl Go.IntKind.u64 a0.2.2.1 13)) 7)) 17)), a0.2.2.2)))))))))))

noncomputable def spec_l01Src_one (N : Nat) (a0 : List (Int) × Int × Int × Int × Unit) (a1 : Int) : Option (Bool × List Int × Int × Int × Int × Unit) :=
  bindO (spec_l01Src_n N a0 a1) fun y1 =>
  some ((pEq y1.1 0), y1.2)

noncomputable def spec_l01Src_pick (N : Nat) (a0 : List (Int) × Int × Int × Int × Unit) (a1 : List (ByteArray)) : Option (ByteArray × List Int × Int × Int × Int × Unit) :=
  bindO (spec_l01Src_n N a0 (pLen a1)) fun y2 =>
  bindO (idx a1 y2.1) fun y3 =>
  some (y3, y2.2)

noncomputable def spec_l01Bytes (N : Nat) (a0 : Int) : Option (List Int) :=
  ifB (pLt a0 128) (
    some [(pConv Go.IntKind.u8 a0)]) (
    ifB (pLt a0 2048) (
      ifB (pEq 64 0) (
        none) (
        ifB (pEq 64 0) (
          none) (
          some [(pConv Go.IntKind.u8 (pAdd Go.IntKind.i64 192 (pQuo Go.IntKind.i64 a0 64))), (pConv Go.IntKind.u8 (pAdd Go.IntKind.i64 128 (pRem a0 64)))]))) (
      ifB (pLt a0 65536) (
        ifB (pEq 4096 0) (
          none) (
          ifB (pEq 64 0) (
            none) (
            ifB (pEq 64 0) (
              none) (
              ifB (pEq 64 0) (
                none) (
                some [(pConv Go.IntKind.u8 (pAdd Go.IntKind.i64 224 (pQuo Go.IntKind.i64 a0 4096))), (pConv Go.IntKind.u8 (pAdd Go.IntKind.i64 128 (pRem (pQuo Go.IntKind.i64 a0 64) 64))), (pConv Go.IntKind.u8 (pAdd Go.IntKind.i64 128 (pRem a0 64)))]))))) (
        ifB (pEq 262144 0) (
          none) (
          ifB (pEq 4096 0) (
            none) (
            ifB (pEq 64 0) (
              none) (
              ifB (pEq 64 0) (
                none) (
                ifB (pEq 64 0) (
                  none) (
                  ifB (pEq 64 0) (
                    none) (
                    some [(pConv Go.IntKind.u8 (pAdd Go.IntKind.i64 240 (pQuo Go.IntKind.i64 a0 262144))), (pConv Go.IntKind.u8 (pAdd Go.IntKind.i64 128 (pRem (pQuo Go.IntKind.i64 a0 4096) 64))), (pConv Go.IntKind.u8 (pAdd Go.IntKind.i64 128 (pRem (pQuo Go.IntKind.i64 a0 64) 64))), (pConv Go.IntKind.u8 (pAdd Go.IntKind.i64 128 (pRem a0 64)))])))))))))

noncomputable def spec_l01First.l18 {R : Type} (N : Nat) (d : ByteArray × Int × Int × Int × Unit) (kn : ByteArray × Int × Int × Int × Unit → Option R) (kx : (ByteArray × Int × Int × Unit) ⊕ (Int × Int × Unit) → Option R) : Option R :=
  let x46 := d.1;
  let x47 := d.2.1;
  let x48 := d.2.2.1;
  let x49 := d.2.2.2.1;
    ifB (pLt x49 x47) (
      bindO (bidx x46 x49) fun y50 =>
      bindO (
        ifB (pLt y50 128) (
          some true) (
          bindO (bidx x46 x49) fun y52 =>
          some (pGe y52 192))) fun y51 =>
      ifB y51 (
        kx (.inr (65533, 1, ()))) (
        bindO (bidx x46 x49) fun y53 =>
        kn (x46, x47, (pAdd Go.IntKind.i64 (pMul Go.IntKind.i64 64 x48) (pConv Go.IntKind.i64 (pSub Go.IntKind.u8 y53 128))), (pAdd Go.IntKind.i64 x49 1), ()))) (
      kx (.inl (x46, x47, x48, ())))
noncomputable def spec_l01First (N : Nat) (a0 : ByteArray) : Option (Int × Int) :=
  bindO (bidx a0 0) fun y38 =>
  ifB (pLt (pConv Go.IntKind.i64 y38) 128) (
    some ((pConv Go.IntKind.i64 y38), 1)) (
    bindO (A := ByteArray × Int × Int × Unit) (
      bindO (
        ifB (pGe (pConv Go.IntKind.i64 y38) 192) (
          some (pLt (pConv Go.IntKind.i64 y38) 224)) (
          some false)) fun y39 =>
      ifB y39 (
        some (a0, 2, (pSub Go.IntKind.i64 (pConv Go.IntKind.i64 y38) 192), ())) (
        bindO (
          ifB (pGe (pConv Go.IntKind.i64 y38) 224) (
            some (pLt (pConv Go.IntKind.i64 y38) 240)) (
            some false)) fun y40 =>
        ifB y40 (
          some (a0, 3, (pSub Go.IntKind.i64 (pConv Go.IntKind.i64 y38) 224), ())) (
          bindO (
            ifB (pGe (pConv Go.IntKind.i64 y38) 240) (
              some (pLt (pConv Go.IntKind.i64 y38) 248)) (
              some false)) fun y41 =>
          ifB y41 (
            some (a0, 4, (pSub Go.IntKind.i64 (pConv Go.IntKind.i64 y38) 240), ())) (
            some (a0, 0, 0, ()))))) (
      fun d =>
      let x42 := d.1;
      let x43 := d.2.1;
      let x44 := d.2.2.1;
      bindO (
        ifB (pEq x43 0) (
          some true) (
          some (pLt (pSize x42) x43))) fun y45 =>
      ifB y45 (
        some (65533, 1)) (
        loopP (spec_l01First.l18 N) N (x42, x43, x44, 1, ()) (
          onSum (fun d =>
            let x54 := d.1;
            let x55 := d.2.1;
            let x56 := d.2.2.1;
            bindO (spec_l01Point N x56) fun y57 =>
            ifB (pNot y57) (
              some (65533, 1)) (
              ifB (pLe 0 0) (
                ifB (pLe 0 x55) (
                  ifB (pLe x55 (pSize x54)) (
                    bindO (spec_l01Bytes N x56) fun y58 =>
                    ifB (pNot (pSEq (bytesOf y58) (ssub x54 0 x55))) (
                      some (65533, 1)) (
                      some (x56, x55))) (
                    none)) (
                  none)) (
                none))) (
          fun d =>
          let x59 := d.1;
          let x60 := d.2.1;
          some (x59, x60))))))

noncomputable def spec_l01Points.l3 {R : Type} (N : Nat) (d : ByteArray × Int × List Int × Unit) (kn : ByteArray × Int × List Int × Unit → Option R) (kx : List Int × Unit → Option R) : Option R :=
  let x9 := d.1;
  let x10 := d.2.1;
  let x11 := d.2.2.1;
    ifB (pLt x10 (pSize x9)) (
      ifB (pLe 0 x10) (
        ifB (pLe x10 (pSize x9)) (
          ifB (pLe (pSize x9) (pSize x9)) (
            bindO (spec_l01First N (ssub x9 x10 (pSize x9))) fun y12 =>
            ifB (pFit x11 [y12.1]) (
              kn (x9, (pAdd Go.IntKind.i64 x10 y12.2), (pApp x11 [y12.1]), ())) (
              none)) (
            none)) (
          none)) (
        none)) (
      kx (x11, ()))
noncomputable def spec_l01Points (N : Nat) (a0 : ByteArray) : Option (List Int) :=
  loopP (spec_l01Points.l3 N) N (a0, 0, [], ()) (
    fun d =>
    let x13 := d.1;
    some x13)

noncomputable def spec_l01Src_l15Cand (N : Nat) (a0 : List (Int) × Int × Int × Int × Unit) : Option (List Int × List Int × Int × Int × Int × Unit) :=
  bindO (spec_l01Src_pick N a0 [(ByteArray.mk #[97, 98]), (ByteArray.mk #[97, 98, 99]), (ByteArray.mk #[97, 98, 100]), (ByteArray.mk #[97]), (ByteArray.mk #[98]), (ByteArray.mk #[109, 97, 107, 101]), (ByteArray.mk #[109, 97, 120]), (ByteArray.mk #[109, 97, 95, 49]), (ByteArray.mk #[99, 97, 102, 195, 169]), (ByteArray.mk #[228, 184, 128, 97])]) fun y2 =>
  bindO (spec_l01Points N y2.1) fun y3 =>
  some (y3, y2.2)

noncomputable def spec_l01Src_l15Cands.l5 {R : Type} (N : Nat) (d : Int × (List Int × Int × Int × Int × Unit) × List (List Int) × Unit) (kn : Int × (List Int × Int × Int × Int × Unit) × List (List Int) × Unit → Option R) (kx : (List Int × Int × Int × Int × Unit) × List (List Int) × Unit → Option R) : Option R :=
  let x43 := d.1;
  let x44 := d.2.1;
  let x45 := d.2.2.1;
    ifB (pGt x43 0) (
      bindO (spec_l01Src_l15Cand N x44) fun y46 =>
      ifB (pFit x45 [y46.1]) (
        kn ((pSub Go.IntKind.i64 x43 1), y46.2, (pApp x45 [y46.1]), ())) (
        none)) (
      kx (x44, x45, ()))
noncomputable def spec_l01Src_l15Cands.l12 {R : Type} (N : Nat) (d : Int × (List Int × Int × Int × Int × Unit) × List (List Int) × List Int × Unit) (kn : Int × (List Int × Int × Int × Int × Unit) × List (List Int) × List Int × Unit → Option R) (kx : (List Int × Int × Int × Int × Unit) × List (List Int) × List Int × Unit → Option R) : Option R :=
  let x52 := d.1;
  let x53 := d.2.1;
  let x54 := d.2.2.1;
  let x55 := d.2.2.2.1;
    ifB (pGt x52 0) (
      ifB (pFit x55 [122]) (
        kn ((pSub Go.IntKind.i64 x52 1), x53, x54, (pApp x55 [122]), ())) (
        none)) (
      kx (x53, x54, x55, ()))
noncomputable def spec_l01Src_l15Cands (N : Nat) (a0 : List (Int) × Int × Int × Int × Unit) : Option (List (List Int) × List Int × Int × Int × Int × Unit) :=
  bindO (spec_l01Src_n N a0 6) fun y40 =>
  bindO (spec_l01Src_one N y40.2 30) fun y41 =>
  ifB y41.1 (
    bindO (spec_l01Src_n N y41.2 3) fun y42 =>
    loopP (spec_l01Src_l15Cands.l5 N) N ((pAdd Go.IntKind.i64 39 y42.1), y42.2, [], ()) (
      fun d =>
      let x47 := d.1;
      let x48 := d.2.1;
      bindO (spec_l01Src_one N x47 15) fun y49 =>
      ifB y49.1 (
        bindO (spec_l01Src_n N y49.2 3) fun y50 =>
        ifB (pEq y50.1 0) (
          ifB (pFit x48 [[]]) (
            some ((pApp x48 [[]]), y50.2)) (
            none)) (
          ifB (pEq y50.1 1) (
            ifB (pFit x48 [[32]]) (
              some ((pApp x48 [[32]]), y50.2)) (
              none)) (
            bindO (spec_l01Src_n N y50.2 3) fun y51 =>
            loopP (spec_l01Src_l15Cands.l12 N) N ((pAdd Go.IntKind.i64 y51.1 39), y51.2, x48, [], ()) (
              fun d =>
              let x56 := d.1;
              let x57 := d.2.1;
              let x58 := d.2.2.1;
              ifB (pFit x57 [x58]) (
                some ((pApp x57 [x58]), x56)) (
                none))))) (
        some (x48, y49.2)))) (
    loopP (spec_l01Src_l15Cands.l5 N) N (y40.1, y41.2, [], ()) (
      fun d =>
      let x63 := d.1;
      let x64 := d.2.1;
      bindO (spec_l01Src_one N x63 15) fun y65 =>
      ifB y65.1 (
        bindO (spec_l01Src_n N y65.2 3) fun y66 =>
        ifB (pEq y66.1 0) (
          ifB (pFit x64 [[]]) (
            some ((pApp x64 [[]]), y66.2)) (
            none)) (
          ifB (pEq y66.1 1) (
            ifB (pFit x64 [[32]]) (
              some ((pApp x64 [[32]]), y66.2)) (
              none)) (
            bindO (spec_l01Src_n N y66.2 3) fun y67 =>
            loopP (spec_l01Src_l15Cands.l12 N) N ((pAdd Go.IntKind.i64 y67.1 39), y67.2, x64, [], ()) (
              fun d =>
              let x72 := d.1;
              let x73 := d.2.1;
              let x74 := d.2.2.1;
              ifB (pFit x73 [x74]) (
                some ((pApp x73 [x74]), x72)) (
                none))))) (
        some (x64, y65.2))))

noncomputable def spec_l01Src_l15Prefix (N : Nat) (a0 : List (Int) × Int × Int × Int × Unit) : Option (List Int × List Int × Int × Int × Int × Unit) :=
  bindO (spec_l01Src_pick N a0 [(ByteArray.mk #[]), (ByteArray.mk #[97]), (ByteArray.mk #[97, 98]), (ByteArray.mk #[109]), (ByteArray.mk #[109, 97]), (ByteArray.mk #[120]), (ByteArray.mk #[99, 97, 102])]) fun y2 =>
  bindO (spec_l01Points N y2.1) fun y3 =>
  some (y3, y2.2)

noncomputable def laws_lwCopy (N : Nat) (a0 : List (Int)) : Option (List Int) :=
  ifB (pFit [] a0) (
    some (pApp [] a0)) (
    none)

noncomputable def laws_lwAll.l3 {R : Type} (N : Nat) (d : List (List Int) × Int × List (List Int) × Unit) (kn : List (List Int) × Int × List (List Int) × Unit → Option R) (kx : List (List Int) × Unit → Option R) : Option R :=
  let x13 := d.1;
  let x14 := d.2.1;
  let x15 := d.2.2.1;
    ifB (pLt x14 (pLen x13)) (
      bindO (idx x13 x14) fun y16 =>
      bindO (laws_lwCopy N y16) fun y17 =>
      ifB (pFit x15 [y17]) (
        kn (x13, (pAdd Go.IntKind.i64 x14 1), (pApp x15 [y17]), ())) (
        none)) (
      kx (x15, ()))
noncomputable def laws_lwAll (N : Nat) (a0 : List (List (Int))) : Option (List (List Int)) :=
  loopP (laws_lwAll.l3 N) N (a0, 0, [], ()) (
    fun d =>
    let x18 := d.1;
    some x18)

noncomputable def laws_lwSame.l4 {R : Type} (N : Nat) (d : List Int × List Int × Int × Unit) (kn : List Int × List Int × Int × Unit → Option R) (kx : (Unit) ⊕ (Bool × Unit) → Option R) : Option R :=
  let x13 := d.1;
  let x14 := d.2.1;
  let x15 := d.2.2.1;
    ifB (pLt x15 (pLen x13)) (
      bindO (idx x13 x15) fun y16 =>
      bindO (idx x14 x15) fun y17 =>
      ifB (pNe y16 y17) (
        kx (.inr (false, ()))) (
        kn (x13, x14, (pAdd Go.IntKind.i64 x15 1), ()))) (
      kx (.inl (())))
noncomputable def laws_lwSame (N : Nat) (a0 : List (Int)) (a1 : List (Int)) : Option (Bool) :=
  ifB (pNe (pLen a0) (pLen a1)) (
    some false) (
    loopP (laws_lwSame.l4 N) N (a0, a1, 0, ()) (
      onSum (fun d =>
        some true) (
      fun d =>
      let x18 := d.1;
      some x18)))

end Go.AE.F
namespace Go.AE.F
open Go.AE
noncomputable def spec_l01Src_point (N : Nat) (a0 : List (Int) × Int × Int × Int × Unit) : Option (Int × List Int × Int × Int × Int × Unit) :=
  bindO (spec_l01Src_n N a0 14) fun y15 =>
  ifB (pEq y15.1 0) (
    some (32, y15.2)) (
    ifB (pEq y15.1 1) (
      some (10, y15.2)) (
      ifB (pEq y15.1 2) (
        bindO (spec_l01Src_n N y15.2 5) fun y16 =>
        bindO (idx ([0, 9, 27, 31, 127] : List Int) y16.1) fun y17 =>
        bindO (idx ([0, 9, 27, 31, 127] : List Int) y16.1) fun y18 =>
        some (y18, y16.2)) (
        ifB (pEq y15.1 3) (
          bindO (spec_l01Src_n N y15.2 20) fun y19 =>
          bindO (idx ([768, 879, 880, 4352, 4447, 4448, 11903, 11904, 42191, 42192, 44032, 55203, 63744, 64255, 65281, 65376, 65377, 127744, 129791, 129792] : List Int) y19.1) fun y20 =>
          bindO (idx ([768, 879, 880, 4352, 4447, 4448, 11903, 11904, 42191, 42192, 44032, 55203, 63744, 64255, 65281, 65376, 65377, 127744, 129791, 129792] : List Int) y19.1) fun y21 =>
          some (y21, y19.2)) (
          ifB (pEq y15.1 4) (
            bindO (spec_l01Src_n N y15.2 8) fun y22 =>
            bindO (idx ([233, 960, 8364, 65533, 1114111, 65535, 55295, 57344] : List Int) y22.1) fun y23 =>
            bindO (idx ([233, 960, 8364, 65533, 1114111, 65535, 55295, 57344] : List Int) y22.1) fun y24 =>
            some (y24, y22.2)) (
            ifB (pEq y15.1 5) (
              bindO (spec_l01Src_n N y15.2 5) fun y25 =>
              bindO (idx ([46, 44, 45, 40, 36] : List Int) y25.1) fun y26 =>
              bindO (idx ([46, 44, 45, 40, 36] : List Int) y25.1) fun y27 =>
              some (y27, y25.2)) (
              ifB (pEq y15.1 6) (
                bindO (spec_l01Src_n N y15.2 10) fun y28 =>
                some ((pAdd Go.IntKind.i64 48 y28.1), y28.2)) (
                bindO (spec_l01Src_n N y15.2 6) fun y29 =>
                some ((pAdd Go.IntKind.i64 97 y29.1), y29.2))))))))

noncomputable def spec_l01Src_points.l2 {R : Type} (N : Nat) (d : Int × (List Int × Int × Int × Int × Unit) × List Int × Unit) (kn : Int × (List Int × Int × Int × Int × Unit) × List Int × Unit → Option R) (kx : (List Int × Int × Int × Int × Unit) × List Int × Unit → Option R) : Option R :=
  let x13 := d.1;
  let x14 := d.2.1;
  let x15 := d.2.2.1;
    ifB (pGt x13 0) (
      bindO (spec_l01Src_point N x14) fun y16 =>
      ifB (pFit x15 [y16.1]) (
        kn ((pSub Go.IntKind.i64 x13 1), y16.2, (pApp x15 [y16.1]), ())) (
        none)) (
      kx (x14, x15, ()))
noncomputable def spec_l01Src_points (N : Nat) (a0 : List (Int) × Int × Int × Int × Unit) (a1 : Int) : Option (List Int × List Int × Int × Int × Int × Unit) :=
  loopP (spec_l01Src_points.l2 N) N (a1, a0, [], ()) (
    fun d =>
    let x17 := d.1;
    let x18 := d.2.1;
    some (x18, x17))

end Go.AE.F
namespace Go.AE.F
open Go.AE
noncomputable def spec_l01Src_l02Buf (N : Nat) (a0 : List (Int) × Int × Int × Int × Unit) : Option ((List Int × Int × Int × Unit) × List Int × Int × Int × Int × Unit) :=
  bindO (spec_l01Src_n N a0 (pAdd Go.IntKind.i64 14 (pMul Go.IntKind.i64 2 a0.2.2.2.1))) fun y25 =>
  bindO (spec_l01Src_points N y25.2 y25.1) fun y26 =>
  bindO (spec_l01Src_one N y26.2 50) fun y27 =>
  ifB y27.1 (
    bindO (spec_l01Src_n N y27.2 4) fun y28 =>
    bindO (spec_l01Src_points N y28.2 (pAdd Go.IntKind.i64 298 y28.1)) fun y29 =>
    bindO (spec_l01Src_n N y29.2 (pAdd Go.IntKind.i64 (pLen y29.1) 1)) fun y30 =>
    bindO (spec_l01Src_n N y30.2 (pAdd Go.IntKind.i64 (pLen y29.1) 1)) fun y31 =>
    bindO (spec_l01Src_one N y31.2 15) fun y32 =>
    ifB y32.1 (
      bindO (spec_l01Src_n N y32.2 3) fun y33 =>
      ifB (pEq y33.1 0) (
        bindO (spec_l01Src_n N y33.2 2) fun y34 =>
        bindO (idx [(-1), (pAdd Go.IntKind.i64 (pLen y29.1) 1)] y34.1) fun y35 =>
        bindO (idx [(-1), (pAdd Go.IntKind.i64 (pLen y29.1) 1)] y34.1) fun y36 =>
        some ((y29.1, (y36, (y31.1, ()))), y34.2)) (
        ifB (pEq y33.1 1) (
          bindO (spec_l01Src_n N y33.2 2) fun y37 =>
          bindO (idx [(-1), (pAdd Go.IntKind.i64 (pLen y29.1) 1)] y37.1) fun y38 =>
          bindO (idx [(-1), (pAdd Go.IntKind.i64 (pLen y29.1) 1)] y37.1) fun y39 =>
          some ((y29.1, (y30.1, (y39, ()))), y37.2)) (
          ifB (pFit y29.1 [55296]) (
            some (((pApp y29.1 [55296]), (y30.1, (y31.1, ()))), y33.2)) (
            none)))) (
      some ((y29.1, (y30.1, (y31.1, ()))), y32.2))) (
    bindO (spec_l01Src_n N y27.2 (pAdd Go.IntKind.i64 (pLen y26.1) 1)) fun y40 =>
    bindO (spec_l01Src_n N y40.2 (pAdd Go.IntKind.i64 (pLen y26.1) 1)) fun y41 =>
    bindO (spec_l01Src_one N y41.2 15) fun y42 =>
    ifB y42.1 (
      bindO (spec_l01Src_n N y42.2 3) fun y43 =>
      ifB (pEq y43.1 0) (
        bindO (spec_l01Src_n N y43.2 2) fun y44 =>
        bindO (idx [(-1), (pAdd Go.IntKind.i64 (pLen y26.1) 1)] y44.1) fun y45 =>
        bindO (idx [(-1), (pAdd Go.IntKind.i64 (pLen y26.1) 1)] y44.1) fun y46 =>
        some ((y26.1, (y46, (y41.1, ()))), y44.2)) (
        ifB (pEq y43.1 1) (
          bindO (spec_l01Src_n N y43.2 2) fun y47 =>
          bindO (idx [(-1), (pAdd Go.IntKind.i64 (pLen y26.1) 1)] y47.1) fun y48 =>
          bindO (idx [(-1), (pAdd Go.IntKind.i64 (pLen y26.1) 1)] y47.1) fun y49 =>
          some ((y26.1, (y40.1, (y49, ()))), y47.2)) (
          ifB (pFit y26.1 [55296]) (
            some (((pApp y26.1 [55296]), (y40.1, (y41.1, ()))), y43.2)) (
            none)))) (
      some ((y26.1, (y40.1, (y41.1, ()))), y42.2)))

noncomputable def laws_lwBuf (N : Nat) (a0 : List (Int) × Int × Int × Unit) (a1 : List (Int) × Int × Int × Unit) : Option (Bool) :=
  bindO (laws_lwSame N a0.1 a1.1) fun y3 =>
  bindO (
    ifB y3 (
      some (pEq a0.2.1 a1.2.1)) (
      some false)) fun y4 =>
  bindO (
    ifB y4 (
      some (pEq a0.2.2.1 a1.2.2.1)) (
      some false)) fun y5 =>
  some y5

end Go.AE.F
namespace Go.AE.F
open Go.AE
noncomputable def spec_l02Moved (N : Nat) (a0 : Int) (a1 : Int) (a2 : Int) (a3 : Int) : Option (Int) :=
  ifB (pLe a0 a1) (
    some a0) (
    ifB (pLt a0 a2) (
      some a1) (
      some (pAdd Go.IntKind.i64 a0 a3)))

noncomputable def spec_BufReplace (N : Nat) (a0 : List (Int) × Int × Int × Unit) (a1 : Int) (a2 : Int) (a3 : List (Int)) : Option ((List Int × Int × Int × Unit) × List Int × Int × Unit) :=
  ifB (pGt (pLen a3) 400) (
    some (([], (0, (0, ()))), ([], (2, ())))) (
    bindO (spec_BufRight N a0) fun y11 =>
    bindO (
      ifB (pNot y11) (
        some true) (
        bindO (spec_PointsRight N a3) fun y13 =>
        some (pNot y13))) fun y12 =>
    ifB y12 (
      some (([], (0, (0, ()))), ([], (1, ())))) (
      bindO (
        ifB (pLt a1 0) (
          some true) (
          some (pGt a1 a2))) fun y14 =>
      bindO (
        ifB y14 (
          some true) (
          some (pGt a2 (pLen a0.1)))) fun y15 =>
      ifB y15 (
        some (([], (0, (0, ()))), ([], (8, ())))) (
        ifB (pGt (pAdd Go.IntKind.i64 (pSub Go.IntKind.i64 (pLen a0.1) (pSub Go.IntKind.i64 a2 a1)) (pLen a3)) 300) (
          some (([], (0, (0, ()))), ([], (5, ())))) (
          bindO (spec_l02Moved N a0.2.1 a1 a2 (pSub Go.IntKind.i64 (pLen a3) (pSub Go.IntKind.i64 a2 a1))) fun y16 =>
          bindO (spec_l02Moved N a0.2.2.1 a1 a2 (pSub Go.IntKind.i64 (pLen a3) (pSub Go.IntKind.i64 a2 a1))) fun y17 =>
          ifB (pLe 0 0) (
            ifB (pLe 0 a1) (
              ifB (pLe a1 (pLen a0.1)) (
                ifB (pLe 0 a2) (
                  ifB (pLe a2 (pLen a0.1)) (
                    ifB (pLe (pLen a0.1) (pLen a0.1)) (
                      bindO (spec_l01Copy N (sub a0.1 0 a1)) fun y18 =>
                      ifB (pFit y18 a3) (
                        ifB (pFit (pApp y18 a3) (sub a0.1 a2 (pLen a0.1))) (
                          bindO (
                            ifB (pEq a1 a2) (
                              some (pEq a0.2.1 a1)) (
                              some false)) fun y19 =>
                          ifB y19 (
                            ifB (pLe 0 a1) (
                              ifB (pLe a1 a2) (
                                ifB (pLe a2 (pLen a0.1)) (
                                  bindO (spec_l01Copy N (sub a0.1 a1 a2)) fun y20 =>
                                  some (((pApp (pApp y18 a3) (sub a0.1 a2 (pLen a0.1))), ((pAdd Go.IntKind.i64 a1 (pLen a3)), (y17, ()))), (y20, (0, ())))) (
                                  none)) (
                                none)) (
                              none)) (
                            ifB (pLe 0 a1) (
                              ifB (pLe a1 a2) (
                                ifB (pLe a2 (pLen a0.1)) (
                                  bindO (spec_l01Copy N (sub a0.1 a1 a2)) fun y21 =>
                                  some (((pApp (pApp y18 a3) (sub a0.1 a2 (pLen a0.1))), (y16, (y17, ()))), (y21, (0, ())))) (
                                  none)) (
                                none)) (
                              none))) (
                          none)) (
                        none)) (
                      none)) (
                    none)) (
                  none)) (
                none)) (
              none)) (
            none)))))

noncomputable def spec_BufInsert (N : Nat) (a0 : List (Int) × Int × Int × Unit) (a1 : List (Int)) : Option ((List Int × Int × Int × Unit) × List Int × Int × Unit) :=
  bindO (spec_BufReplace N a0 a0.2.1 a0.2.1 a1) fun y1 =>
  some y1

noncomputable def spec_CompPut (N : Nat) (a0 : List (Int) × Int × Int × Unit) (a1 : List (List (Int))) : Option ((List Int × Int × Int × Unit) × List Int × Int × Unit) :=
  ifB (pGt (pLen a1) 400) (
    some (([], (0, (0, ()))), ([], (2, ())))) (
    bindO (spec_BufRight N a0) fun y9 =>
    bindO (
      ifB (pNot y9) (
        some true) (
        bindO (spec_CandsRight N a1) fun y11 =>
        some (pNot y11))) fun y10 =>
    ifB y10 (
      some (([], (0, (0, ()))), ([], (1, ())))) (
      bindO (spec_WordAhead N a0) fun y12 =>
      bindO (spec_CompMatch N a1 y12) fun y13 =>
      ifB (pEq (pLen y13) 0) (
        some (([], (0, (0, ()))), ([], (4, ())))) (
        bindO (spec_CompCommon N a1 y12) fun y14 =>
        ifB (pLe 0 (pLen y12)) (
          ifB (pLe (pLen y12) (pLen y14)) (
            ifB (pLe (pLen y14) (pLen y14)) (
              bindO (spec_l01Copy N (sub y14 (pLen y12) (pLen y14))) fun y15 =>
              ifB (pEq (pLen y13) 1) (
                ifB (pFit y15 [32]) (
                  bindO (spec_BufInsert N a0 (pApp y15 [32])) fun y16 =>
                  some y16) (
                  none)) (
                bindO (spec_BufInsert N a0 y15) fun y17 =>
                some y17)) (
              none)) (
            none)) (
          none))))

noncomputable def slices_Grow_Sint64_int64 (N : Nat) (a0 : List (Int)) (a1 : Int) : Option (List Int) :=
  ifB (pLt a1 0) (
    none) (
    ifB (pGt (pSub Go.IntKind.i64 a1 (pSub Go.IntKind.i64 0 (pLen ([] : List Int)))) 0) (
      ifB (pEq 0 0) (
        ifB (pEq 0 0) (
          ifB (pLe 0 (pSub Go.IntKind.i64 a1 (pSub Go.IntKind.i64 0 (pLen ([] : List Int))))) (
            ifB (pLe (pSub Go.IntKind.i64 a1 (pSub Go.IntKind.i64 0 (pLen ([] : List Int)))) 68719476736) (
              ifB (pLe 0 0) (
                ifB (pLe 0 (pLen ([] : List Int))) (
                  ifB (pLe (pLen ([] : List Int)) (pLen (pRepl (pSub Go.IntKind.i64 a1 (pSub Go.IntKind.i64 0 (pLen ([] : List Int)))) (0 : Int)))) (
                    some (sub (pRepl (pSub Go.IntKind.i64 a1 (pSub Go.IntKind.i64 0 (pLen ([] : List Int)))) (0 : Int)) 0 (pLen ([] : List Int)))) (
                    none)) (
                  none)) (
                none)) (
              none)) (
            none)) (
          none)) (
        none)) (
      some []))

noncomputable def slices_Concat_Sint64_int64.l3 {R : Type} (N : Nat) (d : List (List Int) × Int × List (List Int) × Int × Int × Unit) (kn : List (List Int) × Int × List (List Int) × Int × Int × Unit → Option R) (kx : List (List Int) × Int × Unit → Option R) : Option R :=
  let x28 := d.1;
  let x29 := d.2.1;
  let x30 := d.2.2.1;
  let x31 := d.2.2.2.1;
  let x32 := d.2.2.2.2.1;
    ifB (pLt x32 x31) (
      bindO (idx x30 x32) fun y33 =>
      ifB (pLt (pAdd Go.IntKind.i64 x29 (pLen y33)) 0) (
        none) (
        kn (x28, (pAdd Go.IntKind.i64 x29 (pLen y33)), x30, x31, (pAdd Go.IntKind.i64 x32 1), ()))) (
      kx (x28, x29, ()))
noncomputable def slices_Concat_Sint64_int64.l11 {R : Type} (N : Nat) (d : List (List Int) × Int × Int × List Int × Unit) (kn : List (List Int) × Int × Int × List Int × Unit → Option R) (kx : List Int × Unit → Option R) : Option R :=
  let x37 := d.1;
  let x38 := d.2.1;
  let x39 := d.2.2.1;
  let x40 := d.2.2.2.1;
    ifB (pLt x39 x38) (
      bindO (idx x37 x39) fun y41 =>
      ifB (pFit x40 y41) (
        kn (x37, x38, (pAdd Go.IntKind.i64 x39 1), (pApp x40 y41), ())) (
        none)) (
      kx (x40, ()))
noncomputable def slices_Concat_Sint64_int64 (N : Nat) (a0 : List (List (Int))) : Option (List Int) :=
  loopP (slices_Concat_Sint64_int64.l3 N) N (a0, 0, a0, (pLen a0), 0, ()) (
    fun d =>
    let x34 := d.1;
    let x35 := d.2.1;
    bindO (slices_Grow_Sint64_int64 N [] x35) fun y36 =>
    loopP (slices_Concat_Sint64_int64.l11 N) N (x34, (pLen x34), 0, y36, ()) (
      fun d =>
      let x42 := d.1;
      some x42))

noncomputable def impl_replace_c1 (N : Nat) (a0 : Int) (a1 : Int) (a2 : Int) (a3 : Int) : Option (Int) :=
  ifB (pLe a0 a1) (
    some a0) (
    ifB (pLt a0 a2) (
      some a1) (
      some (pAdd Go.IntKind.i64 a0 a3)))

noncomputable def impl_replace (N : Nat) (a0 : List (Int) × Int × Int × Unit) (a1 : Int) (a2 : Int) (a3 : List (Int)) : Option ((List Int × Int × Int × Unit) × List Int × Int × Unit) :=
  ifB (pLt a1 0) (
    some (([], (0, (0, ()))), ([], (8, ())))) (
    ifB (pGt a1 a2) (
      some (([], (0, (0, ()))), ([], (8, ())))) (
      bindO (impl_size_Sint64 N a0.1) fun y10 =>
      ifB (pGt a2 y10) (
        some (([], (0, (0, ()))), ([], (8, ())))) (
        bindO (impl_size_Sint64 N a3) fun y11 =>
        bindO (impl_size_Sint64 N a0.1) fun y12 =>
        ifB (pGt (pAdd Go.IntKind.i64 y12 (pSub Go.IntKind.i64 y11 (pSub Go.IntKind.i64 a2 a1))) 300) (
          some (([], (0, (0, ()))), ([], (5, ())))) (
          ifB (pLe 0 0) (
            ifB (pLe 0 a1) (
              ifB (pLe a1 (pLen a0.1)) (
                ifB (pLe 0 a2) (
                  ifB (pLe a2 (pLen a0.1)) (
                    ifB (pLe (pLen a0.1) (pLen a0.1)) (
                      bindO (slices_Concat_Sint64_int64 N [(sub a0.1 0 a1), a3, (sub a0.1 a2 (pLen a0.1))]) fun y13 =>
                      bindO (impl_replace_c1 N a0.2.1 a1 a2 (pSub Go.IntKind.i64 y11 (pSub Go.IntKind.i64 a2 a1))) fun y14 =>
                      bindO (impl_replace_c1 N a0.2.2.1 a1 a2 (pSub Go.IntKind.i64 y11 (pSub Go.IntKind.i64 a2 a1))) fun y15 =>
                      bindO (
                        ifB (pEq a1 a2) (
                          some (pEq a0.2.1 a1)) (
                          some false)) fun y16 =>
                      ifB y16 (
                        bindO (impl_size_Sint64 N a3) fun y17 =>
                        ifB (pLe 0 a1) (
                          ifB (pLe a1 a2) (
                            ifB (pLe a2 (pLen a0.1)) (
                              bindO (slices_Clone_Sint64_int64 N (sub a0.1 a1 a2)) fun y18 =>
                              some ((y13, ((pAdd Go.IntKind.i64 a1 y17), (y15, ()))), (y18, (0, ())))) (
                              none)) (
                            none)) (
                          none)) (
                        ifB (pLe 0 a1) (
                          ifB (pLe a1 a2) (
                            ifB (pLe a2 (pLen a0.1)) (
                              bindO (slices_Clone_Sint64_int64 N (sub a0.1 a1 a2)) fun y19 =>
                              some ((y13, (y14, (y15, ()))), (y19, (0, ())))) (
                              none)) (
                            none)) (
                          none))) (
                      none)) (
                    none)) (
                  none)) (
                none)) (
              none)) (
            none)))))

noncomputable def impl_CompPut (N : Nat) (a0 : List (Int) × Int × Int × Unit) (a1 : List (List (Int))) : Option ((List Int × Int × Int × Unit) × List Int × Int × Unit) :=
  bindO (impl_isMany N (pLen a1)) fun y14 =>
  ifB y14 (
    some (([], (0, (0, ()))), ([], (2, ())))) (
    bindO (impl_BufRight N a0) fun y15 =>
    bindO (
      ifB (pNot y15) (
        some true) (
        bindO (impl_CandsRight N a1) fun y17 =>
        some (pNot y17))) fun y16 =>
    ifB y16 (
      some (([], (0, (0, ()))), ([], (1, ())))) (
      bindO (impl_Buf_ahead N a0) fun y18 =>
      bindO (impl_matches N a1 y18) fun y19 =>
      ifB (pEq (pLen y19.1) 0) (
        some (([], (0, (0, ()))), ([], (4, ())))) (
        bindO (impl_common N a1 y18) fun y20 =>
        ifB (pLe 0 (pLen y18)) (
          ifB (pLe (pLen y18) (pLen y20)) (
            ifB (pLe (pLen y20) (pLen y20)) (
              bindO (slices_Clone_Sint64_int64 N (sub y20 (pLen y18) (pLen y20))) fun y21 =>
              ifB (pEq (pLen y19.1) 1) (
                ifB (pFit y21 [32]) (
                  bindO (impl_replace N a0 a0.2.1 a0.2.1 (pApp y21 [32])) fun y22 =>
                  some y22) (
                  none)) (
                bindO (impl_replace N a0 a0.2.1 a0.2.1 y21) fun y23 =>
                some y23)) (
              none)) (
            none)) (
          none))))

end Go.AE.F
namespace Go.AE.F
open Go.AE
noncomputable def spec_DrawCompPut (N : Nat) (a0 : List (Int)) : Option ((List Int × Int × Int × Unit) × List (List Int)) :=
  bindO (spec_l01Source N a0) fun y6 =>
  bindO (spec_l01Src_l02Buf N y6) fun y7 =>
  bindO (spec_l01Src_l15Prefix N y7.2) fun y8 =>
  ifB (pFit [32] y8.1) (
    bindO (spec_BufInsert N y7.1 (pApp [32] y8.1)) fun y9 =>
    ifB (pEq y9.2.2.1 0) (
      bindO (spec_l01Src_l15Cands N y8.2) fun y10 =>
      some (y9.1, y10.1)) (
      bindO (spec_l01Src_l15Cands N y8.2) fun y11 =>
      some (y7.1, y11.1))) (
    none)

noncomputable def laws_FnCompPut (N : Nat) (a0 : List (Int)) : Option (Bool) :=
  ifB (pGt (pLen a0) 1048576) (
    some true) (
    bindO (spec_DrawCompPut N a0) fun y22 =>
    bindO (spec_CompPut N y22.1 y22.2) fun y23 =>
    bindO (laws_lwAll N y22.2) fun y24 =>
    bindO (impl_CompPut N y22.1 y24) fun y25 =>
    ifB (pNe y25.2.2.1 y23.2.2.1) (
      some false) (
      ifB (pNe y23.2.2.1 0) (
        some true) (
        bindO (impl_WordAhead N y22.1) fun y26 =>
        bindO (laws_lwAll N y22.2) fun y27 =>
        bindO (laws_lwCopy N y26) fun y28 =>
        bindO (impl_CompMatch N y27 y28) fun y29 =>
        ifB (pNe (pLen y29) 1) (
          bindO (impl_WordAhead N y25.1) fun y30 =>
          bindO (laws_lwAll N y22.2) fun y31 =>
          bindO (laws_lwCopy N y26) fun y32 =>
          bindO (impl_CompCommon N y31 y32) fun y33 =>
          bindO (laws_lwSame N y30 y33) fun y34 =>
          bindO (
            ifB y34 (
              bindO (laws_lwBuf N y25.1 y23.1) fun y36 =>
              some y36) (
              some false)) fun y35 =>
          some y35) (
          bindO (
            ifB (pLt y25.1.2.1 1) (
              some true) (
              bindO (idx y25.1.1 (pSub Go.IntKind.i64 y25.1.2.1 1)) fun y38 =>
              some (pNe y38 32))) fun y37 =>
          ifB y37 (
            some false) (
            bindO (idx y29 0) fun y39 =>
            bindO (idx y22.2 y39) fun y40 =>
            bindO (impl_WordAhead N (y25.1.1, ((pSub Go.IntKind.i64 y25.1.2.1 1), y25.1.2.2))) fun y41 =>
            bindO (laws_lwSame N y41 y40) fun y42 =>
            ifB y42 (
              bindO (laws_lwBuf N y25.1 y23.1) fun y43 =>
              some y43) (
              some false))))))

end Go.AE.F
